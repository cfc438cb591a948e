/- Several texts in one: see the remarks ahead of each part. No condition but those told there. -/
import Derived.Test.YtljacjjeinmfnaaU11
import Derived.Test.YtljacjjeinmfnaaU12
import Derived.Test.YtljacjjeinmfnaaUKEm
import Derived.Stop.BytesEq
import Derived.Laws.BitsAllLaws
import Derived.Test.YtljacjjeinmfnaaU5
import Derived.Test.YtljacjjeinmfnaaU4
/- The engine, words told apart. For whatever program. No condition. -/
namespace Go.Proofs.Ytljacjjeinmfnaa
set_option linter.unusedVariables false
set_option linter.unusedSimpArgs false
open Go Go.RowKit
section
variable {P : Program} {n : Nat} {l : List (Nat × Value)} {E : World} {L Ls : List Heaplet} {X Y : Act → World → Prop} {d : Nat} {t t' ty e : TypeId} {x y : Operand}
end
end Go.Proofs.Ytljacjjeinmfnaa
/- quarrylaw14.wakes; quarrylaw14.BookMade answers true. No condition. -/
namespace Go.Proofs.Ytljacjjeinmfnaa
set_option linter.unusedVariables false
set_option linter.unusedSimpArgs false
open Go Go.RowKit
set_option maxRecDepth 100000
def mkA0 : List UInt8 := [106, 199, 234, 51, 248, 131, 30, 169, 220, 197, 51, 147, 170, 168, 139, 37, 167, 133, 219, 240]
theorem mk_form : (mkT mkA0 0).form = [214, 148, 106, 199, 234, 51, 248, 131, 30, 169, 220, 197, 51, 147, 170, 168, 139, 37, 167, 133, 219, 240, 128] := by
  rw [mkT, itL, form_true, forms_cons, forms_cons, forms_nil, itS, itS, form_false, form_false]
  decide +kernel
theorem mk_last : madeA mkA0 0 = [205, 35, 74, 71, 27, 114, 186, 47, 28, 207, 10, 112, 252, 171, 166, 72, 165, 238, 205, 141] := by
  rw [madeA, mk_form, lastA, kmade]; rfl
theorem WkMade_b : Fn Try.prog 9 #[.agg #[.int .u8 106, .int .u8 199, .int .u8 234, .int .u8 51, .int .u8 248, .int .u8 131, .int .u8 30, .int .u8 169, .int .u8 220, .int .u8 197, .int .u8 51, .int .u8 147, .int .u8 170, .int .u8 168, .int .u8 139, .int .u8 37, .int .u8 167, .int .u8 133, .int .u8 219, .int .u8 240], .int .u64 0] [] [] (fun v L => v = .agg #[.int .u8 205, .int .u8 35, .int .u8 74, .int .u8 71, .int .u8 27, .int .u8 114, .int .u8 186, .int .u8 47, .int .u8 28, .int .u8 207, .int .u8 10, .int .u8 112, .int .u8 252, .int .u8 171, .int .u8 166, .int .u8 72, .int .u8 165, .int .u8 238, .int .u8 205, .int .u8 141] ∧ L = []) := by
  have h := FMade_b (a := mkA0) rfl 0
  rw [show (0 : UInt64).toNat = 0 from rfl, mk_last] at h
  exact h
theorem BWakes_f : Fn Try.prog 13 #[] [] [] (fun v L => v = .bool true ∧ L = []) := by
  refine Fn.enter (vs := []) Try.func13 rfl rfl rfl ?_
  intro E R hR
  change At _ _ E [R] _
  refine At.seq fun K1 hk_1 => ?_
  refine At.region ?_
  refine op_assign (nxlf rfl) rfl rfl ?_
  refine At.opsNil ?_
  refine At.norm (hk_1 ?_)
  refine At.seq fun K2 hk_2 => ?_
  refine At.region ?_
  refine op_buildA (out := [_, _, _, _, _, _, _, _, _, _, _, _, _, _, _, _, _, _, _, _]) (nxlf rfl) ze23 ae23 (.cons rfl (.cons rfl (.cons rfl (.cons rfl (.cons rfl (.cons rfl (.cons rfl (.cons rfl (.cons rfl (.cons rfl (.cons rfl (.cons rfl (.cons rfl (.cons rfl (.cons rfl (.cons rfl (.cons rfl (.cons rfl (.cons rfl (.cons rfl .nil)))))))))))))))))))) rfl rfl ?_
  refine op_callA (nxla rfl) (.cons rfl (.cons rfl .nil)) (WkMade_b) Try.func9 rfl rfl (by simp) rfl ?_
  rintro v5 L5 ⟨rfl, rfl⟩
  change At _ _ _ [R] _
  refine op_alloc (nxla rfl) ze23 rfl (fun N1 b1 B1 => ?_)
  change Blk N1 b1 _ [.int .u8 0, .int .u8 0, .int .u8 0, .int .u8 0, .int .u8 0, .int .u8 0, .int .u8 0, .int .u8 0, .int .u8 0, .int .u8 0, .int .u8 0, .int .u8 0, .int .u8 0, .int .u8 0, .int .u8 0, .int .u8 0, .int .u8 0, .int .u8 0, .int .u8 0, .int .u8 0] at B1
  refine op_store (nxl rfl) sz23 rfl rfl rfl rfl rfl B1 (by simp) sel0 (fun N1 B1 => ?_)
  simp only [setL, List.set] at B1
  refine At.opsNil ?_
  refine At.norm (hk_2 ?_)
  refine At.seq fun K3 hk_3 => ?_
  refine At.region ?_
  refine op_callA (nxla rfl) (.cons rfl .nil) (FReadTx_nil) Try.func27 rfl rfl (by simp) rfl ?_
  rintro v7 L7 ⟨rfl, rfl⟩
  change At _ _ _ [N1, R] _
  refine op_move (nxlf rfl) rfl rfl ?_
  refine op_extract (nxlf rfl) rfl rfl rfl ?_
  refine op_extract (nxlf rfl) rfl rfl rfl ?_
  refine op_alloc (nxla rfl) ze58 rfl (fun N2 b2 B2 => ?_)
  change Blk N2 b2 _ z58 at B2
  refine op_store (nxl rfl) sz58 rfl rfl rfl rfl rfl B2 (by rw [z58_len]; exact Nat.le_refl _) sel0 (fun N2 B2 => ?_)
  rw [setL_whole rfl] at B2
  refine op_assign (nxlf rfl) rfl rfl ?_
  refine At.opsNil ?_
  refine At.norm (hk_3 ?_)
  refine At.seq fun K4 hk_4 => ?_
  refine At.region ?_
  refine op_idxA (nxlf rfl) ae23 rfl rfl (show _ = ((0 : Nat) : Int) from rfl) (by omega) rfl ?_
  refine op_loadB (nxlf rfl) sc5 rfl B1 (by first | rfl) mem1 rfl ?_
  refine op_eql (nxlf rfl) rfl rfl rfl ?_
  change At _ ((12, .bool true) :: _) _ _ _
  refine op_move (nxlf rfl) rfl rfl ?_
  refine op_idxA (nxgf rfl rfl rfl rfl) ae23 rfl rfl (show _ = ((19 : Nat) : Int) from rfl) (by omega) rfl ?_
  refine op_loadB (nxgf rfl rfl rfl rfl) sc5 rfl B1 (by first | rfl) mem1 rfl ?_
  refine op_eql (nxgf rfl rfl rfl rfl) rfl rfl rfl ?_
  change At _ ((16, .bool true) :: _) _ _ _
  refine op_pickT (nxlf rfl) rfl rfl rfl ?_
  refine op_move (nxlf rfl) rfl rfl ?_
  refine op_move (nxgf rfl rfl rfl rfl) rfl rfl ?_
  refine op_eql (nxgf rfl rfl rfl rfl) rfl rfl rfl ?_
  change At _ ((20, .bool true) :: _) _ _ _
  refine op_pickT (nxlf rfl) rfl rfl rfl ?_
  refine op_assign (nxlf rfl) rfl rfl ?_
  refine At.opsNil ?_
  refine At.norm (hk_4 ?_)
  refine At.ret (?_)
  refine At.sub (L' := [R]) (.cons _ (.cons _ (.cons_cons _ (.slnil)))) ?_
  refine At.ret1 (L1 := []) rfl (.tmp rfl .nil) (.refl _) (.refl _) ?_
  exact ⟨rfl, rfl⟩
end Go.Proofs.Ytljacjjeinmfnaa
/- The engine, arrays of bytes compared. For whatever program. No condition. -/
namespace Go.Proofs.Ytljacjjeinmfnaa
set_option linter.unusedVariables false
set_option linter.unusedSimpArgs false
open Go Go.RowKit
theorem all_range8 : ∀ (xs ys : List UInt8), xs.length = ys.length → ((List.range xs.length).all fun i => xs.getD i 0 == ys.getD i 0) = (xs == ys)
  | [], [], _ => rfl
  | x :: xs, y :: ys, h => by
    have ih := all_range8 xs ys (by simpa using h)
    rw [List.length_cons, List.range_succ_eq_map, List.all_cons, List.all_map]
    simp only [List.getD_cons_zero, Function.comp_def, List.getD_cons_succ, ih]
    simp [List.cons_beq_cons]
  | [], _ :: _, h => by simp at h
  | _ :: _, [], h => by simp at h
section
variable {P : Program}
theorem run_equalIn_bytes8 (w : World) (d : Nat) (t e : TypeId) (n : Nat) (ht : P.underlying t = some (.array n e)) (he : P.underlying e = some (.int .u8)) (hsz : ∀ w, (sizeOf e).run P w = .ok 1 w)
    (xs ys : List UInt8) (hx : xs.length = n) (hy : ys.length = n) :
    (Op.equalIn (d + 2) t (.agg (u8s xs).toArray) (.agg (u8s ys).toArray)).run P w = .ok (xs == ys) w := by
  rw [← all_range8 xs ys (hx.trans hy.symm), hx, List.range_eq_range', Op.equalIn]
  simp only [Sem.run_bind, Go.run_underlying ht, Result.andThen_ok, hsz, Std.Legacy.Range.forIn_eq_forIn_range', Std.Legacy.Range.size, Nat.sub_zero, Nat.add_sub_cancel, Nat.div_one]
  have hl : ∀ i ∈ List.range' 0 n 1, i < n := fun i hi => by simpa using (List.mem_range'_1.1 hi).2
  generalize List.range' 0 n 1 = l at hl ⊢
  induction l with
  | nil => simp
  | cons i l ih =>
    have hi : i < n := hl i (by simp)
    have px : (part e (u8s xs).toArray (i * 1)).run P w = .ok (.int .u8 ((xs.getD i 0).toNat : Int)) w := by
      simp [part, isAgg, Go.run_underlying he, u8s, vb, List.getD, List.getElem?_eq_getElem (show i < xs.length by omega)]
    have py : (part e (u8s ys).toArray (i * 1)).run P w = .ok (.int .u8 ((ys.getD i 0).toNat : Int)) w := by
      simp [part, isAgg, Go.run_underlying he, u8s, vb, List.getD, List.getElem?_eq_getElem (show i < ys.length by omega)]
    have pe : (Op.equalIn (d + 1) e (.int .u8 ((xs.getD i 0).toNat : Int)) (.int .u8 ((ys.getD i 0).toNat : Int))).run P w = .ok (xs.getD i 0 == ys.getD i 0) w := by
      rw [run_equalIn_int w d e .u8 .u8 _ _ he]
      congr 1
      rw [Bool.eq_iff_iff]
      simp [← UInt8.toNat_inj]
      omega
    simp only [List.forIn_cons, Sem.run_bind, px, py, pe, Result.andThen_ok, List.all_cons]
    cases hb : (xs.getD i 0 == ys.getD i 0)
    · simp
    · simp only [Bool.not_true, Bool.false_eq_true, if_false, Sem.run_pure, Result.andThen_ok, Bool.true_and]
      exact ih fun j hj => hl j (by simp [hj])
variable {n : Nat} {l : List (Nat × Value)} {E : World} {L Ls : List Heaplet} {X Y : Act → World → Prop} {d : Nat} {t t' ty e : TypeId} {x y : Operand}
theorem op_eqW8 {a b : List UInt8} {k : Nat} {pos : _} {aft : _} {g : _} (s : NxF P n l E L Ls ⟨some d, .binOp .eql t x y t', ty, pos, aft, g⟩ X Y) (ht : aelt P t = some (k, e, 1)) (he : P.underlying e = some (.int .u8)) (hg : P.eqGuardType P.depth t = false) (hx : ev l x = some (.agg (u8s a).toArray)) (hy : ev l y = some (.agg (u8s b).toArray)) (ha : a.length = k) (hb : b.length = k) (hn : Nat.ble (d + 1) n = true) (h : At n ((d, .bool (decide (a = b))) :: l) E L Y) : At n l E L X := by
  obtain ⟨hu, i, hi, hsz⟩ := aelt_spec ht
  exact op_bin s hx hy (fun w => eqGuard_agg hg w) (fun w => by
    rw [run_eql_struct, run_equalIn_bytes8 w 9998 t e k hu he (fun w => by rw [run_sizeOf hi, hsz]) a b ha hb]
    simp only [Result.andThen_ok, show (a == b) = decide (a = b) from by rw [Bool.eq_iff_iff]; simp]) hn h
end
end Go.Proofs.Ytljacjjeinmfnaa
/- quarrylaw14.BookMade answers true. No condition. -/
namespace Go.Proofs.Ytljacjjeinmfnaa
set_option linter.unusedVariables false
set_option linter.unusedSimpArgs false
open Go Go.RowKit
set_option maxRecDepth 100000
/-- A maker's cells. -/
def mkC (a : List UInt8) (n : UInt64) (x : Nat) (v : Value) : List Value := u8s a ++ (.int .u64 (n.toNat : Int) :: (u64s (wl x) ++ [v]))
section
variable {N : Heaplet} {ao : Option Addr} {m cap : Nat} {a l : List UInt8} {n : UInt64} {x : Nat} {v : Value}
theorem u8s_len (l : List UInt8) : (u8s l).length = l.length := by simp [u8s]
end
end Go.Proofs.Ytljacjjeinmfnaa
/- The filter of logs: plain laws. No condition. -/
namespace Go.Proofs.Ytljacjjeinmfnaa
set_option linter.unusedVariables false
set_option linter.unusedSimpArgs false
open Go Go.RowKit
/-- A log: its address, its topics, its data. -/
structure LogM where
  addr : List UInt8
  topics : List (List UInt8)
  data : List UInt8
theorem wrap_i64_small (n : Nat) (h : n < 4294967296) : IntKind.i64.wrap (n : Int) = (n : Int) := by
  rw [IntKind.wrap_i64]; omega
theorem or_i64 (a b : Nat) (ha : a < 65536) (hb : b < 65536) : bits .or .i64 (a : Int) (b : Int) = ((a ||| b : Nat) : Int) := by
  have hx : a ||| b < 2 ^ 16 := Nat.or_lt_two_pow (by omega) (by omega)
  have h1 : (BitVec.ofInt 64 (a : Int)).toNat = a := by
    rw [BitVec.ofInt_natCast, BitVec.toNat_ofNat]; exact Nat.mod_eq_of_lt (by omega)
  have h2 : (BitVec.ofInt 64 (b : Int)).toNat = b := by
    rw [BitVec.ofInt_natCast, BitVec.toNat_ofNat]; exact Nat.mod_eq_of_lt (by omega)
  show IntKind.i64.wrap ((BitVec.ofInt 64 (a : Int) ||| BitVec.ofInt 64 (b : Int)).toNat : Int) = _
  rw [BitVec.toNat_or, h1, h2]
  exact wrap_i64_small _ (by omega)
theorem hi_lo (a b : UInt8) : bits .or .i64 (IntKind.i64.wrap ((a.toNat : Int) * 2 ^ (min (8 : Int).toNat IntKind.i64.bits))) (b.toNat : Int) = ((256 * a.toNat + b.toNat : Nat) : Int) := by
  have ha := a.toNat_lt
  have hb := b.toNat_lt
  have e : ((a.toNat : Int) * 2 ^ (min (8 : Int).toNat IntKind.i64.bits)) = ((256 * a.toNat : Nat) : Int) := by
    rw [show min (8 : Int).toNat IntKind.i64.bits = 8 from rfl]; omega
  rw [e, wrap_i64_small _ (by omega), or_i64 _ _ (by omega) (by omega)]
  have := Nat.two_pow_add_eq_or_of_lt (i := 8) (b := b.toNat) (by omega) a.toNat
  rw [show (2 : Nat) ^ 8 = 256 from rfl] at this
  rw [this]
/-- The bit of a byte. -/
def mbit (m : Nat) : UInt8 := UInt8.ofNat (2 ^ m)
theorem mbit_go : ∀ m : Nat, m < 8 → IntKind.u8.wrap (1 * 2 ^ (min (m : Int).toNat IntKind.u8.bits)) = ((mbit m).toNat : Int) := by decide +kernel
theorem or_u8 (a b : UInt8) : bits .or .u8 (a.toNat : Int) (b.toNat : Int) = ((a ||| b).toNat : Int) := by
  rw [u8_or_nat _ _ a.toNat_lt b.toNat_lt, UInt8.toNat_or]
/-- Where a hash sets a bit. -/
def bitN (k : List UInt8) (i : Nat) : Nat := (256 * (k.getD i 0).toNat + (k.getD (i + 1) 0).toNat) % 2048
theorem bitN_lt (k : List UInt8) (i : Nat) : bitN k i < 2048 := Nat.mod_lt _ (by decide)
def bset (b : List UInt8) (n : Nat) : List UInt8 := b.set (255 - n / 8) (b.getD (255 - n / 8) 0 ||| mbit (n % 8))
theorem bset_len (b : List UInt8) (n : Nat) : (bset b n).length = b.length := List.length_set ..
/-- The bits of a byte string's hash, as far as they have been set. -/
def baddK (b : List UInt8) (k : List UInt8) : Nat → List UInt8
  | 0 => b
  | j + 1 => bset (baddK b k j) (bitN k (2 * j))
theorem baddK_len (b k : List UInt8) : ∀ j, (baddK b k j).length = b.length
  | 0 => rfl
  | j + 1 => by rw [baddK, bset_len, baddK_len b k j]
def badd (b x : List UInt8) : List UInt8 := baddK b (kec x) 3
theorem badd_len (b x : List UInt8) : (badd b x).length = b.length := baddK_len ..
def zero256 : List UInt8 := List.replicate 256 0
/-- What of a log is set. -/
def LogM.items (g : LogM) : List (List UInt8) := g.addr :: g.topics
def bloomX (b : List UInt8) (xs : List (List UInt8)) : List UInt8 := xs.foldl badd b
def bloomL (ls : List LogM) : List UInt8 := bloomX zero256 (ls.flatMap LogM.items)
theorem bloomX_len : ∀ (xs : List (List UInt8)) (b : List UInt8), (bloomX b xs).length = b.length
  | [], b => rfl
  | x :: xs, b => by
    have := bloomX_len xs (badd b x)
    rw [badd_len] at this
    exact this
theorem bloomL_len (ls : List LogM) : (bloomL ls).length = 256 := by rw [bloomL, bloomX_len, zero256, List.length_replicate]
theorem bloomX_app (b : List UInt8) (xs ys : List (List UInt8)) : bloomX b (xs ++ ys) = bloomX (bloomX b xs) ys := List.foldl_append
/-- A bit of a place. -/
def bmask (n i : Nat) : UInt8 := if 255 - n / 8 = i then mbit (n % 8) else 0
def xmask (x : List UInt8) (i : Nat) : UInt8 := bmask (bitN (kec x) 0) i ||| bmask (bitN (kec x) 2) i ||| bmask (bitN (kec x) 4) i
def smask (xs : List (List UInt8)) (i : Nat) : UInt8 := xs.foldr (fun x a => xmask x i ||| a) 0
end Go.Proofs.Ytljacjjeinmfnaa
/- Logs in memory; the bits of one byte string, in the program's filter and in the reference's. No condition. -/
namespace Go.Proofs.Ytljacjjeinmfnaa
set_option linter.unusedVariables false
set_option linter.unusedSimpArgs false
open Go Go.RowKit
set_option maxRecDepth 100000
/-- A log's cells. -/
structure LV where
  addr : List UInt8
  topA : Option Addr
  topN : Nat
  topC : Nat
  datA : Option Addr
  datN : Nat
  datC : Nat
def LV.cells (x : LV) : List Value := u8s x.addr ++ [.slice x.topA x.topN x.topC, .slice x.datA x.datN x.datC]
def logsC (xs : List LV) : List Value := xs.flatMap LV.cells
def hashC (hs : List (List UInt8)) : List Value := hs.flatMap u8s
/-- The log reads so in N. -/
def LogN (N : Heaplet) (g : LogM) (x : LV) : Prop :=
  x.addr = g.addr ∧ g.addr.length = 20 ∧ x.topN = g.topics.length ∧ RSl N 32 x.topA x.topN x.topC (hashC g.topics) ∧ (∀ h ∈ g.topics, h.length = 32) ∧ RSl N 1 x.datA x.datN x.datC (u8s g.data)
def LogsN (N : Heaplet) (gs : List LogM) (xs : List LV) : Prop := xs.length = gs.length ∧ ∀ (i : Nat) (g : LogM) (x : LV), gs[i]? = some g → xs[i]? = some x → LogN N g x
section
variable {N M : Heaplet} {g : LogM} {x : LV} {gs : List LogM} {xs : List LV}
theorem LogN.le (hl : N.le M) (h : LogN N g x) : LogN M g x := ⟨h.1, h.2.1, h.2.2.1, h.2.2.2.1.le hl, h.2.2.2.2.1, h.2.2.2.2.2.le hl⟩
theorem LogsN.le (hl : N.le M) (h : LogsN N gs xs) : LogsN M gs xs := ⟨h.1, fun i g x h1 h2 => (h.2 i g x h1 h2).le hl⟩
theorem LogsN.nil : LogsN N [] [] := ⟨rfl, fun i g x h => by simp at h⟩
theorem LogsN.snoc (h : LogsN N gs xs) (k : LogN N g x) : LogsN N (gs ++ [g]) (xs ++ [x]) := by
  refine ⟨by simp [h.1], fun i g' x' h1 h2 => ?_⟩
  rcases Nat.lt_or_ge i gs.length with hi | hi
  · rw [List.getElem?_append_left hi] at h1
    rw [List.getElem?_append_left (by rw [h.1]; exact hi)] at h2
    exact h.2 i g' x' h1 h2
  · rw [List.getElem?_append_right hi] at h1
    rw [List.getElem?_append_right (by rw [h.1]; exact hi), h.1] at h2
    have h0 : i - gs.length = 0 := by
      obtain ⟨h3, _⟩ := List.getElem?_eq_some_iff.1 h1
      simp at h3; omega
    rw [h0] at h1 h2
    simp at h1 h2
    subst h1; subst h2; exact k
theorem LogsN.at (h : LogsN N gs xs) {i : Nat} (hi : i < gs.length) : ∃ g x, gs[i]? = some g ∧ xs[i]? = some x ∧ LogN N g x := by
  have hx : i < xs.length := by rw [h.1]; exact hi
  exact ⟨gs[i], xs[i], List.getElem?_eq_getElem hi, List.getElem?_eq_getElem hx, h.2 i _ _ (List.getElem?_eq_getElem hi) (List.getElem?_eq_getElem hx)⟩
end
theorem flat_at {α : Type} {k : Nat} (f : α → List Value) : ∀ {xs : List α} {i : Nat} {x : α}, (∀ y ∈ xs, (f y).length = k) → xs[i]? = some x → ((xs.flatMap f).drop (i * k)).take k = f x
  | [], i, x, _, h => by simp at h
  | y :: t, 0, x, hl, h => by
    simp at h; subst h
    rw [Nat.zero_mul, List.drop_zero, List.flatMap_cons, List.take_left' (hl y (by simp))]
  | y :: t, i + 1, x, hl, h => by
    have ih := flat_at f (xs := t) (i := i) (x := x) (fun z hz => hl z (List.mem_cons_of_mem _ hz)) (by simpa using h)
    rw [List.flatMap_cons, show (i + 1) * k = k + i * k by rw [Nat.succ_mul, Nat.add_comm], ← List.drop_drop, List.drop_left' (hl y (by simp)), ih]
theorem flat_len {α : Type} {k : Nat} (f : α → List Value) : ∀ {xs : List α}, (∀ y ∈ xs, (f y).length = k) → (xs.flatMap f).length = xs.length * k
  | [], _ => by simp
  | y :: t, hl => by
    rw [List.flatMap_cons, List.length_append, hl y (by simp), flat_len f (xs := t) (fun z hz => hl z (List.mem_cons_of_mem _ hz)), List.length_cons, Nat.succ_mul, Nat.add_comm]
theorem LV.cells_len {x : LV} (h : x.addr.length = 20) : x.cells.length = 22 := by rw [LV.cells, List.length_append, u8s_len, h]; rfl
theorem LV.cells_one (x : LV) : x.cells.all (·.oneCell') = true := by
  refine List.all_eq_true.2 fun u hu => ?_
  rcases List.mem_append.1 hu with hu | hu
  · exact one_u8s _ u hu
  · rcases List.mem_cons.1 hu with rfl | hu
    · rfl
    · obtain rfl := List.mem_singleton.1 hu; rfl
/-- The first bytes of a block. -/
theorem blkHead {N : Heaplet} {b : Nat} {e : TypeId} {L : List UInt8} {t : List Value} {k : Nat} (h : Blk N b e (u8s L ++ t)) (hk : L.length = k) (hm : k ≤ 9223372036854775807) : RSl N 1 (some ⟨b, 0 + 0 * 1, none⟩) (k - 0) (k - 0) (u8s L) := by
  refine ⟨by simp [u8s, hk], Nat.le_refl _, by unfold maxLen; omega, fun h0 => ⟨b, 0, rfl, fun i hi => ?_⟩⟩
  have := h.rng i (by rw [List.length_append]; omega)
  rw [List.getElem_append_left hi] at this
  exact this
section
variable {N Nb : Heaplet} {ao : Option Addr} {n cap bb : Nat} {l cur : List UInt8}
set_option maxHeartbeats 1000000 in
theorem FPut_b (Bb : Blk Nb bb 36 (u8s cur)) (hc : cur.length = 256) (h : RSl N 1 ao n cap (u8s l)) (hn : n ≤ 1099511627776) : Fn Try.prog 47 #[.slice ao n cap, .pointer (some ⟨bb, 0, none⟩)] [Nb] [N] (fun v L => v = .tuple #[] ∧ ∃ Nb, L = [Nb] ∧ Blk Nb bb 36 (u8s (badd cur l))) := by
  unfold badd
  obtain ⟨k, hk⟩ : ∃ k, kec l = k := ⟨_, rfl⟩
  have hkl : k.length = 32 := by rw [← hk]; exact kec_len _
  rw [hk]
  refine Fn.enter (vs := [.slice ao n cap, .pointer (some ⟨bb, 0, none⟩)]) Try.func47 rfl rfl rfl ?_
  intro E R hR
  have h := h.le (hR N (by simp))
  change At _ _ E [Nb, R] _
  refine At.seq fun K1 hk_1 => ?_
  refine At.region ?_
  refine op_move (nxlf rfl) rfl rfl ?_
  refine op_callA (nxla rfl) (.cons rfl .nil) (FKeccak_f h hn) Try.func45 rfl rfl (by simp) rfl ?_
  rintro v7 L7 ⟨rfl, rfl⟩
  change At _ _ _ [Nb, R] _
  rw [hk]
  refine op_alloc (nxla rfl) ze39 rfl (fun N3 b3 B3 => ?_)
  change Blk N3 b3 _ [.int .u8 0, .int .u8 0, .int .u8 0, .int .u8 0, .int .u8 0, .int .u8 0, .int .u8 0, .int .u8 0, .int .u8 0, .int .u8 0, .int .u8 0, .int .u8 0, .int .u8 0, .int .u8 0, .int .u8 0, .int .u8 0, .int .u8 0, .int .u8 0, .int .u8 0, .int .u8 0, .int .u8 0, .int .u8 0, .int .u8 0, .int .u8 0, .int .u8 0, .int .u8 0, .int .u8 0, .int .u8 0, .int .u8 0, .int .u8 0, .int .u8 0, .int .u8 0] at B3
  refine op_store (nxl rfl) sz39 rfl rfl rfl (by simp [u8s, hkl]) (all8x2 _) B3 (by simp [u8s, hkl]) sel0 (fun N3 B3 => ?_)
  rw [setL_whole (by simp [u8s, hkl])] at B3
  refine At.opsNil ?_
  refine At.norm (hk_1 ?_)
  refine At.seq fun K2 hk_2 => ?_
  refine At.region ?_
  refine op_assign (nxlf rfl) rfl rfl ?_
  refine At.opsNil ?_
  refine At.norm (hk_2 ?_)
  refine At.block ?_
  refine At.loop (fun fr_ hp_ ms_ => ∃ (j : Nat) (Nb : Heaplet), fr_ = [(1, .pointer (some ⟨bb, 0, none⟩)), (3, .pointer (some ⟨b3, 0, none⟩)), (4, .int .i64 ((2 * j : Nat) : Int))] ∧ hp_ = [N3, Nb, R] ∧ 3 - j = ms_ ∧ (j ≤ 3) ∧ (Blk Nb bb 36 (u8s (baddK cur k j)))) ?_ (.refl _) ⟨0, Nb, rfl, rfl, rfl, Nat.zero_le _, Bb⟩ ?_
  · exact .cons (by first | exact lkI rfl (by omega) | rfl) (.cons (by first | exact lkI rfl (by omega) | rfl) (.cons (by first | exact lkI rfl (by omega) | rfl) .nil))
  rintro _ _ _ ⟨j, Nb, rfl, rfl, rfl, hj, Bb⟩
  refine At.seq fun K3 hk_3 => ?_
  refine At.seq fun K4 hk_4 => ?_
  refine At.region ?_
  refine op_move (nxlf rfl) rfl rfl ?_
  refine op_lss (nxlf rfl) rfl rfl rfl ?_
  refine At.opsNil ?_
  refine At.norm (hk_4 ?_)
  refine At.condP rfl (fun c9 => ?_) (fun c9 => ?_)
  · have hlt : j < 3 := by omega
    have hk1 := (k.getD (2 * j) 0).toNat_lt
    have hk2 := (k.getD (2 * j + 1) 0).toNat_lt
    have hbl : (baddK cur k j).length = 256 := by rw [baddK_len, hc]
    have hn2 := bitN_lt k (2 * j)
    have hnd : 255 - bitN k (2 * j) / 8 < (baddK cur k j).length := by omega
    have hul : (u8s (baddK cur k j)).length = 256 := by rw [u8s_len, hbl]
    refine At.skip ?_
    refine At.norm (hk_3 ?_)
    refine At.seq fun K5 hk_5 => ?_
    refine At.block ?_
    refine At.seq fun K6 hk_6 => ?_
    refine At.drawn [] [0,1,2,3,4,5,6,7,8,9,10,11,12] (by kernel_rfl) (by kernel_rfl) ?_
    refine op_move (nxof rfl rfl rfl (by kernel_rfl)) rfl rfl ?_
    refine op_idxA (nxof rfl rfl rfl (by kernel_rfl)) ae39 rfl rfl (show _ = (((2 * j : Nat)) : Int) from by omega) (by omega) rfl ?_
    refine op_loadB (nxof rfl rfl rfl (by kernel_rfl)) sc5 rfl B3 (by first | exact get8A (by omega) | rfl) mem0 rfl ?_
    refine op_convI (nxof rfl rfl rfl (by kernel_rfl)) (und_some Try.underlying5) Try.underlying3 rfl (by omega) (by omega) rfl ?_
    refine op_shlW (nxof rfl rfl rfl (by kernel_rfl)) rfl rfl (by omega) rfl ?_
    refine op_move (nxof rfl rfl rfl (by kernel_rfl)) rfl rfl ?_
    refine op_addI (nxof rfl rfl rfl (by kernel_rfl)) rfl rfl (by omega) (by omega) rfl ?_
    refine op_idxA (nxof rfl rfl rfl (by kernel_rfl)) ae39 rfl rfl (show _ = (((2 * j + 1 : Nat)) : Int) from by omega) (by omega) rfl ?_
    refine op_loadB (nxof rfl rfl rfl (by kernel_rfl)) sc5 rfl B3 (by first | exact get8A (by omega) | rfl) mem0 rfl ?_
    refine op_convI (nxof rfl rfl rfl (by kernel_rfl)) (und_some Try.underlying5) Try.underlying3 rfl (by omega) (by omega) rfl ?_
    refine op_bits (by simp) (nxof rfl rfl rfl (by kernel_rfl)) rfl rfl rfl ?_
    rw [hi_lo]
    refine op_rem (nxof rfl rfl rfl (by kernel_rfl)) rfl rfl (by omega) (by omega) rfl ?_
    rw [show (((256 * (k.getD (2 * j) 0).toNat + (k.getD (2 * j + 1) 0).toNat : Nat)) : Int) % 2048 = ((bitN k (2 * j) : Nat) : Int) by unfold bitN; omega]
    refine op_assign (nxof rfl rfl rfl (by kernel_rfl)) rfl rfl ?_
    refine At.oneNil ?_
    refine At.norm (hk_6 ?_)
    refine At.drawn [10] [0,1,2,3,4,5,6,7,8,9,10] (by kernel_rfl) (by kernel_rfl) ?_
    refine op_move (nxof rfl rfl rfl (by kernel_rfl)) rfl rfl ?_
    refine op_quoI (nxof rfl rfl rfl (by kernel_rfl)) rfl rfl (by omega) (by omega) (by omega) rfl ?_
    refine op_subI (nxof rfl rfl rfl (by kernel_rfl)) rfl rfl (by omega) (by omega) rfl ?_
    refine op_idxA (nxof rfl rfl rfl (by kernel_rfl)) ae36 rfl rfl (show _ = (((255 - bitN k (2 * j) / 8 : Nat)) : Int) from by omega) (by omega) rfl ?_
    refine op_loadB (nxof rfl rfl rfl (by kernel_rfl)) sc5 rfl Bb (by first | exact get8A (by omega) | rfl) mem1 rfl ?_
    refine op_move (nxof rfl rfl rfl (by kernel_rfl)) rfl rfl ?_
    refine op_rem (nxof rfl rfl rfl (by kernel_rfl)) rfl rfl (by omega) (by omega) rfl ?_
    refine op_shlW (nxof rfl rfl rfl (by kernel_rfl)) rfl rfl (by omega) rfl ?_
    rw [show ((bitN k (2 * j) : Nat) : Int) % 8 = ((bitN k (2 * j) % 8 : Nat) : Int) by omega, mbit_go _ (by omega)]
    refine op_bits (by simp) (nxof rfl rfl rfl (by kernel_rfl)) rfl rfl rfl ?_
    rw [or_u8]
    refine op_idxA (nxof rfl rfl rfl (by kernel_rfl)) ae36 rfl rfl (show _ = (((255 - bitN k (2 * j) / 8 : Nat)) : Int) from by omega) (by omega) rfl ?_
    refine op_store (nxos rfl rfl rfl rfl) sz5 rfl rfl rfl rfl rfl Bb (by simp <;> omega) sel1 (fun Nb Bb => ?_)
    rw [set8A] at Bb
    refine At.oneNil ?_
    refine At.inNorm ?_
    refine At.norm (hk_5 ?_)
    refine At.region ?_
    refine op_move (nxlf rfl) rfl rfl ?_
    refine op_addI (nxlf rfl) rfl rfl (by omega) (by omega) rfl ?_
    refine op_assign (nxlf rfl) rfl rfl ?_
    refine At.opsNil ?_
    refine At.norm ?_
    refine At.perm sel2 ?_
    refine At.perm sel1 ?_
    refine At.perm sel2 ?_
    refine At.back ?_ (.refl _) ⟨j + 1, Nb, rfl, rfl, rfl, by omega, Bb⟩ ?_
    · exact .cons (by first | exact lkI rfl (by omega) | rfl) (.cons (by first | exact lkI rfl (by omega) | rfl) (.cons (by first | exact lkI rfl (by omega) | rfl) .nil))
    · omega
  · have hj3 : j = 3 := by omega
    subst hj3
    refine At.exit (At.thenExit (At.thenExit (At.inHit ?_)))
    refine At.sub (L' := [Nb, R]) (.cons _ (.cons_cons _ (.cons_cons _ (.slnil)))) ?_
    refine At.retNE (L1 := [Nb]) rfl .nil rfl (.refl _) (.refl _) ?_
    exact ⟨rfl, Nb, rfl, Bb⟩
end
end Go.Proofs.Ytljacjjeinmfnaa
/- The filter of logs, in the program and in the reference. No condition. -/
namespace Go.Proofs.Ytljacjjeinmfnaa
set_option linter.unusedVariables false
set_option linter.unusedSimpArgs false
open Go Go.RowKit
set_option maxRecDepth 100000
theorem bloomX_snoc (b : List UInt8) (xs : List (List UInt8)) (x : List UInt8) : bloomX b (xs ++ [x]) = badd (bloomX b xs) x := by rw [bloomX_app]; rfl
theorem take_next2 {α : Type} {l : List α} {j : Nat} {u : α} (h : l[j]? = some u) : l.take (j + 1) = l.take j ++ [u] := by
  obtain ⟨hlt, rfl⟩ := List.getElem?_eq_some_iff.1 h
  rw [List.take_succ_eq_append_getElem hlt]
theorem flat_next {gs : List LogM} {i : Nat} {g : LogM} (h : gs[i]? = some g) : (gs.take (i + 1)).flatMap LogM.items = (gs.take i).flatMap LogM.items ++ (g.addr :: g.topics) := by
  rw [take_next2 h, List.flatMap_append]; simp [LogM.items]
theorem LogsN.cells {N : Heaplet} {gs : List LogM} {xs : List LV} (h : LogsN N gs xs) : ∀ y ∈ xs, y.cells.length = 22 := fun y hy => by
  obtain ⟨i, hi, rfl⟩ := List.mem_iff_getElem.1 hy
  have hg : i < gs.length := by rw [← h.1]; exact hi
  have := h.2 i _ _ (List.getElem?_eq_getElem hg) (List.getElem?_eq_getElem hi)
  exact LV.cells_len (by rw [this.1]; exact this.2.1)
theorem LogsN.size {N M : Heaplet} {gs : List LogM} {xs : List LV} {ao : Option Addr} {n cap : Nat} (h : LogsN N gs xs) (s : RSl M 22 ao n cap (logsC xs)) : n = gs.length := by
  have h1 := s.1
  rw [logsC, flat_len LV.cells h.cells, h.1] at h1
  omega
theorem LV.top_at {x : LV} (h : x.addr.length = 20) : x.cells[0 + 20]? = some (.slice x.topA x.topN x.topC) := by
  rw [LV.cells, List.getElem?_append_right (by rw [u8s_len, h]; decide), u8s_len, h]; rfl
theorem LV.dat_at {x : LV} (h : x.addr.length = 20) : x.cells[0 + 21]? = some (.slice x.datA x.datN x.datC) := by
  rw [LV.cells, List.getElem?_append_right (by rw [u8s_len, h]; decide), u8s_len, h]; rfl
section
variable {N : Heaplet} {ao : Option Addr} {n cap : Nat} {b l : List UInt8} {gs : List LogM} {xs : List LV}
set_option maxHeartbeats 1000000 in
theorem rAdd_b (hb : b.length = 256) (h : RSl N 1 ao n cap (u8s l)) (hn : n ≤ 1099511627776) : Fn Try.prog 53 #[.agg (u8s b).toArray, .slice ao n cap] [] [N] (fun v L => v = .agg (u8s (badd b l)).toArray ∧ L = []) := by
  have hbl3 : (badd b l).length = 256 := by rw [badd_len, hb]
  have hul3 : (u8s (badd b l)).length = 256 := by rw [u8s_len, hbl3]
  unfold badd at hbl3 hul3 ⊢
  obtain ⟨k, hk⟩ : ∃ k, kec l = k := ⟨_, rfl⟩
  have hkl : k.length = 32 := by rw [← hk]; exact kec_len _
  rw [hk] at hbl3 hul3 ⊢
  refine Fn.enter (vs := [.agg (u8s b).toArray, .slice ao n cap]) Try.func53 rfl rfl rfl ?_
  intro E R hR
  have h := h.le (hR N (by simp))
  change At _ _ E [R] _
  refine At.seq fun K1 hk_1 => ?_
  refine At.region ?_
  refine op_box (nxla rfl) rfl rfl rfl (fun N2 b2 B2 => ?_)
  refine op_alloc (nxla rfl) ze36 rfl (fun N4 b4 B4 => ?_)
  change Blk N4 b4 _ z36 at B4
  refine At.opsNil ?_
  refine At.norm (hk_1 ?_)
  refine At.seq fun K2 hk_2 => ?_
  refine At.region ?_
  refine op_move (nxlf rfl) rfl rfl ?_
  refine op_callA (nxla rfl) (.cons rfl .nil) (rKeccak_f h hn) Try.func16 rfl rfl (by simp) rfl ?_
  rintro v9 L9 ⟨rfl, rfl⟩
  change At _ _ _ [N4, N2, R] _
  rw [hk]
  refine op_alloc (nxla rfl) ze39 rfl (fun N5 b5 B5 => ?_)
  change Blk N5 b5 _ [.int .u8 0, .int .u8 0, .int .u8 0, .int .u8 0, .int .u8 0, .int .u8 0, .int .u8 0, .int .u8 0, .int .u8 0, .int .u8 0, .int .u8 0, .int .u8 0, .int .u8 0, .int .u8 0, .int .u8 0, .int .u8 0, .int .u8 0, .int .u8 0, .int .u8 0, .int .u8 0, .int .u8 0, .int .u8 0, .int .u8 0, .int .u8 0, .int .u8 0, .int .u8 0, .int .u8 0, .int .u8 0, .int .u8 0, .int .u8 0, .int .u8 0, .int .u8 0] at B5
  refine op_store (nxl rfl) sz39 rfl rfl rfl (by simp [u8s, hkl]) (all8x2 _) B5 (by simp [u8s, hkl]) sel0 (fun N5 B5 => ?_)
  rw [setL_whole (by simp [u8s, hkl])] at B5
  refine At.opsNil ?_
  refine At.norm (hk_2 ?_)
  refine At.seq fun K3 hk_3 => ?_
  refine At.seq fun K4 hk_4 => ?_
  refine At.region ?_
  refine op_assign (nxlf rfl) rfl rfl ?_
  refine At.opsNil ?_
  refine At.norm (hk_4 ?_)
  refine At.block ?_
  refine At.perm sel3 ?_
  refine At.perm sel2 ?_
  refine At.perm sel3 ?_
  refine At.perm sel3 ?_
  refine At.loop (fun fr_ hp_ ms_ => ∃ (j : Nat) (N2 : Heaplet), fr_ = [(2, .pointer (some ⟨b2, 0, none⟩)), (4, .pointer (some ⟨b4, 0, none⟩)), (5, .pointer (some ⟨b5, 0, none⟩)), (6, .int .i64 ((2 * j : Nat) : Int))] ∧ hp_ = [N5, N2, N4, R] ∧ 3 - j = ms_ ∧ (j ≤ 3) ∧ (Blk N2 b2 36 (u8s (baddK b k j)))) ?_ (.refl _) ⟨0, N2, rfl, rfl, rfl, Nat.zero_le _, B2⟩ ?_
  · exact .cons (by first | exact lkI rfl (by omega) | rfl) (.cons (by first | exact lkI rfl (by omega) | rfl) (.cons (by first | exact lkI rfl (by omega) | rfl) (.cons (by first | exact lkI rfl (by omega) | rfl) .nil)))
  rintro _ _ _ ⟨j, N2, rfl, rfl, rfl, hj, B2⟩
  refine At.seq fun K5 hk_5 => ?_
  refine At.seq fun K6 hk_6 => ?_
  refine At.region ?_
  refine op_move (nxlf rfl) rfl rfl ?_
  refine op_lss (nxlf rfl) rfl rfl rfl ?_
  refine At.opsNil ?_
  refine At.norm (hk_6 ?_)
  refine At.condP rfl (fun c11 => ?_) (fun c11 => ?_)
  · have hlt : j < 3 := by omega
    have hk1 := (k.getD (2 * j) 0).toNat_lt
    have hk2 := (k.getD (2 * j + 1) 0).toNat_lt
    have hbl : (baddK b k j).length = 256 := by rw [baddK_len, hb]
    have hn2 := bitN_lt k (2 * j)
    have hnd : 255 - bitN k (2 * j) / 8 < (baddK b k j).length := by omega
    have hul : (u8s (baddK b k j)).length = 256 := by rw [u8s_len, hbl]
    refine At.skip ?_
    refine At.norm (hk_5 ?_)
    refine At.seq fun K7 hk_7 => ?_
    refine At.block ?_
    refine At.seq fun K8 hk_8 => ?_
    refine At.drawn [] [0,1,2,3,4,5,6,7,8,9,10,11,12] (by kernel_rfl) (by kernel_rfl) ?_
    refine op_move (nxof rfl rfl rfl (by kernel_rfl)) rfl rfl ?_
    refine op_idxA (nxof rfl rfl rfl (by kernel_rfl)) ae39 rfl rfl (show _ = (((2 * j : Nat)) : Int) from by omega) (by omega) rfl ?_
    refine op_loadB (nxof rfl rfl rfl (by kernel_rfl)) sc5 rfl B5 (by first | exact get8A (by omega) | rfl) mem0 rfl ?_
    refine op_convI (nxof rfl rfl rfl (by kernel_rfl)) (und_some Try.underlying5) Try.underlying3 rfl (by omega) (by omega) rfl ?_
    refine op_mulI (nxof rfl rfl rfl (by kernel_rfl)) rfl rfl (by omega) (by omega) rfl ?_
    refine op_move (nxof rfl rfl rfl (by kernel_rfl)) rfl rfl ?_
    refine op_addI (nxof rfl rfl rfl (by kernel_rfl)) rfl rfl (by omega) (by omega) rfl ?_
    refine op_idxA (nxof rfl rfl rfl (by kernel_rfl)) ae39 rfl rfl (show _ = (((2 * j + 1 : Nat)) : Int) from by omega) (by omega) rfl ?_
    refine op_loadB (nxof rfl rfl rfl (by kernel_rfl)) sc5 rfl B5 (by first | exact get8A (by omega) | rfl) mem0 rfl ?_
    refine op_convI (nxof rfl rfl rfl (by kernel_rfl)) (und_some Try.underlying5) Try.underlying3 rfl (by omega) (by omega) rfl ?_
    refine op_addI (nxof rfl rfl rfl (by kernel_rfl)) rfl rfl (by omega) (by omega) rfl ?_
    refine op_rem (nxof rfl rfl rfl (by kernel_rfl)) rfl rfl (by omega) (by omega) rfl ?_
    rw [show (256 * ((k.getD (2 * j) 0).toNat : Int) + ((k.getD (2 * j + 1) 0).toNat : Int)) % 2048 = ((bitN k (2 * j) : Nat) : Int) by unfold bitN; omega]
    refine op_assign (nxof rfl rfl rfl (by kernel_rfl)) rfl rfl ?_
    refine At.oneNil ?_
    refine At.norm (hk_8 ?_)
    refine At.drawn [13] [0,1,2,3,4,5,6,7,8,9,10,11,12,13] (by kernel_rfl) (by kernel_rfl) ?_
    refine op_move (nxof rfl rfl rfl (by kernel_rfl)) rfl rfl ?_
    refine op_quoI (nxof rfl rfl rfl (by kernel_rfl)) rfl rfl (by omega) (by omega) (by omega) rfl ?_
    refine op_subI (nxof rfl rfl rfl (by kernel_rfl)) rfl rfl (by omega) (by omega) rfl ?_
    refine op_move (nxof rfl rfl rfl (by kernel_rfl)) rfl rfl ?_
    refine op_quoI (nxof rfl rfl rfl (by kernel_rfl)) rfl rfl (by omega) (by omega) (by omega) rfl ?_
    refine op_subI (nxof rfl rfl rfl (by kernel_rfl)) rfl rfl (by omega) (by omega) rfl ?_
    refine op_idxA (nxof rfl rfl rfl (by kernel_rfl)) ae36 rfl rfl (show _ = (((255 - bitN k (2 * j) / 8 : Nat)) : Int) from by omega) (by omega) rfl ?_
    refine op_loadB (nxof rfl rfl rfl (by kernel_rfl)) sc5 rfl B2 (by first | exact get8A (by omega) | rfl) mem1 rfl ?_
    refine op_move (nxof rfl rfl rfl (by kernel_rfl)) rfl rfl ?_
    refine op_rem (nxof rfl rfl rfl (by kernel_rfl)) rfl rfl (by omega) (by omega) rfl ?_
    refine op_shlW (nxof rfl rfl rfl (by kernel_rfl)) rfl rfl (by omega) rfl ?_
    rw [show ((bitN k (2 * j) : Nat) : Int) % 8 = ((bitN k (2 * j) % 8 : Nat) : Int) by omega, mbit_go _ (by omega)]
    refine op_bits (by simp) (nxof rfl rfl rfl (by kernel_rfl)) rfl rfl rfl ?_
    rw [or_u8]
    refine op_idxA (nxof rfl rfl rfl (by kernel_rfl)) ae36 rfl rfl (show _ = (((255 - bitN k (2 * j) / 8 : Nat)) : Int) from by omega) (by omega) rfl ?_
    refine op_store (nxos rfl rfl rfl rfl) sz5 rfl rfl rfl rfl rfl B2 (by simp <;> omega) sel1 (fun N2 B2 => ?_)
    rw [set8A] at B2
    refine At.oneNil ?_
    refine At.inNorm ?_
    refine At.norm (hk_7 ?_)
    refine At.region ?_
    refine op_move (nxlf rfl) rfl rfl ?_
    refine op_addI (nxlf rfl) rfl rfl (by omega) (by omega) rfl ?_
    refine op_assign (nxlf rfl) rfl rfl ?_
    refine At.opsNil ?_
    refine At.norm ?_
    refine At.perm sel3 ?_
    refine At.perm sel3 ?_
    refine At.perm sel2 ?_
    refine At.perm sel3 ?_
    refine At.back ?_ (.refl _) ⟨j + 1, N2, rfl, rfl, rfl, by omega, B2⟩ ?_
    · exact .cons (by first | exact lkI rfl (by omega) | rfl) (.cons (by first | exact lkI rfl (by omega) | rfl) (.cons (by first | exact lkI rfl (by omega) | rfl) (.cons (by first | exact lkI rfl (by omega) | rfl) .nil)))
    · omega
  · have hj3 : j = 3 := by omega
    subst hj3
    refine At.exit (At.thenExit (At.thenExit (At.inHit ?_)))
    refine At.norm (hk_3 ?_)
    refine At.seq fun K9 hk_9 => ?_
    refine At.region ?_
    refine op_loadAggB (ds := u8s (baddK b k 3)) (nxlf rfl) ag36 rfl B2 (by exact tk_all hul3) (by exact hul3) mem1 rfl ?_
    refine op_store (nxl rfl) sz36 rfl rfl rfl hul3 (all8x2 _) B4 (by rw [hul3, z36_len]; exact Nat.le_refl _) sel2 (fun N4 B4 => ?_)
    rw [setL_whole (by rw [z36_len]; exact hul3.symm)] at B4
    refine At.opsNil ?_
    refine At.norm (hk_9 ?_)
    refine At.ret (?_)
    refine At.sub (L' := [N4, R]) (.cons_cons _ (.cons _ (.cons _ (.cons_cons _ (.slnil))))) ?_
    refine At.ret1 (L1 := []) rfl (.cell rfl (res_agg (ds := u8s (baddK b k 3)) ag36 B4 (tk_all hul3) hul3 mem0) .nil) (.cons _ (.refl _)) (.refl _) ?_
    exact ⟨rfl, rfl⟩
theorem z256 : z36 = u8s zero256 := by rw [zero256, u8s, List.map_replicate]; rfl
theorem puts_eq {cur : List UInt8} {g : LogM} : bloomX (badd cur g.addr) g.topics = bloomX cur (g.addr :: g.topics) := rfl
set_option maxHeartbeats 1000000 in
theorem FBloom_b (h : RSl N 22 ao n cap (logsC xs)) (hg : LogsN N gs xs) (hn : n ≤ 1099511627776) : Fn Try.prog 14 #[.slice ao n cap] [] [N] (fun v L => v = .agg (u8s (bloomL gs)).toArray ∧ L = []) := by
  have hsz := hg.size h
  have hbl := bloomL_len gs
  have hul : (u8s (bloomL gs)).length = 256 := by rw [u8s_len, hbl]
  refine Fn.enter (vs := [.slice ao n cap]) Try.func14 rfl rfl rfl ?_
  intro E R hR
  have h := h.le (hR N (by simp))
  have hg := hg.le (hR N (by simp))
  change At _ _ E [R] _
  refine At.seq fun K1 hk_1 => ?_
  refine At.region ?_
  refine op_alloc (nxla rfl) ze36 rfl (fun N2 b2 B2 => ?_)
  change Blk N2 b2 _ z36 at B2
  refine At.opsNil ?_
  refine At.norm (hk_1 ?_)
  refine At.seq fun K2 hk_2 => ?_
  refine At.region ?_
  refine op_alloc (nxla rfl) ze36 rfl (fun N3 b3 B3 => ?_)
  change Blk N3 b3 _ z36 at B3
  rw [z256] at B3
  refine At.opsNil ?_
  refine At.norm (hk_2 ?_)
  refine At.seq fun K3 hk_3 => ?_
  refine At.region ?_
  refine op_mkF (nxlf rfl) .nil (.cons rfl .nil) rfl ?_
  refine op_assign (nxlf rfl) rfl rfl ?_
  refine At.opsNil ?_
  refine At.norm (hk_3 ?_)
  refine At.seq fun K4 hk_4 => ?_
  refine At.seq fun K5 hk_5 => ?_
  refine At.region ?_
  refine op_move (nxlf rfl) rfl rfl ?_
  refine op_lenS (nxlf rfl) se35 rfl rfl ?_
  refine op_move (nxlf rfl) rfl rfl ?_
  refine At.opsNil ?_
  refine At.norm (hk_5 ?_)
  refine At.block ?_
  refine At.loop (fun fr_ hp_ ms_ => ∃ (i : Nat) (N3 : Heaplet), fr_ = [(2, .pointer (some ⟨b2, 0, none⟩)), (3, .pointer (some ⟨b3, 0, none⟩)), (4, .func (.func 47) #[] #[.pointer (some ⟨b3, 0, none⟩)]), (10, .slice ao n cap), (11, .int .i64 (n : Int)), (12, .int .i64 (i : Int))] ∧ hp_ = [N3, N2, R] ∧ n - i = ms_ ∧ (i ≤ n) ∧ (Blk N3 b3 36 (u8s (bloomX zero256 ((gs.take i).flatMap LogM.items))))) ?_ (.refl _) ⟨0, N3, rfl, rfl, rfl, Nat.zero_le _, B3⟩ ?_
  · exact .cons (by first | exact lkI rfl (by omega) | rfl) (.cons (by first | exact lkI rfl (by omega) | rfl) (.cons (by first | exact lkI rfl (by omega) | rfl) (.cons (by first | exact lkI rfl (by omega) | rfl) (.cons (by first | exact lkI rfl (by omega) | rfl) (.cons (by first | exact lkI rfl (by omega) | rfl) .nil)))))
  rintro _ _ _ ⟨i, N3, rfl, rfl, rfl, hi, B3⟩
  refine At.seq fun K6 hk_6 => ?_
  refine At.region ?_
  refine op_lss (nxlf rfl) rfl rfl rfl ?_
  refine At.opsNil ?_
  refine At.norm (hk_6 ?_)
  refine At.seq fun K7 hk_7 => ?_
  refine At.condP rfl (fun c13 => ?_) (fun c13 => ?_)
  · have hlt : i < gs.length := by omega
    obtain ⟨g, x, hgi, hxi, hgx⟩ := hg.at hlt
    have hxa : x.addr.length = 20 := by rw [hgx.1]; exact hgx.2.1
    have hxl := LV.cells_len hxa
    have hcl : (bloomX zero256 ((gs.take i).flatMap LogM.items)).length = 256 := by rw [bloomX_len]; rfl
    obtain ⟨cur, hcur⟩ : ∃ cur, bloomX zero256 ((gs.take i).flatMap LogM.items) = cur := ⟨_, rfl⟩
    rw [hcur] at B3 hcl
    have htop := hgx.2.2.2.1
    have htl := hgx.2.2.1
    have hth := hgx.2.2.2.2.1
    have htc := htop.2.1
    have htm := htop.2.2.1
    unfold maxLen at htm
    refine At.skip ?_
    refine At.norm (hk_7 ?_)
    refine At.seq fun K8 hk_8 => ?_
    refine At.block ?_
    refine At.seq fun K9 hk_9 => ?_
    refine At.region ?_
    refine op_idxE (nxlf rfl) se35 rfl rfl h (show _ = (((i : Nat)) : Int) from by omega) (by omega) rfl ?_
    refine op_loadAggE (ds := x.cells) (nxlf rfl) ag43 rfl h (by exact flat_at LV.cells hg.cells hxi) (by exact hxl) (by omega) (by first | exact mem0 | exact mem1 | exact mem2 | exact mem3 | exact mem4 | exact mem5 | exact mem6 | exact mem7 | exact mem8 | exact mem9) rfl ?_
    refine op_alloc (nxla rfl) ze43 rfl (fun N6 b6 B6 => ?_)
    change Blk N6 b6 _ [.int .u8 0, .int .u8 0, .int .u8 0, .int .u8 0, .int .u8 0, .int .u8 0, .int .u8 0, .int .u8 0, .int .u8 0, .int .u8 0, .int .u8 0, .int .u8 0, .int .u8 0, .int .u8 0, .int .u8 0, .int .u8 0, .int .u8 0, .int .u8 0, .int .u8 0, .int .u8 0, .slice none 0 0, .slice none 0 0] at B6
    refine op_store (nxl rfl) sz43 rfl rfl rfl hxl (LV.cells_one x) B6 (by rw [hxl]; exact Nat.le_refl _) sel0 (fun N6 B6 => ?_)
    rw [setL_whole (by rw [hxl]; rfl)] at B6
    refine At.opsNil ?_
    refine At.norm (hk_9 ?_)
    refine At.seq fun K10 hk_10 => ?_
    refine At.region ?_
    refine op_move (nxlf rfl) rfl rfl ?_
    refine op_fieldAddr (nxlf rfl) fl43_0 rfl rfl ?_
    have s6 := blkHead B6 hxa (by decide)
    refine op_sliceA (nxlf rfl) ae23 rfl .none .none .none (by omega) (by omega) (by omega) (by simp) rfl ?_
    refine At.perm sel3 ?_
    refine At.perm sel3 ?_
    refine At.perm sel2 ?_
    refine At.perm sel3 ?_
    refine op_callV (nxl rfl) rfl (.cons rfl .nil) (FPut_b B3 hcl s6 (by decide)) (F := [N6, N2, R]) Try.func47 rfl rfl (.refl _) (by simp) rfl ?_
    rintro v19 L19 ⟨rfl, N3, rfl, B3⟩
    change At _ _ _ [N3, N6, N2, R] _
    refine At.opsNil ?_
    refine At.norm (hk_10 ?_)
    refine At.seq fun K11 hk_11 => ?_
    refine At.region ?_
    refine op_fieldAddr (nxlf rfl) fl43_1 rfl rfl ?_
    refine op_loadB (nxlf rfl) sc41 rfl B6 (by first | rfl | exact LV.top_at hxa) mem1 rfl ?_
    refine op_lenS (nxlf rfl) se41 rfl rfl ?_
    refine op_move (nxlf rfl) rfl rfl ?_
    refine At.opsNil ?_
    refine At.norm (hk_11 ?_)
    refine At.block ?_
    refine At.sub (L' := [N3, N2, R]) (.cons_cons _ (.cons _ (.cons_cons _ (.cons_cons _ (.slnil))))) ?_
    refine At.loop (fun fr_ hp_ ms_ => ∃ (j : Nat) (N3 : Heaplet), fr_ = [(2, .pointer (some ⟨b2, 0, none⟩)), (3, .pointer (some ⟨b3, 0, none⟩)), (4, .func (.func 47) #[] #[.pointer (some ⟨b3, 0, none⟩)]), (10, .slice ao n cap), (11, .int .i64 (n : Int)), (12, .int .i64 (i : Int)), (21, .slice x.topA x.topN x.topC), (22, .int .i64 (x.topN : Int)), (23, .int .i64 (j : Int))] ∧ hp_ = [N3, N2, R] ∧ x.topN - j = ms_ ∧ (j ≤ x.topN) ∧ (Blk N3 b3 36 (u8s (bloomX (badd cur x.addr) (g.topics.take j))))) ?_ (.refl _) ⟨0, N3, rfl, rfl, rfl, Nat.zero_le _, B3⟩ ?_
    · exact .cons (by first | exact lkI rfl (by omega) | rfl) (.cons (by first | exact lkI rfl (by omega) | rfl) (.cons (by first | exact lkI rfl (by omega) | rfl) (.cons (by first | exact lkI rfl (by omega) | rfl) (.cons (by first | exact lkI rfl (by omega) | rfl) (.cons (by first | exact lkI rfl (by omega) | rfl) (.cons (by first | exact lkI rfl (by omega) | rfl) (.cons (by first | exact lkI rfl (by omega) | rfl) (.cons (by first | exact lkI rfl (by omega) | rfl) .nil))))))))
    rintro _ _ _ ⟨j, N3, rfl, rfl, rfl, hj, B3⟩
    refine At.seq fun K12 hk_12 => ?_
    refine At.region ?_
    refine op_lss (nxlf rfl) rfl rfl rfl ?_
    refine At.opsNil ?_
    refine At.norm (hk_12 ?_)
    refine At.seq fun K13 hk_13 => ?_
    refine At.condP rfl (fun c24 => ?_) (fun c24 => ?_)
    · have hltj : j < g.topics.length := by omega
      obtain ⟨t, htj⟩ : ∃ t, g.topics[j]? = some t := ⟨_, List.getElem?_eq_getElem hltj⟩
      have ht32 : t.length = 32 := hth t (List.mem_of_getElem? htj)
      have hut : (u8s t).length = 32 := by rw [u8s_len, ht32]
      have hcl2 : (bloomX (badd cur x.addr) (g.topics.take j)).length = 256 := by rw [bloomX_len, badd_len, hcl]
      refine At.skip ?_
      refine At.norm (hk_13 ?_)
      refine At.seq fun K14 hk_14 => ?_
      refine At.block ?_
      refine At.seq fun K15 hk_15 => ?_
      refine At.region ?_
      refine op_idxE (nxlf rfl) se41 rfl rfl htop (show _ = (((j : Nat)) : Int) from by omega) (by omega) rfl ?_
      refine op_loadAggE (ds := u8s t) (nxlf rfl) ag73 rfl htop (by exact flat_at u8s (fun y hy => by rw [u8s_len]; exact hth y hy) htj) (by exact hut) (by omega) (by first | exact mem0 | exact mem1 | exact mem2 | exact mem3 | exact mem4 | exact mem5 | exact mem6 | exact mem7 | exact mem8 | exact mem9) rfl ?_
      refine op_alloc (nxla rfl) ze73 rfl (fun N8 b8 B8 => ?_)
      change Blk N8 b8 _ [.int .u8 0, .int .u8 0, .int .u8 0, .int .u8 0, .int .u8 0, .int .u8 0, .int .u8 0, .int .u8 0, .int .u8 0, .int .u8 0, .int .u8 0, .int .u8 0, .int .u8 0, .int .u8 0, .int .u8 0, .int .u8 0, .int .u8 0, .int .u8 0, .int .u8 0, .int .u8 0, .int .u8 0, .int .u8 0, .int .u8 0, .int .u8 0, .int .u8 0, .int .u8 0, .int .u8 0, .int .u8 0, .int .u8 0, .int .u8 0, .int .u8 0, .int .u8 0] at B8
      refine op_store (nxl rfl) sz73 rfl rfl rfl hut (all8x2 _) B8 (by simp [u8s, ht32]) sel0 (fun N8 B8 => ?_)
      rw [setL_whole (by rw [hut]; rfl)] at B8
      refine At.opsNil ?_
      refine At.norm (hk_15 ?_)
      refine At.region ?_
      refine op_move (nxlf rfl) rfl rfl ?_
      have s8 := blk8 B8 ht32 (by decide)
      refine op_sliceA (nxlf rfl) ae73 rfl .none .none .none (by omega) (by omega) (by omega) (by simp) rfl ?_
      refine At.perm sel3 ?_
      refine At.perm sel3 ?_
      refine At.perm sel2 ?_
      refine At.perm sel3 ?_
      refine op_callV (nxl rfl) rfl (.cons rfl .nil) (FPut_b B3 hcl2 s8 (by decide)) (F := [N8, N2, R]) Try.func47 rfl rfl (.refl _) (by simp) rfl ?_
      rintro v29 L29 ⟨rfl, N3, rfl, B3⟩
      change At _ _ _ [N3, N8, N2, R] _
      refine At.opsNil ?_
      refine At.inNorm ?_
      refine At.norm (hk_14 ?_)
      refine At.region ?_
      refine op_addI (nxlf rfl) rfl rfl (by omega) (by omega) rfl ?_
      refine op_move (nxlf rfl) rfl rfl ?_
      refine At.opsNil ?_
      refine At.norm ?_
      refine At.sub (L' := [N3, N2, R]) (.cons_cons _ (.cons _ (.cons_cons _ (.cons_cons _ (.slnil))))) ?_
      refine At.back ?_ (.refl _) ⟨j + 1, N3, rfl, rfl, rfl, by omega, by rw [take_next2 htj, bloomX_snoc]; exact B3⟩ ?_
      · exact .cons (by first | exact lkI rfl (by omega) | rfl) (.cons (by first | exact lkI rfl (by omega) | rfl) (.cons (by first | exact lkI rfl (by omega) | rfl) (.cons (by first | exact lkI rfl (by omega) | rfl) (.cons (by first | exact lkI rfl (by omega) | rfl) (.cons (by first | exact lkI rfl (by omega) | rfl) (.cons (by first | exact lkI rfl (by omega) | rfl) (.cons (by first | exact lkI rfl (by omega) | rfl) (.cons (by first | exact lkI rfl (by omega) | rfl) .nil))))))))
      · omega
    · rw [List.take_of_length_le (by omega), hgx.1, puts_eq, ← hcur] at B3
      refine At.exit (At.thenExit (At.thenExit (At.inHit ?_)))
      refine At.inNorm ?_
      refine At.norm (hk_8 ?_)
      refine At.region ?_
      refine op_addI (nxlf rfl) rfl rfl (by omega) (by omega) rfl ?_
      refine op_move (nxlf rfl) rfl rfl ?_
      refine At.opsNil ?_
      refine At.norm ?_
      refine At.back ?_ (.refl _) ⟨i + 1, N3, rfl, rfl, rfl, by omega, by rw [flat_next hgi, bloomX_app]; exact B3⟩ ?_
      · exact .cons (by first | exact lkI rfl (by omega) | rfl) (.cons (by first | exact lkI rfl (by omega) | rfl) (.cons (by first | exact lkI rfl (by omega) | rfl) (.cons (by first | exact lkI rfl (by omega) | rfl) (.cons (by first | exact lkI rfl (by omega) | rfl) (.cons (by first | exact lkI rfl (by omega) | rfl) .nil)))))
      · omega
  · rw [List.take_of_length_le (by omega)] at B3
    change Blk N3 b3 _ (u8s (bloomL gs)) at B3
    refine At.exit (At.thenExit (At.thenExit (At.inHit ?_)))
    refine At.norm (hk_4 ?_)
    refine At.seq fun K16 hk_16 => ?_
    refine At.region ?_
    refine op_loadAggB (ds := u8s (bloomL gs)) (nxlf rfl) ag36 rfl B3 (by exact tk_all hul) (by exact hul) mem0 rfl ?_
    refine op_store (nxl rfl) sz36 rfl rfl rfl hul (all8x2 _) B2 (by rw [hul, z36_len]; exact Nat.le_refl _) sel1 (fun N2 B2 => ?_)
    rw [setL_whole (by rw [z36_len]; exact hul.symm)] at B2
    refine At.opsNil ?_
    refine At.norm (hk_16 ?_)
    refine At.ret (?_)
    refine At.sub (L' := [N2, R]) (.cons_cons _ (.cons _ (.cons_cons _ (.slnil)))) ?_
    refine At.ret1 (L1 := []) rfl (.cell rfl (res_agg (ds := u8s (bloomL gs)) ag36 B2 (tk_all hul) hul mem0) .nil) (.cons _ (.refl _)) (.refl _) ?_
    exact ⟨rfl, rfl⟩
end
end Go.Proofs.Ytljacjjeinmfnaa
/- The reference's filter of logs. No condition. -/
namespace Go.Proofs.Ytljacjjeinmfnaa
set_option linter.unusedVariables false
set_option linter.unusedSimpArgs false
open Go Go.RowKit
set_option maxRecDepth 100000
/-- A part of a slice's cells, as a slice of bytes. -/
theorem rngSub {N : Heaplet} {b off o k : Nat} {cs ds : List Value} (h : Rng N b off cs) (hd : (cs.drop o).take k = ds) : Rng N b (off + o) ds := fun i hi => by
  subst hd
  have hl : i < k ∧ o + i < cs.length := by rw [List.length_take, List.length_drop] at hi; omega
  have := h (o + i) hl.2
  rw [show off + o + i = off + (o + i) by omega, this, List.getElem_take, List.getElem_drop]
theorem sub8 {N : Heaplet} {b off o k : Nat} {cs : List Value} {l : List UInt8} (h : Rng N b off cs) (hd : (cs.drop o).take k = u8s l) (hl : l.length = k) (hm : k ≤ 9223372036854775807) : RSl N 1 (some ⟨b, off + o + 0 * 1, none⟩) (k - 0) (k - 0) (u8s l) := by
  refine ⟨by simp [u8s, hl], Nat.le_refl _, by unfold maxLen; omega, fun h0 => ⟨b, off + o, rfl, rngSub h hd⟩⟩
theorem cells_addr {xs : List LV} {x : LV} {i : Nat} (hx : xs[i]? = some x) (hc : ∀ y ∈ xs, y.cells.length = 22) (ha : x.addr.length = 20) : ((logsC xs).drop (i * 22 + 0)).take 20 = u8s x.addr := by
  have h := flat_at LV.cells hc hx
  have := congrArg (List.take 20) h
  rw [List.take_take, show min 20 22 = 20 from rfl] at this
  rw [Nat.add_zero, logsC, this, LV.cells, List.take_left' (by rw [u8s_len, ha])]
theorem cells_fld {xs : List LV} {x : LV} {i o : Nat} {v : Value} (hx : xs[i]? = some x) (hc : ∀ y ∈ xs, y.cells.length = 22) (ho : o < 22) (hv : x.cells[o]? = some v) : (logsC xs)[i * 22 + o]? = some v := by
  have h := flat_at LV.cells hc hx
  have := congrArg (fun l => l[o]?) h
  simp only [List.getElem?_take, List.getElem?_drop, if_pos ho] at this
  rw [logsC, this, hv]
section
variable {N : Heaplet} {ao : Option Addr} {n cap : Nat} {gs : List LogM} {xs : List LV}
set_option maxHeartbeats 1000000 in
theorem rBloom_b (h : RSl N 22 ao n cap (logsC xs)) (hg : LogsN N gs xs) (hn : n ≤ 1099511627776) : Fn Try.prog 19 #[.slice ao n cap] [] [N] (fun v L => v = .agg (u8s (bloomL gs)).toArray ∧ L = []) := by
  have hsz := hg.size h
  have hbl := bloomL_len gs
  have hul : (u8s (bloomL gs)).length = 256 := by rw [u8s_len, hbl]
  refine Fn.enter (vs := [.slice ao n cap]) Try.func19 rfl rfl rfl ?_
  intro E R hR
  have h := h.le (hR N (by simp))
  have hg := hg.le (hR N (by simp))
  change At _ _ E [R] _
  refine At.seq fun K1 hk_1 => ?_
  refine At.region ?_
  refine op_alloc (nxla rfl) ze36 rfl (fun N2 b2 B2 => ?_)
  change Blk N2 b2 _ z36 at B2
  refine At.opsNil ?_
  refine At.norm (hk_1 ?_)
  refine At.seq fun K2 hk_2 => ?_
  refine At.region ?_
  refine op_alloc (nxla rfl) ze36 rfl (fun N3 b3 B3 => ?_)
  change Blk N3 b3 _ z36 at B3
  rw [z256] at B3
  refine At.opsNil ?_
  refine At.norm (hk_2 ?_)
  refine At.seq fun K3 hk_3 => ?_
  refine At.seq fun K4 hk_4 => ?_
  refine At.region ?_
  refine op_assign (nxlf rfl) rfl rfl ?_
  refine At.opsNil ?_
  refine At.norm (hk_4 ?_)
  refine At.block ?_
  refine At.loop (fun fr_ hp_ ms_ => ∃ (i : Nat) (N3 : Heaplet), fr_ = [(0, .slice ao n cap), (2, .pointer (some ⟨b2, 0, none⟩)), (3, .pointer (some ⟨b3, 0, none⟩)), (4, .int .i64 (i : Int))] ∧ hp_ = [N3, N2, R] ∧ n - i = ms_ ∧ (i ≤ n) ∧ (Blk N3 b3 36 (u8s (bloomX zero256 ((gs.take i).flatMap LogM.items))))) ?_ (.refl _) ⟨0, N3, rfl, rfl, rfl, Nat.zero_le _, B3⟩ ?_
  · exact .cons (by first | exact lkI rfl (by omega) | rfl) (.cons (by first | exact lkI rfl (by omega) | rfl) (.cons (by first | exact lkI rfl (by omega) | rfl) (.cons (by first | exact lkI rfl (by omega) | rfl) .nil)))
  rintro _ _ _ ⟨i, N3, rfl, rfl, rfl, hi, B3⟩
  refine At.seq fun K5 hk_5 => ?_
  refine At.seq fun K6 hk_6 => ?_
  refine At.region ?_
  refine op_move (nxlf rfl) rfl rfl ?_
  refine op_move (nxlf rfl) rfl rfl ?_
  refine op_lenS (nxlf rfl) se35 rfl rfl ?_
  refine op_lss (nxlf rfl) rfl rfl rfl ?_
  refine At.opsNil ?_
  refine At.norm (hk_6 ?_)
  refine At.condP rfl (fun c9 => ?_) (fun c9 => ?_)
  · have hlt : i < gs.length := by omega
    obtain ⟨g, x, hgi, hxi, hgx⟩ := hg.at hlt
    have hxa : x.addr.length = 20 := by rw [hgx.1]; exact hgx.2.1
    have hcl : (bloomX zero256 ((gs.take i).flatMap LogM.items)).length = 256 := by rw [bloomX_len]; rfl
    obtain ⟨cur, hcur⟩ : ∃ cur, bloomX zero256 ((gs.take i).flatMap LogM.items) = cur := ⟨_, rfl⟩
    rw [hcur] at B3 hcl
    have hulc : (u8s cur).length = 256 := by rw [u8s_len, hcl]
    have hul2 : (u8s (badd cur x.addr)).length = 256 := by rw [u8s_len, badd_len, hcl]
    have htop := hgx.2.2.2.1
    have htl := hgx.2.2.1
    have hth := hgx.2.2.2.2.1
    have htc := htop.2.1
    have htm := htop.2.2.1
    unfold maxLen at htm
    have hfld := cells_fld (o := 20) hxi hg.cells (by decide) (show x.cells[20]? = some (.slice x.topA x.topN x.topC) from LV.top_at hxa)
    obtain ⟨bA, oA, hao, hrA⟩ := h.2.2.2 (by omega)
    have s17 := sub8 hrA (cells_addr hxi hg.cells hxa) hxa (by decide)
    have hsome : ao.isSome = true := by rw [hao]; rfl
    refine At.skip ?_
    refine At.norm (hk_5 ?_)
    refine At.seq fun K7 hk_7 => ?_
    refine At.block ?_
    refine At.seq fun K8 hk_8 => ?_
    refine At.drawnS [N3, N2, R] [6,7] [] [0,1,2,3,4,5,6,7] (by kernel_rfl) (by kernel_rfl) (.refl _) ?_
    refine op_loadAggB (ds := u8s cur) (nxsf rfl rfl rfl) ag36 rfl B3 (by exact tk_all hulc) (by exact hulc) mem0 rfl ?_
    refine op_move (nxsf rfl rfl rfl) rfl rfl ?_
    refine op_move (nxsf rfl rfl rfl) rfl rfl ?_
    refine op_idxE (nxsf rfl rfl rfl) se35 rfl rfl h (show _ = (((i : Nat)) : Int) from by omega) (by omega) rfl ?_
    subst hao
    refine op_fieldAddrE (nxsf rfl rfl rfl) fl43_0 rfl (by first | rfl | assumption) rfl ?_
    refine op_sliceA (nxsf rfl rfl rfl) ae23 rfl .none .none .none (by omega) (by omega) (by omega) (by simp) rfl ?_
    refine op_callA (Nx.agree (nxss rfl rfl rfl rfl)) (.cons rfl (.cons rfl .nil)) (rAdd_b hcl s17 (by decide)) Try.func53 rfl rfl (by simp) rfl ?_
    rintro v18 L18 ⟨rfl, rfl⟩
    change At _ _ _ [N3, N2, R] _
    refine At.anyS (.refl _) ?_
    refine op_store (nxsl rfl rfl rfl rfl) sz36 rfl rfl rfl hul2 (all8x2 _) B3 (by rw [hul2, hulc]; exact Nat.le_refl _) sel0 (fun N3 B3 => ?_)
    rw [setL_whole (by rw [hul2, hulc])] at B3
    refine At.sNil ?_
    refine At.norm (hk_8 ?_)
    refine At.seq fun K9 hk_9 => ?_
    refine At.region ?_
    refine op_assign (nxlf rfl) rfl rfl ?_
    refine At.opsNil ?_
    refine At.norm (hk_9 ?_)
    refine At.block ?_
    refine At.loop (fun fr_ hp_ ms_ => ∃ (j : Nat) (N3 : Heaplet), fr_ = [(0, .slice (some ⟨bA, oA, none⟩) n cap), (2, .pointer (some ⟨b2, 0, none⟩)), (3, .pointer (some ⟨b3, 0, none⟩)), (4, .int .i64 (i : Int)), (5, .int .i64 (j : Int))] ∧ hp_ = [N3, N2, R] ∧ x.topN - j = ms_ ∧ (j ≤ x.topN) ∧ (Blk N3 b3 36 (u8s (bloomX (badd cur x.addr) (g.topics.take j))))) ?_ (.refl _) ⟨0, N3, rfl, rfl, rfl, Nat.zero_le _, B3⟩ ?_
    · exact .cons (by first | exact lkI rfl (by omega) | rfl) (.cons (by first | exact lkI rfl (by omega) | rfl) (.cons (by first | exact lkI rfl (by omega) | rfl) (.cons (by first | exact lkI rfl (by omega) | rfl) (.cons (by first | exact lkI rfl (by omega) | rfl) .nil))))
    rintro _ _ _ ⟨j, N3, rfl, rfl, rfl, hj, B3⟩
    refine At.seq fun K10 hk_10 => ?_
    refine At.seq fun K11 hk_11 => ?_
    refine At.region ?_
    refine op_move (nxlf rfl) rfl rfl ?_
    refine op_move (nxlf rfl) rfl rfl ?_
    refine op_move (nxlf rfl) rfl rfl ?_
    refine op_idxE (nxlf rfl) se35 rfl rfl h (show _ = (((i : Nat)) : Int) from by omega) (by omega) rfl ?_
    refine op_fieldAddrE (nxlf rfl) fl43_1 rfl (by first | rfl | assumption) rfl ?_
    refine op_loadE (nxlf rfl) sc41 rfl h (by first | exact get8 (by omega) | exact get64 (by omega) | exact get32 (by omega) | exact hfld) (by first | exact mem0 | exact mem1 | exact mem2 | exact mem3 | exact mem4 | exact mem5 | exact mem6 | exact mem7 | exact mem8 | exact mem9) rfl ?_
    refine op_lenS (nxlf rfl) se41 rfl rfl ?_
    refine op_lss (nxlf rfl) rfl rfl rfl ?_
    refine At.opsNil ?_
    refine At.norm (hk_11 ?_)
    refine At.condP rfl (fun c26 => ?_) (fun c26 => ?_)
    · have hltj : j < g.topics.length := by omega
      obtain ⟨t, htj⟩ : ∃ t, g.topics[j]? = some t := ⟨_, List.getElem?_eq_getElem hltj⟩
      have ht32 : t.length = 32 := hth t (List.mem_of_getElem? htj)
      have hut : (u8s t).length = 32 := by rw [u8s_len, ht32]
      have hcl2 : (bloomX (badd cur x.addr) (g.topics.take j)).length = 256 := by rw [bloomX_len, badd_len, hcl]
      have hulj : (u8s (bloomX (badd cur x.addr) (g.topics.take j))).length = 256 := by rw [u8s_len, hcl2]
      have hulk : (u8s (badd (bloomX (badd cur x.addr) (g.topics.take j)) t)).length = 256 := by rw [u8s_len, badd_len, hcl2]
      obtain ⟨bT, oT, hto, hrT⟩ := htop.2.2.2 (by omega)
      have s37 := sub8 hrT (flat_at u8s (fun y hy => by rw [u8s_len]; exact hth y hy) htj) ht32 (by decide)
      refine At.skip ?_
      refine At.norm (hk_10 ?_)
      refine At.seq fun K12 hk_12 => ?_
      refine At.block ?_
      refine At.drawnS [N3, N2, R] [9,10] [] [0,1,2,3,4,5,6,7,8,9,10] (by kernel_rfl) (by kernel_rfl) (.refl _) ?_
      refine op_loadAggB (ds := u8s (bloomX (badd cur x.addr) (g.topics.take j))) (nxsf rfl rfl rfl) ag36 rfl B3 (by exact tk_all hulj) (by exact hulj) mem0 rfl ?_
      refine op_move (nxsf rfl rfl rfl) rfl rfl ?_
      refine op_move (nxsf rfl rfl rfl) rfl rfl ?_
      refine op_idxE (nxsf rfl rfl rfl) se35 rfl rfl h (show _ = (((i : Nat)) : Int) from by omega) (by omega) rfl ?_
      refine op_fieldAddrE (nxsf rfl rfl rfl) fl43_1 rfl (by first | rfl | assumption) rfl ?_
      refine op_loadE (nxsf rfl rfl rfl) sc41 rfl h (by first | exact get8 (by omega) | exact get64 (by omega) | exact get32 (by omega) | exact hfld) (by first | exact mem0 | exact mem1 | exact mem2 | exact mem3 | exact mem4 | exact mem5 | exact mem6 | exact mem7 | exact mem8 | exact mem9) rfl ?_
      rw [hto]
      refine op_move (nxsf rfl rfl rfl) rfl rfl ?_
      refine op_idxE (nxsf rfl rfl rfl) se41 rfl rfl (hto ▸ htop) (show _ = (((j : Nat)) : Int) from by omega) (by omega) rfl ?_
      refine op_sliceA (nxsf rfl rfl rfl) ae73 rfl .none .none .none (by omega) (by omega) (by omega) (by simp) rfl ?_
      refine op_callA (Nx.agree (nxss rfl rfl rfl rfl)) (.cons rfl (.cons rfl .nil)) (rAdd_b hcl2 s37 (by decide)) Try.func53 rfl rfl (by simp) rfl ?_
      rintro v38 L38 ⟨rfl, rfl⟩
      change At _ _ _ [N3, N2, R] _
      refine At.anyS (.refl _) ?_
      refine op_store (nxsl rfl rfl rfl rfl) sz36 rfl rfl rfl hulk (all8x2 _) B3 (by rw [hulk, hulj]; exact Nat.le_refl _) sel0 (fun N3 B3 => ?_)
      rw [setL_whole (by rw [hulk, hulj])] at B3
      refine At.sNil ?_
      refine At.inNorm ?_
      refine At.norm (hk_12 ?_)
      refine At.region ?_
      refine op_move (nxlf rfl) rfl rfl ?_
      refine op_addI (nxlf rfl) rfl rfl (by omega) (by omega) rfl ?_
      refine op_assign (nxlf rfl) rfl rfl ?_
      refine At.opsNil ?_
      refine At.norm ?_
      refine At.back ?_ (.refl _) ⟨j + 1, N3, rfl, rfl, rfl, by omega, by rw [take_next2 htj, bloomX_snoc]; exact B3⟩ ?_
      · exact .cons (by first | exact lkI rfl (by omega) | rfl) (.cons (by first | exact lkI rfl (by omega) | rfl) (.cons (by first | exact lkI rfl (by omega) | rfl) (.cons (by first | exact lkI rfl (by omega) | rfl) (.cons (by first | exact lkI rfl (by omega) | rfl) .nil))))
      · omega
    · rw [List.take_of_length_le (by omega), hgx.1, puts_eq, ← hcur] at B3
      refine At.exit (At.thenExit (At.thenExit (At.inHit ?_)))
      refine At.inNorm ?_
      refine At.norm (hk_7 ?_)
      refine At.region ?_
      refine op_move (nxlf rfl) rfl rfl ?_
      refine op_addI (nxlf rfl) rfl rfl (by omega) (by omega) rfl ?_
      refine op_assign (nxlf rfl) rfl rfl ?_
      refine At.opsNil ?_
      refine At.norm ?_
      refine At.back ?_ (.refl _) ⟨i + 1, N3, rfl, rfl, rfl, by omega, by rw [flat_next hgi, bloomX_app]; exact B3⟩ ?_
      · exact .cons (by first | exact lkI rfl (by omega) | rfl) (.cons (by first | exact lkI rfl (by omega) | rfl) (.cons (by first | exact lkI rfl (by omega) | rfl) (.cons (by first | exact lkI rfl (by omega) | rfl) .nil)))
      · omega
  · rw [List.take_of_length_le (by omega)] at B3
    change Blk N3 b3 _ (u8s (bloomL gs)) at B3
    refine At.exit (At.thenExit (At.thenExit (At.inHit ?_)))
    refine At.norm (hk_3 ?_)
    refine At.seq fun K13 hk_13 => ?_
    refine At.region ?_
    refine op_loadAggB (ds := u8s (bloomL gs)) (nxlf rfl) ag36 rfl B3 (by exact tk_all hul) (by exact hul) mem0 rfl ?_
    refine op_store (nxl rfl) sz36 rfl rfl rfl hul (all8x2 _) B2 (by rw [hul, z36_len]; exact Nat.le_refl _) sel1 (fun N2 B2 => ?_)
    rw [setL_whole (by rw [z36_len]; exact hul.symm)] at B2
    refine At.opsNil ?_
    refine At.norm (hk_13 ?_)
    refine At.ret (?_)
    refine At.sub (L' := [N2, R]) (.cons_cons _ (.cons _ (.cons_cons _ (.slnil)))) ?_
    refine At.ret1 (L1 := []) rfl (.cell rfl (res_agg (ds := u8s (bloomL gs)) ag36 B2 (tk_all hul) hul mem0) .nil) (.cons _ (.refl _)) (.refl _) ?_
    exact ⟨rfl, rfl⟩
end
end Go.Proofs.Ytljacjjeinmfnaa
/- The engine: a test that was made is known behind it; a byte of a string. For whatever program. No condition. -/
namespace Go.Proofs.Ytljacjjeinmfnaa
set_option linter.unusedVariables false
set_option linter.unusedSimpArgs false
open Go Go.RowKit
section
variable {P : Program} {n : Nat} {l : List (Nat × Value)} {E : World} {L Ls : List Heaplet} {X Y : Act → World → Prop} {K : Act → World → Prop} {d : Nat} {t t' ty : TypeId} {x y : Operand}
theorem At.knowV {v : Value} (hl : lk l d = some v) (h : At n ((d, v) :: l) E L K) : At n l E L K := fun a w hf hw => h a w ⟨hf.defers, hf.size, fun i u hi => by
  unfold lk at hi
  by_cases e : d = i
  · subst e
    simp at hi
    subst hi
    exact hf.get d v hl
  · have : Nat.beq d i = false := beq_no e
    rw [this] at hi
    exact hf.get i u hi⟩ hw
theorem At.knowT {p : Prop} [Decidable p] (hl : lk l d = some (.bool (decide p))) (hp : p) (h : At n ((d, .bool true) :: l) E L K) : At n l E L K :=
  At.knowV (by rw [hl, decide_eq_true hp]) h
theorem At.knowF {p : Prop} [Decidable p] (hl : lk l d = some (.bool (decide p))) (hp : ¬ p) (h : At n ((d, .bool false) :: l) E L K) : At n l E L K :=
  At.knowV (by rw [hl, decide_eq_false hp]) h
theorem At.knowBT {b : Bool} (hl : lk l d = some (.bool b)) (hb : b = true) (h : At n ((d, .bool true) :: l) E L K) : At n l E L K := At.knowV (by rw [hl, hb]) h
theorem At.knowBF {b : Bool} (hl : lk l d = some (.bool b)) (hb : b = false) (h : At n ((d, .bool false) :: l) E L K) : At n l E L K := At.knowV (by rw [hl, hb]) h
end
section
variable {P : Program} {n : Nat} {l : List (Nat × Value)} {E : World} {L Ls : List Heaplet} {X Y : Act → World → Prop} {d : Nat} {t ty : TypeId} {x : Operand}
end
end Go.Proofs.Ytljacjjeinmfnaa
/- Logs in new memory, cut. No condition. -/
namespace Go.Proofs.Ytljacjjeinmfnaa
set_option linter.unusedVariables false
set_option linter.unusedSimpArgs false
open Go Go.RowKit
set_option maxRecDepth 100000
def LogM.cut (g : LogM) : LogM := ⟨g.addr, g.topics.take 12, g.data.take 200⟩
def cutG (gs : List LogM) : List LogM := (gs.take 10).map LogM.cut
theorem cutG_next {gs : List LogM} {i : Nat} {g : LogM} (h : gs[i]? = some g) : ((gs.take (i + 1)).map LogM.cut) = (gs.take i).map LogM.cut ++ [g.cut] := by rw [take_next2 h, List.map_append]; rfl
theorem hashC_len {hs : List (List UInt8)} (h : ∀ x ∈ hs, x.length = 32) : (hashC hs).length = hs.length * 32 := flat_len u8s (fun y hy => by rw [u8s_len]; exact h y hy)
theorem hashC_take {hs : List (List UInt8)} (h : ∀ x ∈ hs, x.length = 32) : ∀ k, (hashC hs).take (k * 32) = hashC (hs.take k) := by
  induction hs with
  | nil => intro k; simp [hashC]
  | cons x t ih =>
    intro k
    cases k with
    | zero => simp [hashC]
    | succ k =>
      have hx : (u8s x).length = 32 := by rw [u8s_len]; exact h x (by simp)
      have := ih (fun y hy => h y (List.mem_cons_of_mem _ hy)) k
      show (u8s x ++ hashC t).take ((k + 1) * 32) = u8s x ++ hashC (t.take k)
      rw [show (k + 1) * 32 = (u8s x).length + k * 32 by rw [hx]; omega, List.take_append, List.take_of_length_le (by omega), Nat.add_sub_cancel_left, this]
theorem hashC_one (hs : List (List UInt8)) : ∀ u ∈ hashC hs, u.oneCell' = true := fun u hu => by
  obtain ⟨x, _, hx⟩ := List.mem_flatMap.1 hu
  exact one_u8s _ u hx
theorem setL_head {cs vs : List Value} (h : vs.length ≤ cs.length) : setL cs 0 vs = vs ++ cs.drop vs.length := by
  have := setL_append vs [] (cs.take vs.length) (cs.drop vs.length) (by rw [List.length_take]; omega)
  rw [List.nil_append, List.take_append_drop, List.nil_append] at this
  exact this
theorem fill_log {a : List UInt8} (ha : a.length = 20) (ta da : Option Addr) (tn tc dn dc : Nat) (cs : List Value) (hc : cs.length = 22) :
    fillL [(0, 20), (20, 1), (21, 1)] cs [(0, .agg (u8s a).toArray), (1, .slice ta tn tc), (2, .slice da dn dc)] = some (LV.cells ⟨a, ta, tn, tc, da, dn, dc⟩) := by
  have hu : (u8s a).length = 20 := by rw [u8s_len, ha]
  obtain ⟨x, y, hxy⟩ : ∃ x y, cs.drop 20 = [x, y] := by
    have hl : (cs.drop 20).length = 2 := by rw [List.length_drop]; omega
    match h : cs.drop 20, hl with
    | [x, y], _ => exact ⟨x, y, rfl⟩
  have e0 : setL cs 0 (u8s a) = u8s a ++ [x, y] := by rw [setL_head (by omega), hu, hxy]
  have e1 : setL (u8s a ++ [x, y]) 20 [.slice ta tn tc] = u8s a ++ [.slice ta tn tc, y] := by
    have := setL_append [.slice ta tn tc] (u8s a) [x] [y] rfl
    rw [hu] at this
    simpa using this
  have e2 : setL (u8s a ++ [.slice ta tn tc, y]) 21 [.slice da dn dc] = u8s a ++ [.slice ta tn tc, .slice da dn dc] := by
    have := setL_append [.slice da dn dc] (u8s a ++ [.slice ta tn tc]) [y] [] rfl
    rw [List.length_append, hu] at this
    simpa using this
  have c0 : (Value.agg (u8s a).toArray).cells.toList = u8s a := rfl
  simp only [fillL, List.getElem?_cons_zero, List.getElem?_cons_succ, c0, hu, hc, e0]
  rw [if_pos (by decide), if_pos ⟨rfl, by rw [List.length_append, hu]; show 20 + 1 ≤ 20 + 2; decide⟩]
  rw [show (Value.slice ta tn tc).cells.toList = [.slice ta tn tc] from rfl, e1]
  rw [if_pos ⟨rfl, by rw [List.length_append, hu]; show 21 + 1 ≤ 20 + 2; decide⟩]
  rw [show (Value.slice da dn dc).cells.toList = [.slice da dn dc] from rfl, e2]
  rfl
section
variable {N : Heaplet} {ao : Option Addr} {n cap : Nat} {hs : List (List UInt8)} {gs : List LogM} {xs : List LV}
theorem FKeys_b (h : RSl N 32 ao n cap (hashC hs)) (h32 : ∀ x ∈ hs, x.length = 32) : Fn Try.prog 48 #[.slice ao n cap] [] [N] (fun v L => ∃ M a c, v = .slice a (hs.take 12).length c ∧ L = [M] ∧ RSl M 32 a (hs.take 12).length c (hashC (hs.take 12))) := by
  have hl := h.1
  rw [hashC_len h32] at hl
  have hn : n = hs.length := by omega
  have hc := h.2.1
  have hm := h.2.2.1
  unfold maxLen at hm
  have ht := hashC_take h32
  have htl : (hs.take 12).length = min 12 hs.length := List.length_take ..
  refine Fn.enter (vs := [.slice ao n cap]) Try.func48 rfl rfl rfl ?_
  intro E R hR
  have h := h.le (hR N (by simp))
  change At _ _ E [R] _
  refine At.seq fun K1 hk_1 => ?_
  refine At.region ?_
  refine op_assign (nxlf rfl) rfl rfl ?_
  refine At.opsNil ?_
  refine At.norm (hk_1 ?_)
  refine At.seq fun K2 hk_2 => ?_
  refine At.meet (fun fr_ hp_ => ∃ (k : Nat), fr_ = [(0, .slice ao k cap)] ∧ hp_ = [R] ∧ (k = (hs.take 12).length) ∧ (RSl R 32 ao k cap (hashC (hs.take 12)))) ?_ (fun K2_ jk_2 => ?_)
  rotate_left
  · skip
    refine At.seq fun K3 hk_3 => ?_
    refine At.region ?_
    refine op_move (nxlf rfl) rfl rfl ?_
    refine op_lenS (nxlf rfl) se41 rfl rfl ?_
    refine op_gtr (nxlf rfl) rfl rfl rfl ?_
    refine At.opsNil ?_
    refine At.norm (hk_3 ?_)
    refine At.condP rfl (fun c5 => ?_) (fun c5 => ?_)
    · refine At.region ?_
      refine op_move (nxlf rfl) rfl rfl ?_
      refine op_slice0 (nxlf rfl) se41 rfl (.some rfl (show _ = (((12 : Nat)) : Int) from by omega)) .none (by omega) (by omega) (by simp) rfl ?_
      refine op_assign (nxlf rfl) rfl rfl ?_
      refine At.opsNil ?_
      refine At.norm (jk_2 ?_ (.refl _) ⟨12, rfl, rfl, by omega, by rw [← ht 12]; exact h.take (by omega) (by omega) (by omega)⟩)
      exact .cons (by first | exact lkI rfl (by omega) | rfl) .nil
    · refine At.skip ?_
      refine At.norm (jk_2 ?_ (.refl _) ⟨n, rfl, rfl, by omega, by rw [List.take_of_length_le (by omega)]; exact h⟩)
      exact .cons (by first | exact lkI rfl (by omega) | rfl) .nil
  rintro _ _ ⟨k, rfl, rfl, hk, sk⟩
  refine hk_2 ?_
  refine At.seq fun K4 hk_4 => ?_
  refine At.region ?_
  refine op_lit (nxla rfl) Try.underlying41 ze73 sz73 .nil rfl rfl (by simp [Value.cells]) rfl rfl rfl (fun N8 a8 r8 => ?_)
  simp only [flatV, List.flatMap_cons, List.flatMap_nil, Value.cells, List.append_nil, List.cons_append, List.nil_append] at r8
  have s8 := r8.rsl
  refine op_move (nxlf rfl) rfl rfl ?_
  change Row N8 _ 32 a8 0 0 [] at r8
  refine op_append (nxl rfl) Try.underlying41 Try.underlying41 te73 rfl rfl r8 sk (by first | exact mem0 | exact mem1 | exact mem2 | exact mem3 | exact mem4 | exact mem5 | exact mem6 | exact mem7 | exact mem8 | exact mem9) (hashC_one _) (by omega) (by omega) sel0 rfl (fun N10 a10 p10 r10 => ?_)
  have s10 := r10.rsl
  refine op_assign (nxlf rfl) rfl rfl ?_
  refine At.opsNil ?_
  refine At.norm (hk_4 ?_)
  refine At.ret (?_)
  refine At.ret1 (L1 := [N10]) rfl (.tmp rfl .nil) (.refl _) (.refl _) ?_
  rw [Nat.zero_add, List.nil_append] at s10
  subst hk
  exact ⟨N10, a10, p10, by rw [Nat.zero_add], rfl, s10⟩
/-- Logs, in new memory. -/
def LogsP (gs : List LogM) (v : Value) (L : List Heaplet) : Prop := ∃ M J a c ys, v = .slice a gs.length c ∧ L = [M, J] ∧ Row M 43 22 a gs.length c (logsC ys) ∧ LogsN J gs ys
theorem logsC_one (xs : List LV) : ∀ u ∈ logsC xs, u.oneCell' = true := fun u hu => by
  obtain ⟨x, _, hx⟩ := List.mem_flatMap.1 hu
  exact List.all_eq_true.1 (LV.cells_one x) u hx
set_option maxHeartbeats 1000000 in
theorem FLogs_b (h : RSl N 22 ao n cap (logsC xs)) (hg : LogsN N gs xs) : Fn Try.prog 15 #[.slice ao n cap] [] [N] (LogsP (cutG gs)) := by
  have hsz := hg.size h
  have hc := h.2.1
  have hm := h.2.2.1
  unfold maxLen at hm
  have hcl : (cutG gs).length = min 10 gs.length := by rw [cutG, List.length_map, List.length_take]
  refine Fn.enter (vs := [.slice ao n cap]) Try.func15 rfl rfl rfl ?_
  intro E R hR
  have h := h.le (hR N (by simp))
  have hg := hg.le (hR N (by simp))
  change At _ _ E [R] _
  refine At.seq fun K1 hk_1 => ?_
  refine At.region ?_
  refine op_assign (nxlf rfl) rfl rfl ?_
  refine At.opsNil ?_
  refine At.norm (hk_1 ?_)
  refine At.seq fun K2 hk_2 => ?_
  refine At.region ?_
  refine op_assign (nxlf rfl) rfl rfl ?_
  refine At.opsNil ?_
  refine At.norm (hk_2 ?_)
  refine At.seq fun K3 hk_3 => ?_
  refine At.seq fun K4 hk_4 => ?_
  refine At.region ?_
  refine op_assign (nxlf rfl) rfl rfl ?_
  refine At.opsNil ?_
  refine At.norm (hk_4 ?_)
  refine At.block ?_
  refine At.empty ?_
  refine At.empty ?_
  refine At.perm sel2 ?_
  refine At.perm sel1 ?_
  refine At.perm sel2 ?_
  refine At.loop (fun fr_ hp_ ms_ => ∃ (i m : Nat) (a : Option Addr) (c : Nat) (ys : List LV) (Na NJ : Heaplet), fr_ = [(0, .slice ao n cap), (3, .slice a m c), (4, .int .i64 (i : Int))] ∧ hp_ = [Na, NJ, R] ∧ n - i = ms_ ∧ (i ≤ n) ∧ (i ≤ 10) ∧ (m = i) ∧ (Row Na 43 22 a m c (logsC ys)) ∧ (LogsN NJ ((gs.take i).map LogM.cut) ys)) ?_ (.refl _) ⟨0, 0, none, 0, [], nilH, nilH, rfl, rfl, rfl, Nat.zero_le _, Nat.zero_le _, rfl, Row.nil _ _ _, LogsN.nil⟩ ?_
  · exact .cons (by first | exact lkI rfl (by omega) | rfl) (.cons (by first | exact lkI rfl (by omega) | rfl) (.cons (by first | exact lkI rfl (by omega) | rfl) .nil))
  rintro _ _ _ ⟨i, m, a, c, ys, Na, NJ, rfl, rfl, rfl, hi, hi10, hmi, ra, hy⟩
  refine At.seq fun K5 hk_5 => ?_
  refine At.seq fun K6 hk_6 => ?_
  refine At.region ?_
  refine op_move (nxlf rfl) rfl rfl ?_
  refine op_move (nxlf rfl) rfl rfl ?_
  refine op_lenS (nxlf rfl) se35 rfl rfl ?_
  refine op_lss (nxlf rfl) rfl rfl rfl ?_
  refine op_move (nxlf rfl) rfl rfl ?_
  refine At.partP (d := 9) rfl (fun g9 => ?_) (fun g9 => ?_)
  · refine op_move (nxgf rfl rfl rfl rfl) rfl rfl ?_
    refine op_lss (nxgf rfl rfl rfl rfl) rfl rfl rfl ?_
    refine op_pickT (nxlf rfl) rfl rfl rfl ?_
    refine At.opsNil ?_
    refine At.norm (hk_6 ?_)
    refine At.condP rfl (fun c12 => ?_) (fun c12 => ?_)
    · refine At.knowT (d := 12) rfl c12 ?_
      have hlt : i < gs.length := by omega
      obtain ⟨g, x, hgi, hxi, hgx⟩ := hg.at hlt
      have hxa : x.addr.length = 20 := by rw [hgx.1]; exact hgx.2.1
      have hth := hgx.2.2.2.2.1
      have htop := hgx.2.2.2.1
      have hdat := hgx.2.2.2.2.2
      have hfl1 := cells_fld (o := 20) hxi hg.cells (by decide) (show x.cells[20]? = some (.slice x.topA x.topN x.topC) from LV.top_at hxa)
      have hfl2 := cells_fld (o := 21) hxi hg.cells (by decide) (show x.cells[21]? = some (.slice x.datA x.datN x.datC) from LV.dat_at hxa)
      have hsome : ao.isSome = true := by
        obtain ⟨bA, oA, hao, _⟩ := h.2.2.2 (by omega)
        rw [hao]; rfl
      have hxu : (u8s x.addr).length = 20 := by rw [u8s_len, hxa]
      refine At.skip ?_
      refine At.norm (hk_5 ?_)
      refine At.seq fun K7 hk_7 => ?_
      refine At.block ?_
      refine At.drawnS [R] [19,20] [0,1,2,12,13] [0,1,2,3,4,5,6,7,8,9,10,12,13,14,15,16,11,17,18,19,20,21] (by kernel_rfl) (by kernel_rfl) (.cons _ (.cons _ (.refl _))) ?_
      refine op_move (nxsf rfl rfl rfl) rfl rfl ?_
      refine op_move (nxsf rfl rfl rfl) rfl rfl ?_
      refine op_move (nxsf rfl rfl rfl) rfl rfl ?_
      refine op_idxE (nxsf rfl rfl rfl) se35 rfl rfl h (show _ = (((i : Nat)) : Int) from by omega) (by omega) rfl ?_
      refine op_fieldAddrE (nxsf rfl rfl rfl) fl43_0 rfl (by first | rfl | assumption) rfl ?_
      refine op_loadAggE (ds := u8s x.addr) (nxsf rfl rfl rfl) ag23 rfl h (by exact cells_addr hxi hg.cells hxa) (by exact hxu) (by omega) (by first | exact mem0 | exact mem1 | exact mem2 | exact mem3 | exact mem4 | exact mem5 | exact mem6 | exact mem7 | exact mem8 | exact mem9) rfl ?_
      refine op_move (nxsf rfl rfl rfl) rfl rfl ?_
      refine op_move (nxsf rfl rfl rfl) rfl rfl ?_
      refine op_idxE (nxsf rfl rfl rfl) se35 rfl rfl h (show _ = (((i : Nat)) : Int) from by omega) (by omega) rfl ?_
      refine op_fieldAddrE (nxsf rfl rfl rfl) fl43_1 rfl (by first | rfl | assumption) rfl ?_
      refine op_loadE (nxsf rfl rfl rfl) sc41 rfl h (by first | exact get8 (by omega) | exact get64 (by omega) | exact get32 (by omega) | exact hfl1) (by first | exact mem0 | exact mem1 | exact mem2 | exact mem3 | exact mem4 | exact mem5 | exact mem6 | exact mem7 | exact mem8 | exact mem9) rfl ?_
      refine op_move (nxsf rfl rfl rfl) rfl rfl ?_
      refine op_move (nxsf rfl rfl rfl) rfl rfl ?_
      refine op_idxE (nxsf rfl rfl rfl) se35 rfl rfl h (show _ = (((i : Nat)) : Int) from by omega) (by omega) rfl ?_
      refine op_fieldAddrE (nxsf rfl rfl rfl) fl43_2 rfl (by first | rfl | assumption) rfl ?_
      refine op_loadE (nxsf rfl rfl rfl) sc27 rfl h (by first | exact get8 (by omega) | exact get64 (by omega) | exact get32 (by omega) | exact hfl2) (by first | exact mem0 | exact mem1 | exact mem2 | exact mem3 | exact mem4 | exact mem5 | exact mem6 | exact mem7 | exact mem8 | exact mem9) rfl ?_
      refine op_callA (Nx.agree (nxsm rfl rfl rfl)) (.cons rfl .nil) (FKeys_b htop hth) Try.func48 rfl rfl (by simp) rfl ?_
      rintro v26 L26 ⟨N26, a26, c26, rfl, rfl, s26⟩
      change At _ _ _ [N26, Na, NJ, R] _
      refine At.moreS (Lst := [R]) (Lst' := [R]) (.refl _) (.cons _ (.cons _ (.cons _ (.refl _)))) ?_
      refine op_callA (Nx.agree (nxsm rfl rfl rfl)) (.cons rfl (.cons rfl .nil)) (KTwin_f hdat 200 200 rfl (by decide)) Try.func8 rfl rfl (by simp) rfl ?_
      rintro v32 L32 ⟨N32, a32, c32, rfl, rfl, r32⟩
      change At _ _ _ [N32, N26, Na, NJ, R] _
      have s32 := r32.rsl
      refine At.moreS (Lst := [R]) (Lst' := [R]) (.refl _) (.cons _ (.cons _ (.cons _ (.cons _ (.refl _))))) ?_
      refine op_build (out := LV.cells ⟨x.addr, a26, (g.topics.take 12).length, c26, a32, (g.data.take 200).length, c32⟩) (nxsf rfl rfl rfl) ze43 pl43 (.cons rfl (.cons rfl (.cons rfl .nil))) (fill_log hxa _ _ _ _ _ _ _ rfl) rfl ?_
      refine op_lit (Nx.agree (nxss rfl rfl rfl rfl)) Try.underlying35 ze43 sz43 (.cons rfl .nil) rfl rfl (by (intro p hp; rw [List.mem_singleton.1 hp]; exact LV.cells_len (x := ⟨x.addr, a26, (g.topics.take 12).length, c26, a32, (g.data.take 200).length, c32⟩) hxa)) rfl rfl rfl (fun N34 a34 r34 => ?_)
      simp only [flatV, List.flatMap_cons, List.flatMap_nil, Value.cells, List.append_nil, List.cons_append, List.nil_append] at r34
      have s34 := r34.rsl
      refine At.anyS (.refl _) ?_
      have s34 : RSl N34 22 a34 1 1 (logsC [⟨x.addr, a26, (g.topics.take 12).length, c26, a32, (g.data.take 200).length, c32⟩]) := by
        have := r34.rsl
        simp only [logsC, List.flatMap_cons, List.flatMap_nil, List.append_nil]
        exact this
      refine op_append (nxss rfl rfl rfl rfl) Try.underlying35 Try.underlying35 te43 rfl rfl ra s34 (by first | exact mem0 | exact mem1 | exact mem2 | exact mem3 | exact mem4 | exact mem5 | exact mem6 | exact mem7 | exact mem8 | exact mem9) (logsC_one _) (by omega) (by omega) sel3 rfl (fun N35 a35 p35 r35 => ?_)
      have s35 := r35.rsl
      refine At.anyS (.refl _) ?_
      rw [logsC, logsC, ← List.flatMap_append] at r35
      change Row N35 _ 22 a35 (m + 1) p35 (logsC (ys ++ [⟨x.addr, a26, (g.topics.take 12).length, c26, a32, (g.data.take 200).length, c32⟩])) at r35
      refine op_assign (nxsf rfl rfl rfl) rfl rfl ?_
      refine At.sNil ?_
      refine At.inNorm ?_
      refine At.norm (hk_7 ?_)
      refine At.region ?_
      refine op_move (nxlf rfl) rfl rfl ?_
      refine op_addI (nxlf rfl) rfl rfl (by omega) (by omega) rfl ?_
      refine op_assign (nxlf rfl) rfl rfl ?_
      refine At.opsNil ?_
      refine At.norm ?_
      refine At.perm sel5 ?_
      refine At.perm sel3 ?_
      refine At.perm sel3 ?_
      refine At.perm sel3 ?_
      refine At.perm sel4 ?_
      refine At.perm sel5 ?_
      refine At.mergeN (fun J J1 J2 => ?_)
      refine At.perm sel4 ?_
      refine At.perm sel3 ?_
      refine At.perm sel3 ?_
      refine At.perm sel4 ?_
      refine At.perm sel4 ?_
      refine At.mergeN (fun K K1 K2 => ?_)
      refine At.sub (L' := [K, N35, R]) (.cons_cons _ (.cons_cons _ (.cons _ (.cons_cons _ (.slnil))))) ?_
      refine At.perm sel2 ?_
      refine At.perm sel1 ?_
      refine At.perm sel2 ?_
      refine At.back ?_ (.refl _) ⟨i + 1, m + 1, a35, p35, ys ++ [⟨x.addr, a26, (g.topics.take 12).length, c26, a32, (g.data.take 200).length, c32⟩], N35, K, rfl, rfl, rfl, by omega, by omega, by omega, r35, by rw [cutG_next hgi]; exact (hy.le (Heaplet.le_trans J1 K1)).snoc ⟨hgx.1, hgx.2.1, rfl, s26.le (Heaplet.le_trans J2 K1), fun t ht => hth t (List.mem_of_mem_take ht), s32.le K2⟩⟩ ?_
      · exact .cons (by first | exact lkI rfl (by omega) | rfl) (.cons (by first | exact lkI rfl (by omega) | rfl) (.cons (by first | exact lkI rfl (by omega) | rfl) .nil))
      · omega
    · refine At.knowF (d := 12) rfl c12 ?_
      refine At.exit (At.thenExit (At.thenExit (At.inHit ?_)))
      refine At.norm (hk_3 ?_)
      refine At.seq fun K8 hk_8 => ?_
      refine At.region ?_
      refine op_move (nxlf rfl) rfl rfl ?_
      refine op_assign (nxlf rfl) rfl rfl ?_
      refine At.opsNil ?_
      refine At.norm (hk_8 ?_)
      refine At.ret (?_)
      refine At.ret1 (L1 := [Na, NJ]) rfl (.tmp rfl .nil) (.refl _) (.refl _) ?_
      have hmi2 : m = (cutG gs).length := by omega
      have hcg : (gs.take i).map LogM.cut = cutG gs := by
        rw [cutG]
        congr 1
        rcases Nat.lt_or_ge i 10 with h1 | h1
        · rw [List.take_of_length_le (by omega), List.take_of_length_le (by omega)]
        · rw [show i = 10 by omega]
      rw [hcg] at hy
      rw [hmi2] at ra
      exact ⟨Na, NJ, a, c, ys, by rw [hmi2], rfl, ra, hy⟩
  · refine op_skip rfl rfl rfl rfl rfl rfl rfl ?_
    refine op_skip rfl rfl rfl rfl rfl rfl rfl ?_
    refine op_pickF (nxlf rfl) rfl rfl rfl ?_
    refine At.opsNil ?_
    refine At.norm (hk_6 ?_)
    refine At.condF rfl ?_
    refine At.exit (At.thenExit (At.thenExit (At.inHit ?_)))
    refine At.norm (hk_3 ?_)
    refine At.seq fun K9 hk_9 => ?_
    refine At.region ?_
    refine op_move (nxlf rfl) rfl rfl ?_
    refine op_assign (nxlf rfl) rfl rfl ?_
    refine At.opsNil ?_
    refine At.norm (hk_9 ?_)
    refine At.ret (?_)
    refine At.ret1 (L1 := [Na, NJ]) rfl (.tmp rfl .nil) (.refl _) (.refl _) ?_
    have hmi2 : m = (cutG gs).length := by omega
    have hcg : (gs.take i).map LogM.cut = cutG gs := by
      rw [cutG]
      congr 1
      rcases Nat.lt_or_ge i 10 with h1 | h1
      · rw [List.take_of_length_le (by omega), List.take_of_length_le (by omega)]
      · rw [show i = 10 by omega]
    rw [hcg] at hy
    rw [hmi2] at ra
    exact ⟨Na, NJ, a, c, ys, by rw [hmi2], rfl, ra, hy⟩
end
end Go.Proofs.Ytljacjjeinmfnaa
