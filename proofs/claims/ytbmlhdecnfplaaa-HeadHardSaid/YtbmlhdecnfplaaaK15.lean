/- Several texts in one: see the remarks ahead of each part. No condition but those told there. -/
import Derived.Test.YtbmlhdecnfplaaaK7
import Derived.Test.YtbmlhdecnfplaaaK8
import Derived.Test.YtbmlhdecnfplaaaK14
import Derived.Test.YtbmlhdecnfplaaaK9
import Derived.Stop.BytesEq
import Derived.Test.YtbmlhdecnfplaaaK13
import Derived.Test.YtbmlhdecnfplaaaK10
/- Headers in memory. No condition. -/
namespace Go.Proofs.Ytbmlhdecnfplaaa
set_option linter.unusedVariables false
set_option linter.unusedSimpArgs false
open Go Go.RowKit
/-- A header, without its Extra. -/
structure Hd where
  fi : Int
  pa : List UInt8
  om : List UInt8
  a2 : List UInt8
  df : Nat
  nu : UInt64
  gl : UInt64
  gu : UInt64
  ti : UInt64
  b2 : List UInt8
  bf : Nat
  c2 : List UInt8
  bg : UInt64
  ex : UInt64
  d2 : List UInt8
structure Hd.Ok (h : Hd) : Prop where
  pa : h.pa.length = 32
  om : h.om.length = 32
  a2 : h.a2.length = 372
  df : h.df < WW
  b2 : h.b2.length = 40
  bf : h.bf < WW
  c2 : h.c2.length = 32
  d2 : h.d2.length = 32
/-- A header's cells. -/
def Hd.cells (h : Hd) (ao : Option Addr) (n cap : Nat) : List Value := .int .i64 h.fi :: (u8s h.pa ++ (u8s h.om ++ (u8s h.a2 ++ (u64s (wl h.df) ++ (.int .u64 (h.nu.toNat : Int) :: .int .u64 (h.gl.toNat : Int) :: .int .u64 (h.gu.toNat : Int) :: .int .u64 (h.ti.toNat : Int) :: .slice ao n cap :: (u8s h.b2 ++ (u64s (wl h.bf) ++ (u8s h.c2 ++ (.int .u64 (h.bg.toNat : Int) :: .int .u64 (h.ex.toNat : Int) :: u8s h.d2)))))))))
theorem hd_cut {a m b : List Value} {k n : Nat} (ha : a.length = k) (hm : m.length = n) : ((a ++ (m ++ b)).drop k).take n = m := by
  subst ha; subst hm
  rw [List.drop_left, List.take_left]
theorem hd_get {a b : List Value} {v : Value} {k : Nat} (ha : a.length = k) : (a ++ v :: b)[k]? = some v := by
  subst ha
  rw [List.getElem?_append_right (Nat.le_refl _), Nat.sub_self]; rfl
theorem hd_set {a b : List Value} {v w : Value} {k : Nat} (ha : a.length = k) : (a ++ v :: b).set k w = a ++ w :: b := by
  subst ha
  rw [List.set_append_right _ _ (Nat.le_refl _), Nat.sub_self]; rfl
theorem u64s_len (l : List UInt64) : (u64s l).length = l.length := by simp [u64s]
theorem u8s_len (l : List UInt8) : (u8s l).length = l.length := by simp [u8s]
section
variable {h : Hd} {ao : Option Addr} {n cap : Nat}
def Hd.p1 (h : Hd) : List Value := .int .i64 h.fi :: (u8s h.pa ++ (u8s h.om ++ u8s h.a2))
theorem Hd.p1_len (k : h.Ok) : h.p1.length = 437 := by simp [Hd.p1, u8s_len, k.pa, k.om, k.a2]
def Hd.p2 (h : Hd) : List Value := h.p1 ++ u64s (wl h.df)
theorem Hd.p2_len (k : h.Ok) : h.p2.length = 441 := by simp [Hd.p2, Hd.p1_len k, u64s_len, length_wl]
def Hd.t1 (h : Hd) : List Value := u8s h.b2 ++ (u64s (wl h.bf) ++ (u8s h.c2 ++ (.int .u64 (h.bg.toNat : Int) :: .int .u64 (h.ex.toNat : Int) :: u8s h.d2)))
def Hd.p3 (h : Hd) (ao : Option Addr) (n cap : Nat) : List Value := h.p2 ++ (.int .u64 (h.nu.toNat : Int) :: .int .u64 (h.gl.toNat : Int) :: .int .u64 (h.gu.toNat : Int) :: .int .u64 (h.ti.toNat : Int) :: .slice ao n cap :: u8s h.b2)
theorem Hd.p3_len (k : h.Ok) : (h.p3 ao n cap).length = 486 := by simp [Hd.p3, Hd.p2_len k, u8s_len, k.b2]
def Hd.p4 (h : Hd) (ao : Option Addr) (n cap : Nat) : List Value := h.p3 ao n cap ++ (u64s (wl h.bf) ++ u8s h.c2)
theorem Hd.p4_len (k : h.Ok) : (h.p4 ao n cap).length = 522 := by simp [Hd.p4, Hd.p3_len k, u8s_len, u64s_len, length_wl, k.c2]
theorem Hd.e1 : h.cells ao n cap = h.p1 ++ (u64s (wl h.df) ++ (.int .u64 (h.nu.toNat : Int) :: .int .u64 (h.gl.toNat : Int) :: .int .u64 (h.gu.toNat : Int) :: .int .u64 (h.ti.toNat : Int) :: .slice ao n cap :: h.t1)) := by
  simp [Hd.cells, Hd.p1, Hd.t1, List.append_assoc]
theorem Hd.e2 : h.cells ao n cap = h.p2 ++ (.int .u64 (h.nu.toNat : Int) :: .int .u64 (h.gl.toNat : Int) :: .int .u64 (h.gu.toNat : Int) :: .int .u64 (h.ti.toNat : Int) :: .slice ao n cap :: h.t1) := by
  rw [Hd.e1, Hd.p2, List.append_assoc]
theorem Hd.e3 : h.cells ao n cap = h.p3 ao n cap ++ (u64s (wl h.bf) ++ (u8s h.c2 ++ (.int .u64 (h.bg.toNat : Int) :: .int .u64 (h.ex.toNat : Int) :: u8s h.d2))) := by
  rw [Hd.e2, Hd.p3, Hd.t1]; simp [List.append_assoc]
theorem Hd.e4 : h.cells ao n cap = h.p4 ao n cap ++ (.int .u64 (h.bg.toNat : Int) :: .int .u64 (h.ex.toNat : Int) :: u8s h.d2) := by
  rw [Hd.e3, Hd.p4]; simp [List.append_assoc]
theorem Hd.nu_at (k : h.Ok) : (h.cells ao n cap)[441]? = some (.int .u64 (h.nu.toNat : Int)) := by
  rw [Hd.e2]; exact hd_get (Hd.p2_len k)
theorem hd_get1 {a b : List Value} {u v : Value} {k : Nat} (ha : a.length = k) : (a ++ u :: v :: b)[k + 1]? = some v := by
  subst ha
  rw [List.getElem?_append_right (by omega), show a.length + 1 - a.length = 1 by omega]; rfl
theorem hd_get2 {a b : List Value} {t u v : Value} {k : Nat} (ha : a.length = k) : (a ++ t :: u :: v :: b)[k + 2]? = some v := by
  subst ha
  rw [List.getElem?_append_right (by omega), show a.length + 2 - a.length = 2 by omega]; rfl
theorem hd_get3 {a b : List Value} {s t u v : Value} {k : Nat} (ha : a.length = k) : (a ++ s :: t :: u :: v :: b)[k + 3]? = some v := by
  subst ha
  rw [List.getElem?_append_right (by omega), show a.length + 3 - a.length = 3 by omega]; rfl
theorem hd_get4 {a b : List Value} {r s t u v : Value} {k : Nat} (ha : a.length = k) : (a ++ r :: s :: t :: u :: v :: b)[k + 4]? = some v := by
  subst ha
  rw [List.getElem?_append_right (by omega), show a.length + 4 - a.length = 4 by omega]; rfl
theorem hd_set4 {a b : List Value} {r s t u v w : Value} {k : Nat} (ha : a.length = k) : (a ++ r :: s :: t :: u :: v :: b).set (k + 4) w = a ++ r :: s :: t :: u :: w :: b := by
  subst ha
  rw [List.set_append_right _ _ (by omega), show a.length + 4 - a.length = 4 by omega]; rfl
theorem Hd.gl_at (k : h.Ok) : (h.cells ao n cap)[442]? = some (.int .u64 (h.gl.toNat : Int)) := by
  rw [Hd.e2]; exact hd_get1 (Hd.p2_len k)
theorem Hd.gu_at (k : h.Ok) : (h.cells ao n cap)[443]? = some (.int .u64 (h.gu.toNat : Int)) := by
  rw [Hd.e2]; exact hd_get2 (Hd.p2_len k)
theorem Hd.ti_at (k : h.Ok) : (h.cells ao n cap)[444]? = some (.int .u64 (h.ti.toNat : Int)) := by
  rw [Hd.e2]; exact hd_get3 (Hd.p2_len k)
theorem Hd.sl_at (k : h.Ok) : (h.cells ao n cap)[445]? = some (.slice ao n cap) := by
  rw [Hd.e2]; exact hd_get4 (Hd.p2_len k)
theorem Hd.bg_at (k : h.Ok) : (h.cells ao n cap)[522]? = some (.int .u64 (h.bg.toNat : Int)) := by
  rw [Hd.e4]; exact hd_get (Hd.p4_len k)
theorem Hd.ex_at (k : h.Ok) : (h.cells ao n cap)[523]? = some (.int .u64 (h.ex.toNat : Int)) := by
  rw [Hd.e4]; exact hd_get1 (Hd.p4_len k)
theorem Hd.dfs (k : h.Ok) : ((h.cells ao n cap).drop 437).take 4 = u64s (wl h.df) := by
  rw [Hd.e1]; exact hd_cut (Hd.p1_len k) (by rw [u64s_len, length_wl])
theorem Hd.bfs (k : h.Ok) : ((h.cells ao n cap).drop 486).take 4 = u64s (wl h.bf) := by
  rw [Hd.e3]; exact hd_cut (Hd.p3_len k) (by rw [u64s_len, length_wl])
theorem Hd.oms (k : h.Ok) : ((h.cells ao n cap).drop 33).take 32 = u8s h.om := by
  have e : h.cells ao n cap = (.int .i64 h.fi :: u8s h.pa) ++ (u8s h.om ++ (u8s h.a2 ++ (u64s (wl h.df) ++ (.int .u64 (h.nu.toNat : Int) :: .int .u64 (h.gl.toNat : Int) :: .int .u64 (h.gu.toNat : Int) :: .int .u64 (h.ti.toNat : Int) :: .slice ao n cap :: h.t1)))) := by
    simp [Hd.cells, Hd.t1]
  rw [e]; exact hd_cut (by simp [u8s_len, k.pa]) (by rw [u8s_len, k.om])
theorem Hd.len (k : h.Ok) : (h.cells ao n cap).length = 556 := by
  rw [Hd.e4, List.length_append, Hd.p4_len k]; simp [u8s_len, k.d2]
theorem Hd.all (k : h.Ok) : ((h.cells ao n cap).drop 0).take 556 = h.cells ao n cap := by
  rw [List.drop_zero, List.take_of_length_le (by rw [Hd.len k]; omega)]
theorem Hd.set (k : h.Ok) {a' : Option Addr} {n' c' : Nat} : setL (h.cells ao n cap) 445 [.slice a' n' c'] = h.cells a' n' c' := by
  rw [setL, setL, Hd.e2, Hd.e2]; exact hd_set4 (Hd.p2_len k)
theorem Hd.ones : (h.cells ao n cap).all (·.oneCell') = true := by
  rw [List.all_eq_true]
  intro v hv
  simp only [Hd.cells, List.mem_cons, List.mem_append] at hv
  rcases hv with rfl | hv | hv | hv | hv | rfl | rfl | rfl | rfl | rfl | hv | hv | hv | rfl | rfl | hv
  all_goals first | rfl | exact one_u8s _ v hv | exact one_u64s _ v hv
end
section
variable {h : Hd} {ao : Option Addr} {n cap : Nat} {N : Heaplet} {b : Nat} {e : TypeId}
theorem Hd.slice_bf (hB : Blk N b e (h.cells ao n cap)) (k : h.Ok) : RSl N 1 (some ⟨b, 0 + 486 + 0 * 1, none⟩) (4 - 0) (4 - 0) (u64s (wl h.bf)) := by
  refine ⟨by rw [u64s_len, length_wl], Nat.le_refl _, by decide, fun _ => ⟨b, 486, rfl, ?_⟩⟩
  have r := hB.rng.sub (o := 486) (ds := u64s (wl h.bf)) fun i hi => by
    have hi4 : i < 4 := by rw [u64s_len, length_wl] at hi; exact hi
    have e := congrArg (·[i]?) (Hd.bfs (ao := ao) (n := n) (cap := cap) k)
    simp only [List.getElem?_take, hi4, if_true, List.getElem?_drop] at e
    rw [e, List.getElem?_eq_getElem hi]
  rwa [Nat.zero_add] at r
theorem Hd.slice_df (hB : Blk N b e (h.cells ao n cap)) (k : h.Ok) : RSl N 1 (some ⟨b, 0 + 437 + 0 * 1, none⟩) (4 - 0) (4 - 0) (u64s (wl h.df)) := by
  refine ⟨by rw [u64s_len, length_wl], Nat.le_refl _, by decide, fun _ => ⟨b, 437, rfl, ?_⟩⟩
  have r := hB.rng.sub (o := 437) (ds := u64s (wl h.df)) fun i hi => by
    have hi4 : i < 4 := by rw [u64s_len, length_wl] at hi; exact hi
    have e := congrArg (·[i]?) (Hd.dfs (ao := ao) (n := n) (cap := cap) k)
    simp only [List.getElem?_take, hi4, if_true, List.getElem?_drop] at e
    rw [e, List.getElem?_eq_getElem hi]
  rwa [Nat.zero_add] at r
end
theorem cells_agg (xs : List Value) : (Value.agg xs.toArray).cells = xs.toArray := rfl
/-- No header. -/
def zh : Hd := ⟨0, List.replicate 32 0, List.replicate 32 0, List.replicate 372 0, 0, 0, 0, 0, 0, List.replicate 40 0, 0, List.replicate 32 0, 0, 0, List.replicate 32 0⟩
theorem zh_ok : zh.Ok := ⟨List.length_replicate, List.length_replicate, List.length_replicate, by decide +kernel, List.length_replicate, by decide +kernel, List.length_replicate, List.length_replicate⟩
theorem zeHdr : zer Try.prog 33 = some (.agg (zh.cells none 0 0).toArray) := by kernel_rfl
/-- The header of the document's run. -/
def rh : Hd := { zh with df := 1000000, ti := 100 }
theorem rh_ok : rh.Ok := ⟨List.length_replicate, List.length_replicate, List.length_replicate, by decide +kernel, List.length_replicate, by decide +kernel, List.length_replicate, List.length_replicate⟩
end Go.Proofs.Ytbmlhdecnfplaaa
/- The price of blob gas, base fees, the excess: plain numbers. No condition. -/
namespace Go.Proofs.Ytbmlhdecnfplaaa
set_option linter.unusedVariables false
set_option linter.unusedSimpArgs false
def bC : Nat := 3338477
def bT (x : Nat) : Nat → Nat
  | 0 => bC
  | k + 1 => bT x k * x / (bC * (k + 1))
def bS (x : Nat) : Nat → Nat
  | 0 => 0
  | k + 1 => bS x k + bT x k
theorem bT_s (x k : Nat) : bT x (k + 1) = bT x k * x / (3338477 * (k + 1)) := rfl
theorem bS_s (x k : Nat) : bS x (k + 1) = bS x k + bT x k := rfl
theorem bT_mono {x y : Nat} (h : x ≤ y) : ∀ k, bT x k ≤ bT y k
  | 0 => Nat.le_refl _
  | k + 1 => Nat.div_le_div_right (Nat.mul_le_mul (bT_mono h k) h)
theorem bS_mono {x y : Nat} (h : x ≤ y) : ∀ k, bS x k ≤ bS y k
  | 0 => Nat.le_refl _
  | k + 1 => Nat.add_le_add (bS_mono h k) (bT_mono h k)
theorem bT_zero {x k : Nat} (h : bT x k = 0) : ∀ m, bT x (k + m) = 0
  | 0 => h
  | m + 1 => by
    rw [← Nat.add_assoc, bT, bT_zero h m, Nat.zero_mul, Nat.zero_div]
theorem bS_end {x k : Nat} (h : bT x k = 0) : ∀ m, bS x (k + m) = bS x k
  | 0 => rfl
  | m + 1 => by
    rw [← Nat.add_assoc, bS, bT_zero h m, bS_end h m, Nat.add_zero]
theorem bS_stop {x k : Nat} (h : bT x k = 0) (hk : k ≤ 700) : bS x 700 = bS x k := by
  have := bS_end h (700 - k)
  rwa [show k + (700 - k) = 700 by omega] at this
set_option maxRecDepth 100000 in
theorem bT_last6 : bT 600000000 700 = 0 := by decide +kernel
theorem bT_last {x : Nat} (h : x ≤ 600000000) : bT x 700 = 0 := Nat.le_zero.1 (bT_last6 ▸ bT_mono h 700)
theorem bT_on {x k : Nat} (h : x ≤ 600000000) (hk : k ≤ 700) (h0 : bT x k ≠ 0) : k + 1 ≤ 700 := by
  rcases Nat.lt_or_ge k 700 with h1 | h1
  · exact h1
  · exact absurd ((show k = 700 by omega) ▸ bT_last h) h0
theorem bT_pow {x : Nat} (h : x ≤ 600000000) : ∀ k, bT x k ≤ bC * 256 ^ k
  | 0 => by simp [bT]
  | k + 1 => by
    have h1 := bT_pow h k
    rw [bT]
    refine Nat.div_le_of_le_mul ?_
    calc bT x k * x ≤ bC * 256 ^ k * (bC * 256) := Nat.mul_le_mul h1 (by rw [bC]; omega)
      _ ≤ bC * 256 ^ k * (bC * 256) * (k + 1) := Nat.le_mul_of_pos_right _ (by omega)
      _ = bC * (k + 1) * (bC * 256 ^ (k + 1)) := by rw [Nat.pow_succ]; ac_rfl
theorem bT_lt {x k : Nat} (h : x ≤ 600000000) : bT x k < 2 ^ (22 + 8 * k) := by
  refine Nat.lt_of_le_of_lt (bT_pow h k) ?_
  rw [Nat.pow_add, Nat.pow_mul]
  exact Nat.mul_lt_mul_of_pos_right (by decide) (Nat.pow_pos (by decide))
theorem bS_lt {x : Nat} (h : x ≤ 600000000) : ∀ k, bS x k < 2 ^ (22 + 8 * k)
  | 0 => Nat.pow_pos (by decide)
  | k + 1 => by
    have h1 := bS_lt h k
    have h2 := bT_lt (k := k) h
    rw [bS, show 22 + 8 * (k + 1) = 22 + 8 * k + 8 by omega, Nat.pow_add _ (22 + 8 * k) 8]
    omega
theorem bTx_lt {x k : Nat} (h : x ≤ 600000000) : bT x k * x < 2 ^ (22 + 8 * k + 30) := by
  rw [Nat.pow_add _ (22 + 8 * k) 30]
  have h2 := bT_lt (k := k) h
  exact Nat.lt_of_le_of_lt (Nat.mul_le_mul_left _ (show x ≤ 2 ^ 30 by omega)) (Nat.mul_lt_mul_of_pos_right h2 (by decide))
/-- What a blob costs. -/
def blobQ (x : Nat) : Nat := bS x 700 / bC
theorem blobQ_eq {x k : Nat} (h : bT x k = 0) (hk : k ≤ 700) : bS x k / 3338477 = blobQ x := by rw [blobQ, bS_stop h hk]; rfl
/-- The greatest word, if it is more. -/
def capW (n : Nat) : Nat := if n < WW then n else WW - 1
theorem capW_lt (n : Nat) : capW n < WW := by
  have := WW_pos
  unfold capW; split <;> omega
theorem capW_mono {a b : Nat} (h : a ≤ b) : capW a ≤ capW b := by
  have := WW_pos
  unfold capW; split <;> split <;> omega
def blobF (x : Nat) : Nat := if 600000000 < x then WW - 1 else capW (blobQ x)
theorem blobF_lt (x : Nat) : blobF x < WW := by
  have := WW_pos
  unfold blobF; split
  · omega
  · exact capW_lt _
theorem blobF_mono {x y : Nat} (h : x ≤ y) : blobF x ≤ blobF y := by
  unfold blobF
  by_cases h1 : 600000000 < y
  · rw [if_pos h1]
    have := capW_lt (blobQ x)
    split <;> omega
  · rw [if_neg h1, if_neg (by omega)]
    exact capW_mono (Nat.div_le_div_right (bS_mono h 700))
theorem blobQ_one (x : Nat) : 1 ≤ blobQ x := by
  have h : ∀ k, bC ≤ bS x (k + 1) := by
    intro k
    induction k with
    | zero => rw [bS_s]; exact Nat.le_add_left ..
    | succ k ih => rw [bS_s]; omega
  exact (Nat.le_div_iff_mul_le (by decide)).2 (by rw [Nat.one_mul]; exact h 699)
theorem blobF_one (x : Nat) : 1 ≤ blobF x := by
  have h1 := blobQ_one x
  have h2 : 2 ≤ WW := by decide +kernel
  unfold blobF capW
  split
  · omega
  · split <;> omega
theorem blobF_0 : blobF 0 = 1 := by
  have h : blobQ 0 = 1 := by rw [← blobQ_eq (k := 1) (by decide) (by decide)]; decide
  rw [blobF, if_neg (by decide), h]; decide +kernel
theorem blobF_1 : blobF 10000000 = 19 := by
  have h : blobQ 10000000 = 19 := by rw [← blobQ_eq (k := 60) (by decide +kernel) (by decide)]; decide +kernel
  rw [blobF, if_neg (by decide), h]; decide +kernel
/-- A number as a word, and whether it is one. -/
def fitV (n : Nat) : Nat := if n < WW then n else 0
theorem fitV_lt (n : Nat) : fitV n < WW := by
  have := WW_pos
  unfold fitV; split <;> omega
theorem fitV_y {n : Nat} (h : n < WW) : fitV n = n := if_pos h
theorem fitV_n {n : Nat} (h : ¬ n < WW) : fitV n = 0 := if_neg h
/-- What a base fee goes up or down by. -/
def partN (b g a : Nat) : Nat := b * a / g / 8
def moreN (b g a : Nat) : Nat := if partN b g a = 0 then 1 else partN b g a
def baseF (gl gu b : Nat) : Nat := if gl / 2 < gu then b + moreN b (gl / 2) (gu - gl / 2) else b - partN b (gl / 2) (gl / 2 - gu)
theorem part_zero (b g : Nat) : partN b g 0 = 0 := by simp [partN]
theorem part_le {b g a : Nat} (h : a ≤ g) : partN b g a ≤ b / 8 := by
  unfold partN
  rcases Nat.eq_zero_or_pos g with h0 | h0
  · subst h0
    rw [Nat.div_zero, Nat.zero_div]; exact Nat.zero_le _
  · refine Nat.div_le_div_right ?_
    refine Nat.div_le_of_le_mul ?_
    rw [Nat.mul_comm g]
    exact Nat.mul_le_mul_left _ h
theorem baseF_eq (gl b : Nat) : baseF gl (gl / 2) b = b := by
  rw [baseF, if_neg (by omega), Nat.sub_self, part_zero, Nat.sub_zero]
theorem part_le_b {b g a : Nat} (h : a ≤ g) : partN b g a ≤ b := Nat.le_trans (part_le h) (Nat.div_le_self ..)
/-- A block's base fee, and whether there is one. -/
def feeR (first : Bool) (gl gu b : Nat) : Nat × Bool := if first = true then (1000000000, true) else if gl / 2 = 0 then (0, false) else (fitV (baseF gl gu b), decide (baseF gl gu b < WW))
theorem feeR_0 {gl gu b : Nat} (h : gl / 2 = 0) : feeR false gl gu b = (0, false) := by rw [feeR, if_neg (by decide), if_pos h]
theorem feeR_1 {gl gu b : Nat} (h : ¬ gl / 2 = 0) : feeR false gl gu b = (fitV (baseF gl gu b), decide (baseF gl gu b < WW)) := by rw [feeR, if_neg (by decide), if_neg h]
/-- The excess behind a block. -/
def exF (ex bg : Nat) : Nat := if ex + bg < 393216 then 0 else if 18446744073709551616 ≤ ex + bg - 393216 then 18446744073709551615 else ex + bg - 393216
end Go.Proofs.Ytbmlhdecnfplaaa
/- Package word: Of, Small, sums, differences, products. No condition. -/
namespace Go.Proofs.Ytbmlhdecnfplaaa
set_option linter.unusedVariables false
set_option linter.unusedSimpArgs false
open Go Go.RowKit
theorem arr_part {N : Heaplet} {b lo hi c : Nat} {e : TypeId} {L : List UInt64} (h : Blk N b e (u64s L)) (hl : lo ≤ hi) (hh : hi ≤ L.length) (hc : hi - lo ≤ c) (hm : c ≤ 9223372036854775807) : RSl N 1 (some ⟨b, 0 + lo * 1, none⟩) (hi - lo) c (u64s ((L.drop lo).take (hi - lo))) := by
  refine ⟨by simp [u64s]; omega, hc, hm, fun h0 => ⟨b, lo, by rw [Nat.zero_add, Nat.mul_one], ?_⟩⟩
  have e := h.rng.sub (o := lo) (ds := u64s ((L.drop lo).take (hi - lo))) fun i hi' => by
    rw [List.getElem?_eq_getElem (by simp [u64s] at hi' ⊢; omega)]
    simp [u64s]
  rwa [Nat.zero_add] at e
theorem copy_all {zs : List Value} {l : List UInt64} {o k : Nat} (ho : o = 0) (hl : l.length ≤ k) (hz : zs.length ≤ k) : zs.take o ++ (u64s l).take k ++ zs.drop (o + k) = u64s l := by
  subst ho
  rw [List.take_zero, List.nil_append, List.take_of_length_le (by simpa using hl), List.drop_of_length_le (by omega), List.append_nil]
theorem WOf_f (n : UInt64) : Fn Try.prog 45 #[.int .u64 (n.toNat : Int)] [] [] (fun v L => v = wo n.toNat ∧ L = []) := by
  refine Fn.enter (vs := [.int .u64 (n.toNat : Int)]) Try.func45 rfl rfl rfl ?_
  intro E R hR
  change At _ _ E [R] _
  refine At.seq fun K1 hk_1 => ?_
  refine At.region ?_
  refine op_alloc (nxla rfl) ze29 rfl (fun N2 b2 B2 => ?_)
  change Blk N2 b2 _ [.int .u64 0, .int .u64 0, .int .u64 0, .int .u64 0] at B2
  refine At.opsNil ?_
  refine At.norm (hk_1 ?_)
  refine At.seq fun K2 hk_2 => ?_
  refine At.region ?_
  refine op_move (nxlf rfl) rfl rfl ?_
  refine op_buildA (out := [_, .int .u64 0, .int .u64 0, .int .u64 0]) (nxlf rfl) ze29 ae29 (.cons rfl .nil) rfl rfl ?_
  refine op_store (nxl rfl) sz29 rfl rfl rfl rfl rfl B2 (by simp) sel0 (fun N2 B2 => ?_)
  simp only [setL, List.set] at B2
  refine At.opsNil ?_
  refine At.norm (hk_2 ?_)
  refine At.ret (?_)
  refine At.ret1 (L1 := []) rfl (.cell rfl (res_agg (ds := [_, _, _, _]) ag29 B2 rfl rfl mem0) .nil) (.cons _ (.refl _)) (.refl _) ?_
  exact ⟨(wo_small n).symm, rfl⟩
end Go.Proofs.Ytbmlhdecnfplaaa
/- The engine, words compared. For whatever program. No condition. -/
namespace Go.Proofs.Ytbmlhdecnfplaaa
set_option linter.unusedVariables false
set_option linter.unusedSimpArgs false
open Go Go.RowKit
theorem all_range64 : ∀ (xs ys : List UInt64), xs.length = ys.length → ((List.range xs.length).all fun i => xs.getD i 0 == ys.getD i 0) = (xs == ys)
  | [], [], _ => rfl
  | x :: xs, y :: ys, h => by
    have ih := all_range64 xs ys (by simpa using h)
    rw [List.length_cons, List.range_succ_eq_map, List.all_cons, List.all_map]
    simp only [List.getD_cons_zero, Function.comp_def, List.getD_cons_succ, ih]
    simp [List.cons_beq_cons]
  | [], _ :: _, h => by simp at h
  | _ :: _, [], h => by simp at h
section
variable {P : Program}
theorem run_equalIn_words (w : World) (d : Nat) (t e : TypeId) (n : Nat) (ht : P.underlying t = some (.array n e)) (he : P.underlying e = some (.int .u64)) (hsz : ∀ w, (sizeOf e).run P w = .ok 1 w)
    (xs ys : List UInt64) (hx : xs.length = n) (hy : ys.length = n) :
    (Op.equalIn (d + 2) t (.agg (u64s xs).toArray) (.agg (u64s ys).toArray)).run P w = .ok (xs == ys) w := by
  rw [← all_range64 xs ys (hx.trans hy.symm), hx, List.range_eq_range', Op.equalIn]
  simp only [Sem.run_bind, Go.run_underlying ht, Result.andThen_ok, hsz, Std.Legacy.Range.forIn_eq_forIn_range', Std.Legacy.Range.size, Nat.sub_zero, Nat.add_sub_cancel, Nat.div_one]
  have hl : ∀ i ∈ List.range' 0 n 1, i < n := fun i hi => by simpa using (List.mem_range'_1.1 hi).2
  generalize List.range' 0 n 1 = l at hl ⊢
  induction l with
  | nil => simp
  | cons i l ih =>
    have hi : i < n := hl i (by simp)
    have px : (part e (u64s xs).toArray (i * 1)).run P w = .ok (.int .u64 ((xs.getD i 0).toNat : Int)) w := by
      simp [part, isAgg, Go.run_underlying he, u64s, vl, List.getD, List.getElem?_eq_getElem (show i < xs.length by omega)]
    have py : (part e (u64s ys).toArray (i * 1)).run P w = .ok (.int .u64 ((ys.getD i 0).toNat : Int)) w := by
      simp [part, isAgg, Go.run_underlying he, u64s, vl, List.getD, List.getElem?_eq_getElem (show i < ys.length by omega)]
    have pe : (Op.equalIn (d + 1) e (.int .u64 ((xs.getD i 0).toNat : Int)) (.int .u64 ((ys.getD i 0).toNat : Int))).run P w = .ok (xs.getD i 0 == ys.getD i 0) w := by
      rw [run_equalIn_int w d e .u64 .u64 _ _ he]
      congr 1
      rw [Bool.eq_iff_iff]
      simp [← UInt64.toNat_inj]
      omega
    simp only [List.forIn_cons, Sem.run_bind, px, py, pe, Result.andThen_ok, List.all_cons]
    cases hb : (xs.getD i 0 == ys.getD i 0)
    · simp
    · simp only [Bool.not_true, Bool.false_eq_true, if_false, Sem.run_pure, Result.andThen_ok, Bool.true_and]
      exact ih fun j hj => hl j (by simp [hj])
theorem eqGuard_agg {op : BinOp} {t : TypeId} {x y : Operand} {a b : Array Value} (h : P.eqGuardType P.depth t = false) (w : World) : (eqGuard op t x y (.agg a) (.agg b)).run P w = .ok () w := by
  unfold eqGuard
  by_cases ho : (!(op matches .eql | .neq)) = true <;> simp [ho, h]
variable {n : Nat} {l : List (Nat × Value)} {E : World} {L Ls : List Heaplet} {X Y : Act → World → Prop} {d : Nat} {t t' ty e : TypeId} {x y : Operand}
theorem op_eqW {a b : List UInt64} {k : Nat} {pos : _} {aft : _} {g : _} (s : NxF P n l E L Ls ⟨some d, .binOp .eql t x y t', ty, pos, aft, g⟩ X Y) (ht : aelt P t = some (k, e, 1)) (he : P.underlying e = some (.int .u64)) (hg : P.eqGuardType P.depth t = false) (hx : ev l x = some (.agg (u64s a).toArray)) (hy : ev l y = some (.agg (u64s b).toArray)) (ha : a.length = k) (hb : b.length = k) (hn : Nat.ble (d + 1) n = true) (h : At n ((d, .bool (decide (a = b))) :: l) E L Y) : At n l E L X := by
  obtain ⟨hu, i, hi, hsz⟩ := aelt_spec ht
  exact op_bin s hx hy (fun w => eqGuard_agg hg w) (fun w => by
    rw [run_eql_struct, run_equalIn_words w 9998 t e k hu he (fun w => by rw [run_sizeOf hi, hsz]) a b ha hb]
    simp only [Result.andThen_ok, show (a == b) = decide (a = b) from by rw [Bool.eq_iff_iff]; simp]) hn h
end
end Go.Proofs.Ytbmlhdecnfplaaa
/- Package word: products, quotients, with signs and without. No condition. -/
namespace Go.Proofs.Ytbmlhdecnfplaaa
set_option linter.unusedVariables false
set_option linter.unusedSimpArgs false
open Go Go.RowKit
theorem wl_eq_zero {y : Nat} (hy : y < WW) : wl y = [0, 0, 0, 0] ↔ y = 0 := by
  rw [← wl_zero]
  exact ⟨fun h => wl_inj hy WW_pos h, fun h => by rw [h]⟩
/-- What is left; 0 by 0. -/
def modZ (x y : Nat) : Nat := if y = 0 then 0 else x % y
def HW : Nat := 2 ^ 255
theorem WW_HW : WW = 2 * HW := rfl
/-- Is the signed value below 0? -/
def negB (x : Nat) : Bool := decide (HW ≤ x)
/-- A word, or less it. -/
def sgn (m : Bool) (x : Nat) : Nat := if m then WW - x else x
def absW (x : Nat) : Nat := sgn (negB x) x
theorem absW_lt {x : Nat} (hx : x < WW) : absW x < WW := by
  unfold absW sgn negB
  have := WW_HW
  have h0 : 0 < HW := Nat.pow_pos (by decide)
  split
  · rename_i h; have := of_decide_eq_true h; omega
  · exact hx
theorem absW_zero {y : Nat} (hy : y < WW) : absW y = 0 ↔ y = 0 := by
  unfold absW sgn negB
  have := WW_HW
  have h0 : 0 < HW := Nat.pow_pos (by decide)
  split
  · rename_i h; have := of_decide_eq_true h; omega
  · exact Iff.rfl
theorem copy_limbs {Q o k : Nat} (ho : o = 0) (hk : k = min (limbsOf Q).length 4) : ([Value.int .u64 0, .int .u64 0, .int .u64 0, .int .u64 0] : List Value).take o ++ (u64s (limbsOf Q)).take k ++ ([Value.int .u64 0, .int .u64 0, .int .u64 0, .int .u64 0] : List Value).drop (o + k) = u64s (wl Q) := by
  subst ho
  have e0 : ([Value.int .u64 0, .int .u64 0, .int .u64 0, .int .u64 0] : List Value) = u64s (List.replicate 4 0) := rfl
  have hk2 : (limbsOf Q).take k = (limbsOf Q).take 4 := by
    rcases Nat.lt_or_ge (limbsOf Q).length 4 with h | h
    · rw [List.take_of_length_le (by omega), List.take_of_length_le (by omega)]
    · rw [show k = 4 by omega]
  have hk4 : k ≤ 4 := by omega
  rw [e0, List.take_zero, List.nil_append, Nat.zero_add, u64s_takeR, u64s_drop, hk2, List.drop_replicate]
  have e1 : u64s ((limbsOf Q).take 4) ++ u64s (List.replicate (4 - k) 0) = u64s ((limbsOf Q).take 4 ++ List.replicate (4 - k) 0) := by simp [u64s]
  rw [e1]
  congr 1
  refine wl_of (by rw [List.length_append, List.length_take, List.length_replicate]; omega) ?_
  rw [v64_pad]
  have h := v64_take_lt (limbsOf Q) 4
  rcases Nat.lt_or_ge (limbsOf Q).length 4 with h4 | h4
  · rw [List.take_of_length_le (by omega), v64_limbsOf]
    have hlt := v64_lt (limbsOf Q)
    rw [v64_limbsOf] at hlt
    exact (Nat.mod_eq_of_lt (Nat.lt_of_lt_of_le hlt (Nat.pow_le_pow_right (by decide) (by omega : 64 * (limbsOf Q).length ≤ 256)))).symm
  · have e := v64_take_drop (limbsOf Q) h4
    rw [v64_limbsOf] at e
    conv => rhs; rw [e]
    rw [← WW_eq, Nat.add_mul_mod_self_left, Nat.mod_eq_of_lt (by rw [WW_eq]; exact h)]
theorem top_limb {x : Nat} (hx : x < WW) : (shr64 ((wl x).getD 3 0) 63).toNat = x / HW := by
  have h := limb_at (wl x) 3
  rw [v64_wl_lt hx] at h
  rw [shr64_nat, ← h]
  have h2 : x / 2 ^ (64 * 3) < 2 ^ 64 := by
    rw [Nat.div_lt_iff_lt_mul (Nat.pow_pos (by decide)), ← Nat.pow_add]; exact hx
  rw [Nat.mod_eq_of_lt h2, Nat.div_div_eq_div_mul, ← Nat.pow_add]
  rfl
theorem neg_iff {x : Nat} (hx : x < WW) : decide (((shr64 ((wl x).getD 3 0) 63).toNat : Int) = 1) = negB x := by
  rw [top_limb hx, negB, decide_eq_decide]
  have h1 := WW_HW
  have h0 : 0 < HW := Nat.pow_pos (by decide)
  have h2 : x / HW < 2 := by rw [Nat.div_lt_iff_lt_mul h0]; omega
  have h3 : 1 ≤ x / HW ↔ HW ≤ x := by rw [Nat.le_div_iff_mul_le h0, Nat.one_mul]
  generalize x / HW = z at *
  omega
theorem div_lt {x y : Nat} (hx : x < WW) : x / y < WW := Nat.lt_of_le_of_lt (Nat.div_le_self _ _) hx
theorem modZ_lt {x y : Nat} (hx : x < WW) : modZ x y < WW := by
  unfold modZ
  split
  · exact WW_pos
  · exact Nat.lt_of_le_of_lt (Nat.mod_le _ _) hx
end Go.Proofs.Ytbmlhdecnfplaaa
/- Package head: small numbers in limbs, quotients, words; the excess. Condition: numbers of at most 2^40 limbs; the divisor is not 0. -/
namespace Go.Proofs.Ytbmlhdecnfplaaa
set_option linter.unusedVariables false
set_option linter.unusedSimpArgs false
open Go Go.RowKit
theorem v64_x1 (x : UInt64) : v64 [x] = x.toNat := by simp [v64, n64, val]
theorem small_f (x : UInt64) : Fn Try.prog 27 #[.int .u64 (x.toNat : Int)] [] [] (fun v L => ∃ M a c, v = .slice a 1 c ∧ L = [M] ∧ RSl M 1 a 1 c (u64s [x])) := by
  refine Fn.enter (vs := [.int .u64 (x.toNat : Int)]) Try.func27 rfl rfl rfl ?_
  intro E R hR
  change At _ _ E [R] _
  refine At.seq fun K1 hk_1 => ?_
  refine At.region ?_
  refine op_assign (nxlf rfl) rfl rfl ?_
  refine At.opsNil ?_
  refine At.norm (hk_1 ?_)
  refine At.seq fun K2 hk_2 => ?_
  refine At.region ?_
  refine op_move (nxlf rfl) rfl rfl ?_
  refine op_lit (nxla rfl) Try.underlying59 ze27 sz27 (.cons rfl .nil) rfl rfl (by simp [Value.cells]) rfl rfl rfl (fun N4 a4 r4 => ?_)
  simp only [flatV, List.flatMap_cons, List.flatMap_nil, Value.cells, List.append_nil, List.cons_append, List.nil_append] at r4
  have s4 := r4.rsl
  refine op_assign (nxlf rfl) rfl rfl ?_
  refine At.opsNil ?_
  refine At.norm (hk_2 ?_)
  refine At.ret (?_)
  refine At.ret1 (L1 := [N4]) rfl (.tmp rfl .nil) (.refl _) (.refl _) ?_
  exact ⟨N4, a4, _, rfl, rfl, s4⟩
theorem over_f {N : Heaplet} {ao : Option Addr} {n ca : Nat} {a : List UInt64} (ha : RSl N 1 ao n ca (u64s a)) (hn : n ≤ 1099511627774) (x : UInt64) (hx : 0 < x.toNat) : Fn Try.prog 26 #[.slice ao n ca, .int .u64 (x.toNat : Int)] [] [N] (LimbsP (v64 a / x.toNat)) := by
  refine Fn.enter (vs := [.slice ao n ca, .int .u64 (x.toNat : Int)]) Try.func26 rfl rfl rfl ?_
  intro E R hR
  have ha := ha.le (hR N (by simp))
  change At _ _ E [R] _
  refine At.seq fun K1 hk_1 => ?_
  refine At.region ?_
  refine op_assign (nxlf rfl) rfl rfl ?_
  refine At.opsNil ?_
  refine At.norm (hk_1 ?_)
  refine At.seq fun K2 hk_2 => ?_
  refine At.region ?_
  refine op_move (nxlf rfl) rfl rfl ?_
  refine op_move (nxlf rfl) rfl rfl ?_
  refine op_callA (nxla rfl) (.cons rfl .nil) (small_f x) Try.func27 rfl rfl (by simp) rfl ?_
  rintro v10 L10 ⟨N10, p10, c10, rfl, rfl, s10⟩
  change At _ _ _ [N10, R] _
  refine op_callA (nxla rfl) (.cons rfl (.cons rfl .nil)) (DivMod_f ha s10 hn (by omega) (by rw [v64_x1]; exact hx)) Try.func58 rfl rfl (by simp) rfl ?_
  rintro v11 L11 ⟨Mq, pq, cq, Mr, pr, cr, rfl, rfl, sq, sr⟩
  change At _ _ _ [Mq, Mr, N10, R] _
  rw [v64_x1] at sq ⊢
  refine op_move (nxlf rfl) rfl rfl ?_
  refine op_extract (nxlf rfl) rfl rfl rfl ?_
  refine op_extract (nxlf rfl) rfl rfl rfl ?_
  refine op_assign (nxlf rfl) rfl rfl ?_
  refine op_assign (nxlf rfl) rfl rfl ?_
  refine At.opsNil ?_
  refine At.norm (hk_2 ?_)
  refine At.seq fun K3 hk_3 => ?_
  refine At.region ?_
  refine op_move (nxlf rfl) rfl rfl ?_
  refine op_assign (nxlf rfl) rfl rfl ?_
  refine At.opsNil ?_
  refine At.norm (hk_3 ?_)
  refine At.ret (?_)
  refine At.sub (L' := [Mq, R]) (.cons_cons _ (.cons _ (.cons _ (.cons_cons _ (.slnil))))) ?_
  refine At.ret1 (L1 := [Mq]) rfl (.tmp rfl .nil) (.refl _) (.refl _) ?_
  exact ⟨Mq, pq, cq, rfl, rfl, sq⟩
theorem fit_n {N : Heaplet} {ao : Option Addr} {n ca : Nat} {a : List UInt64} (ha : RSl N 1 ao n ca (u64s a)) (hn : n ≤ 1099511627774) (h : ¬ v64 a < WW) : Fn Try.prog 31 #[.slice ao n ca] [] [N] (fun v L => v = .tuple #[wo 0, .bool false] ∧ L = []) := by
  have hb : ¬ bitLen (v64 a) ≤ 256 := fun h1 => h (bitLen_le.1 h1)
  refine Fn.enter (vs := [.slice ao n ca]) Try.func31 rfl rfl rfl ?_
  intro E R hR
  have ha := ha.le (hR N (by simp))
  change At _ _ E [R] _
  refine At.seq fun K1 hk_1 => ?_
  refine At.region ?_
  refine op_alloc (nxla rfl) ze29 rfl (fun N2 b2 B2 => ?_)
  change Blk N2 b2 _ [.int .u64 0, .int .u64 0, .int .u64 0, .int .u64 0] at B2
  refine op_assign (nxlf rfl) rfl rfl ?_
  refine At.opsNil ?_
  refine At.norm (hk_1 ?_)
  refine At.seq fun K2 hk_2 => ?_
  refine At.region ?_
  refine op_alloc (nxla rfl) ze29 rfl (fun N4 b4 B4 => ?_)
  change Blk N4 b4 _ [.int .u64 0, .int .u64 0, .int .u64 0, .int .u64 0] at B4
  refine At.opsNil ?_
  refine At.norm (hk_2 ?_)
  refine At.seq fun K3 hk_3 => ?_
  refine At.seq fun K4 hk_4 => ?_
  refine At.region ?_
  refine op_move (nxlf rfl) rfl rfl ?_
  refine op_callA (nxla rfl) (.cons rfl .nil) (Bits_f ha (by omega)) Try.func60 rfl rfl (by simp) rfl ?_
  rintro v6 L6 ⟨rfl, rfl⟩
  change At _ _ _ [N4, N2, R] _
  refine op_gtr (nxlf rfl) rfl rfl rfl ?_
  refine At.opsNil ?_
  refine At.norm (hk_4 ?_)
  refine At.condP rfl (fun c7 => ?_) (fun c7 => ?_)
  · refine At.seq fun K5 hk_5 => ?_
    refine At.region ?_
    refine op_loadAggB (ds := [_, _, _, _]) (nxlf rfl) ag29 rfl B4 rfl rfl mem0 rfl ?_
    refine op_store (nxl rfl) sz29 rfl rfl rfl rfl rfl B2 (by simp) sel1 (fun N2 B2 => ?_)
    simp only [setL, List.set] at B2
    refine op_assign (nxlf rfl) rfl rfl ?_
    refine At.opsNil ?_
    refine At.norm (hk_5 ?_)
    refine At.ret (At.thenRet (?_))
    refine At.sub (L' := [N2, R]) (.cons_cons _ (.cons _ (.cons_cons _ (.slnil)))) ?_
    refine At.retN (L1 := []) rfl (.cell rfl (res_agg (ds := [_, _, _, _]) ag29 B2 rfl rfl mem0) (.tmp rfl .nil)) rfl (.cons _ (.refl _)) (.refl _) ?_
    exact ⟨by rw [wo_zero], rfl⟩
  · exfalso; omega
theorem fit_y {N : Heaplet} {ao : Option Addr} {n ca : Nat} {a : List UInt64} (ha : RSl N 1 ao n ca (u64s a)) (hn : n ≤ 1099511627774) (h : v64 a < WW) : Fn Try.prog 31 #[.slice ao n ca] [] [N] (fun v L => v = .tuple #[wo (v64 a), .bool true] ∧ L = []) := by
  have hb : bitLen (v64 a) ≤ 256 := bitLen_le.2 h
  refine Fn.enter (vs := [.slice ao n ca]) Try.func31 rfl rfl rfl ?_
  intro E R hR
  have ha := ha.le (hR N (by simp))
  change At _ _ E [R] _
  refine At.seq fun K1 hk_1 => ?_
  refine At.region ?_
  refine op_alloc (nxla rfl) ze29 rfl (fun N2 b2 B2 => ?_)
  change Blk N2 b2 _ [.int .u64 0, .int .u64 0, .int .u64 0, .int .u64 0] at B2
  refine op_assign (nxlf rfl) rfl rfl ?_
  refine At.opsNil ?_
  refine At.norm (hk_1 ?_)
  refine At.seq fun K2 hk_2 => ?_
  refine At.region ?_
  refine op_alloc (nxla rfl) ze29 rfl (fun N4 b4 B4 => ?_)
  change Blk N4 b4 _ [.int .u64 0, .int .u64 0, .int .u64 0, .int .u64 0] at B4
  refine At.opsNil ?_
  refine At.norm (hk_2 ?_)
  refine At.seq fun K3 hk_3 => ?_
  refine At.seq fun K4 hk_4 => ?_
  refine At.region ?_
  refine op_move (nxlf rfl) rfl rfl ?_
  refine op_callA (nxla rfl) (.cons rfl .nil) (Bits_f ha (by omega)) Try.func60 rfl rfl (by simp) rfl ?_
  rintro v6 L6 ⟨rfl, rfl⟩
  change At _ _ _ [N4, N2, R] _
  refine op_gtr (nxlf rfl) rfl rfl rfl ?_
  refine At.opsNil ?_
  refine At.norm (hk_4 ?_)
  refine At.condP rfl (fun c7 => ?_) (fun c7 => ?_)
  · exfalso; omega
  · refine At.skip ?_
    refine At.norm (hk_3 ?_)
    refine At.seq fun K5 hk_5 => ?_
    refine At.drawn [3] [0,1,2,3] (by kernel_rfl) (by kernel_rfl) ?_
    refine op_sliceA (nxof rfl rfl rfl (by kernel_rfl)) ae29 rfl .none .none .none (by omega) (by omega) (by omega) (by simp) rfl ?_
    refine op_move (nxof rfl rfl rfl (by kernel_rfl)) rfl rfl ?_
    refine op_callA (nxoa rfl rfl rfl) (.cons rfl .nil) (Trim_f ha) Try.func44 rfl rfl (by simp) rfl ?_
    rintro v11 L11 ⟨rfl, rfl, t11, l11⟩
    change At _ _ _ [N4, N2, R] _
    have sT := ha.trimmed t11 l11
    refine op_copyB (nxos rfl rfl rfl rfl) se59 rfl rfl B4 sT (by first | exact mem0 | exact mem1 | exact mem2 | exact mem3 | exact mem4 | exact mem5 | exact mem6 | exact mem7 | exact mem8 | exact mem9) (by first | exact one_u8s _ | exact one_u64s _ | exact one_u32s _ | (intro u hu; simp at hu; subst hu; rfl)) (by simp <;> omega) sel0 rfl (fun N4 B4 => ?_)
    rw [copy_limbs rfl (by simp)] at B4
    refine At.oneNil ?_
    refine At.norm (hk_5 ?_)
    refine At.seq fun K6 hk_6 => ?_
    refine At.region ?_
    refine op_loadAggB (ds := u64s (wl (v64 a))) (nxlf rfl) ag29 rfl B4 (by first | (rw [List.drop_zero, List.take_of_length_le (by first | (simp; done) | (simp; omega))]; done) | rfl) (by first | (simp; done) | (simp; omega)) mem0 rfl ?_
    refine op_store (nxl rfl) sz29 rfl rfl rfl rfl rfl B2 (by simp) sel1 (fun N2 B2 => ?_)
    rw [setL_whole (by simp)] at B2
    refine op_assign (nxlf rfl) rfl rfl ?_
    refine At.opsNil ?_
    refine At.norm (hk_6 ?_)
    refine At.ret (?_)
    refine At.sub (L' := [N2, R]) (.cons_cons _ (.cons _ (.cons_cons _ (.slnil)))) ?_
    refine At.retN (L1 := []) rfl (.cell rfl (res_agg (ds := u64s (wl (v64 a))) ag29 B2 (by first | (rw [List.drop_zero, List.take_of_length_le (by first | (simp; done) | (simp; omega))]; done) | rfl) (by first | (simp; done) | (simp; omega)) mem0) (.tmp rfl .nil)) rfl (.cons _ (.refl _)) (.refl _) ?_
    exact ⟨rfl, rfl⟩
theorem fit_f {N : Heaplet} {ao : Option Addr} {n ca : Nat} {a : List UInt64} (ha : RSl N 1 ao n ca (u64s a)) (hn : n ≤ 1099511627774) : Fn Try.prog 31 #[.slice ao n ca] [] [N] (fun v L => v = .tuple #[wo (fitV (v64 a)), .bool (decide (v64 a < WW))] ∧ L = []) := by
  by_cases h : v64 a < WW
  · have := fit_y ha hn h
    rw [fitV_y h, decide_eq_true h]; exact this
  · have := fit_n ha hn h
    rw [fitV_n h, decide_eq_false h]; exact this
end Go.Proofs.Ytbmlhdecnfplaaa
/- Package nat: forms, orders, bits, sums, differences, products, quotients. Condition: numbers of at most 2^38 bytes. -/
namespace Go.Proofs.Ytbmlhdecnfplaaa
set_option linter.unusedVariables false
set_option linter.unusedSimpArgs false
open Go Go.RowKit
/-- A number's bytes in new memory. -/
def BytesP (V : Nat) (v : Value) (L : List Heaplet) : Prop :=
  ∃ M a c, v = .slice a (bytesOf V).length c ∧ L = [M] ∧ Row M 5 1 a (bytesOf V).length c (u8s (bytesOf V))
theorem limbs_be_len (l : List UInt8) : (limbsOf (be l)).length ≤ l.length := by
  rw [length_limbsOf]
  have h := be_lt l
  have h2 : bitLen (be l) ≤ 8 * l.length := bitLen_le.2 (by rw [Nat.pow_mul]; exact h)
  omega
theorem limbs_zero {V : Nat} : (limbsOf V).length = 0 ↔ V = 0 := by
  rw [length_limbsOf]
  constructor
  · intro h
    rcases Nat.eq_zero_or_pos V with h0 | h0
    · exact h0
    · have := bitLen_pos h0; omega
  · rintro rfl; rfl
theorem limbs_le_of {V n : Nat} (h : V < 2 ^ (64 * n)) : (limbsOf V).length ≤ n := by rw [length_limbsOf]; exact limbLen_le.2 h
section
variable {N M : Heaplet} {ao bo : Option Addr} {n m ca cb : Nat} {a b : List UInt8}
def SubP (A B : Nat) (v : Value) (L : List Heaplet) : Prop :=
  ∃ M p c, v = .tuple #[.slice p (bytesOf (A - B)).length c, .bool (decide (B ≤ A))] ∧ L = [M] ∧ Row M 5 1 p (bytesOf (A - B)).length c (u8s (bytesOf (A - B)))
theorem cmpN_neg {x y : Nat} : cmpN x y < 0 ↔ x < y := by
  unfold cmpN
  split
  · omega
  · split <;> omega
def DivModP (A B : Nat) (v : Value) (L : List Heaplet) : Prop :=
  ∃ M1 p1 c1 M2 p2 c2, v = .tuple #[.slice p1 (bytesOf (A / B)).length c1, .slice p2 (bytesOf (A % B)).length c2, .bool true] ∧ L = [M1, M2] ∧ Row M1 5 1 p1 (bytesOf (A / B)).length c1 (u8s (bytesOf (A / B))) ∧ Row M2 5 1 p2 (bytesOf (A % B)).length c2 (u8s (bytesOf (A % B)))
end
end Go.Proofs.Ytbmlhdecnfplaaa
/- nat.ModExp: powers modulo a number. Condition: numbers of at most 2^34 bytes. -/
namespace Go.Proofs.Ytbmlhdecnfplaaa
set_option linter.unusedVariables false
set_option linter.unusedSimpArgs false
open Go Go.RowKit
theorem Blk.one {N : Heaplet} {b : Nat} {e : TypeId} {v : Value} (h : Blk N b e [v]) : RSl N 1 (some ⟨b, 0, none⟩) 1 1 [v] :=
  ⟨rfl, Nat.le_refl _, by decide, fun _ => ⟨b, 0, rfl, h.rng⟩⟩
section
variable {N M Nb Nm : Heaplet} {ao bo mo : Option Addr} {n m nm ca cb cm bb : Nat} {e : TypeId} {a b l : List UInt64}
end
/-- One bit more of the exponent. -/
theorem pow_bit {b E m j : Nat} (hj : 0 < j) : b ^ (E / 2 ^ (j - 1)) % m = (b ^ (E / 2 ^ j) % m * (b ^ (E / 2 ^ j) % m) % m) * (if E / 2 ^ (j - 1) % 2 = 1 then b % m else 1) % m := by
  have e : E / 2 ^ j = E / 2 ^ (j - 1) / 2 := by rw [Nat.div_div_eq_div_mul, ← Nat.pow_succ, show (j - 1).succ = j by omega]
  rw [e]
  generalize E / 2 ^ (j - 1) = q
  have h := Nat.div_add_mod q 2
  have h2 : q % 2 < 2 := Nat.mod_lt _ (by decide)
  split
  · rename_i h1
    conv => lhs; rw [← h, h1, Nat.pow_add, Nat.pow_mul, Nat.pow_one]
    rw [Nat.mul_mod_mod, Nat.mod_mul_mod, Nat.pow_right_comm, Nat.pow_two, Nat.mul_mod (b ^ (q / 2) * b ^ (q / 2)) b, Nat.mul_mod (b ^ (q / 2)) (b ^ (q / 2)), ← Nat.mul_mod _ b]
  · rename_i h1
    conv => lhs; rw [← h, show q % 2 = 0 by omega, Nat.add_zero, Nat.pow_mul, Nat.pow_right_comm, Nat.pow_two]
    rw [Nat.mul_one, Nat.mod_mod, ← Nat.mul_mod]
section
variable {N M Nm : Heaplet} {ao bo mo : Option Addr} {n m nm ca cb cm : Nat} {a b l : List UInt8}
end
end Go.Proofs.Ytbmlhdecnfplaaa
/- Package word: powers. No condition. -/
namespace Go.Proofs.Ytbmlhdecnfplaaa
set_option linter.unusedVariables false
set_option linter.unusedSimpArgs false
open Go Go.RowKit
end Go.Proofs.Ytbmlhdecnfplaaa
/- Package word: all bits turned, order. No condition. -/
namespace Go.Proofs.Ytbmlhdecnfplaaa
set_option linter.unusedVariables false
set_option linter.unusedSimpArgs false
open Go Go.RowKit
theorem not_round {w a : List UInt64} {k : Nat} (hw : w.length = k) (hv : v64 w + v64 (a.take k) + 1 = 2 ^ (64 * k)) :
    v64 (w ++ [~~~(a.getD k 0)]) + v64 (a.take (k + 1)) + 1 = 2 ^ (64 * (k + 1)) := by
  have h : (~~~(a.getD k 0)).toNat + (a.getD k 0).toNat + 1 = 18446744073709551616 := by
    have h1 := UInt64.toNat_not (a.getD k 0)
    have h2 := (a.getD k 0).toNat_lt
    have h3 : UInt64.size = 18446744073709551616 := rfl
    omega
  rw [v64_snoc, hw, v64_take_succD, pow64]
  have h2 := congrArg (2 ^ (64 * k) * ·) h
  simp only [Nat.mul_add, Nat.mul_one] at h2
  generalize (~~~(a.getD k 0)).toNat = s at *
  generalize (a.getD k 0).toNat = t at *
  omega
set_option maxRecDepth 100000 in
theorem WNot_f {x : Nat} (hx : x < WW) : Fn Try.prog 43 #[wo x] [] [] (fun v L => v = wo (WW - 1 - x) ∧ L = []) := by
  have hlx := length_wl x
  have hvx := v64_wl_lt hx
  have hp := WW_pos
  refine Fn.enter (vs := [wo x]) Try.func43 rfl rfl rfl ?_
  intro E R hR
  change At _ _ E [R] _
  refine At.seq fun K1 hk_1 => ?_
  refine At.region ?_
  refine op_box (nxla rfl) rfl rfl rfl (fun N1 b1 B1 => ?_)
  change Blk N1 b1 _ (u64s (wl x)) at B1
  refine op_alloc (nxla rfl) ze29 rfl (fun N2 b2 B2 => ?_)
  change Blk N2 b2 _ [.int .u64 0, .int .u64 0, .int .u64 0, .int .u64 0] at B2
  refine At.opsNil ?_
  refine At.norm (hk_1 ?_)
  refine At.seq fun K2 hk_2 => ?_
  refine At.seq fun K3 hk_3 => ?_
  refine At.region ?_
  refine op_move (nxlf rfl) rfl rfl ?_
  refine At.opsNil ?_
  refine At.norm (hk_3 ?_)
  refine At.block ?_
  refine At.perm sel2 ?_
  refine At.perm sel1 ?_
  refine At.perm sel2 ?_
  refine At.loop (fun fr_ hp_ ms_ => ∃ (k : Nat) (w : List UInt64) (N1 : Heaplet), fr_ = [(1, .pointer (some ⟨b1, 0, none⟩)), (2, .pointer (some ⟨b2, 0, none⟩)), (4, .int .i64 (k : Int))] ∧ hp_ = [N1, N2, R] ∧ 4 - k = ms_ ∧ (k ≤ 4) ∧ (w.length = k) ∧ (v64 w + v64 ((wl x).take k) + 1 = 2 ^ (64 * k)) ∧ (Blk N1 b1 29 (u64s (w ++ (wl x).drop k)))) ?_ (.refl _) ⟨0, [], N1, rfl, rfl, rfl, by omega, rfl, by simp; rfl, by simpa using B1⟩ ?_
  · exact .cons (by first | exact lkI rfl (by omega) | rfl) (.cons (by first | exact lkI rfl (by omega) | rfl) (.cons (by first | exact lkI rfl (by omega) | rfl) .nil))
  rintro _ _ _ ⟨k, w, N1, rfl, rfl, rfl, hk, hw, hv, B1⟩
  have hwl : (w ++ (wl x).drop k).length = 4 := by rw [List.length_append, List.length_drop]; omega
  refine At.seq fun K4 hk_4 => ?_
  refine At.region ?_
  refine op_lss (nxlf rfl) rfl rfl rfl ?_
  refine At.opsNil ?_
  refine At.norm (hk_4 ?_)
  refine At.seq fun K5 hk_5 => ?_
  refine At.condP rfl (fun c5 => ?_) (fun c5 => ?_)
  · refine At.skip ?_
    refine At.norm (hk_5 ?_)
    refine At.seq fun K6 hk_6 => ?_
    refine At.block ?_
    refine At.seq fun K7 hk_7 => ?_
    refine At.region ?_
    refine op_move (nxlf rfl) rfl rfl ?_
    refine op_assign (nxlf rfl) rfl rfl ?_
    refine At.opsNil ?_
    refine At.norm (hk_7 ?_)
    refine At.region ?_
    refine op_move (nxlf rfl) rfl rfl ?_
    refine op_move (nxlf rfl) rfl rfl ?_
    refine op_idxA (nxlf rfl) ae29 rfl rfl (show _ = (((k : Nat)) : Int) from by omega) (by omega) rfl ?_
    refine op_loadB (nxlf rfl) sc27 rfl B1 (by first | exact get64A (by omega) | rfl) mem0 rfl ?_
    rw [getD_drop hw (show k < (wl x).length by omega)]
    refine op_compU (nxlf rfl) rfl rfl ?_
    refine op_idxA (nxlf rfl) ae29 rfl rfl (show _ = (((k : Nat)) : Int) from by omega) (by omega) rfl ?_
    refine op_store (nxl rfl) sz27 rfl rfl rfl rfl rfl B1 (by simp <;> omega) sel0 (fun N1 B1 => ?_)
    rw [set64A, set_drop hw (show k < (wl x).length by omega)] at B1
    refine At.opsNil ?_
    refine At.inNorm ?_
    refine At.norm (hk_6 ?_)
    refine At.region ?_
    refine op_addI (nxlf rfl) rfl rfl (by omega) (by omega) rfl ?_
    refine op_move (nxlf rfl) rfl rfl ?_
    refine At.opsNil ?_
    refine At.norm ?_
    refine At.back ?_ (.refl _) ⟨k + 1, w ++ [~~~((wl x).getD k 0)], N1, rfl, rfl, rfl, by omega, by simp; omega, not_round hw hv, B1⟩ ?_
    · exact .cons (by first | exact lkI rfl (by omega) | rfl) (.cons (by first | exact lkI rfl (by omega) | rfl) (.cons (by first | exact lkI rfl (by omega) | rfl) .nil))
    · omega
  · refine At.exit (At.thenExit (At.thenExit (At.inHit ?_)))
    refine At.norm (hk_2 ?_)
    refine At.seq fun K8 hk_8 => ?_
    refine At.region ?_
    have hk4 : k = 4 := by omega
    rw [hk4, v64_take_all (by omega), hvx] at hv
    rw [hk4, List.drop_of_length_le (by omega), List.append_nil] at B1
    have hw4 : w.length = 4 := by omega
    have hsum : v64 w = (WW - 1 - x) % WW := by
      rw [← WW_eq] at hv
      rw [Nat.mod_eq_of_lt (by omega)]; omega
    have hwe := wl_of hw4 hsum
    rw [hwe] at B1
    refine op_loadAggB (ds := u64s (wl (WW - 1 - x))) (nxlf rfl) ag29 rfl B1 (by first | (rw [List.drop_zero, List.take_of_length_le (by first | (simp; done) | (simp; omega))]; done) | rfl) (by first | (simp; done) | (simp; omega)) mem0 rfl ?_
    refine op_store (nxl rfl) sz29 rfl rfl rfl rfl rfl B2 (by simp) sel1 (fun N2 B2 => ?_)
    rw [setL_whole (by simp)] at B2
    refine At.opsNil ?_
    refine At.norm (hk_8 ?_)
    refine At.ret (?_)
    refine At.sub (L' := [N2, R]) (.cons_cons _ (.cons _ (.cons_cons _ (.slnil)))) ?_
    refine At.ret1 (L1 := []) rfl (.cell rfl (res_agg (ds := u64s (wl (WW - 1 - x))) ag29 B2 (by first | (rw [List.drop_zero, List.take_of_length_le (by first | (simp; done) | (simp; omega))]; done) | rfl) (by first | (simp; done) | (simp; omega)) mem0) .nil) (.cons _ (.refl _)) (.refl _) ?_
    exact ⟨rfl, rfl⟩
end Go.Proofs.Ytbmlhdecnfplaaa
