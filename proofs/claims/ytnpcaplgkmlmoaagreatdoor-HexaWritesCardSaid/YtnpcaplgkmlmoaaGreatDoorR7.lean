/- Several texts in one: see the remarks ahead of each part. No condition but those told there. -/
import Derived.Test.YtnpcaplgkmlmoaaGreatDoorR4
import Derived.Laws.IdiomStrings
import Derived.Lib.Mul64
import Derived.Test.YtnpcaplgkmlmoaaGreatDoorR2
import Derived.Test.YtnpcaplgkmlmoaaGreatDoorR6
import Derived.Test.YtnpcaplgkmlmoaaGreatDoorR5
import Derived.Lib.Hide
/- Bytes of a string in a new slice, and stores to it: the block bears the mark behind its last cell. No condition. -/
namespace Go.Proofs.YtnpcaplgkmlmoaaGreatDoor
set_option linter.unusedVariables false
set_option linter.unusedSimpArgs false
open Go Go.RowKit
/-- The slice of a string's bytes. -/
def RowM (N : Heaplet) (e : TypeId) (b n cap : Nat) (xs : List Value) : Prop :=
  xs.length = n ∧ n ≤ cap ∧ cap ≤ maxLen ∧ ∃ cs : List Value, N b = some (.cells cs.toArray e (cap, cap + 1)) ∧ cs.length = cap ∧ cs.take n = xs
theorem RowM.rsl {N : Heaplet} {e : TypeId} {b n cap : Nat} {xs : List Value} (h : RowM N e b n cap xs) : RSl N 1 (some ⟨b, 0, none⟩) n cap xs := by
  obtain ⟨h1, h2, h3, cs, hN, hl, ht⟩ := h
  refine ⟨by omega, h2, h3, fun h0 => ⟨b, 0, rfl, fun i hi => ?_⟩⟩
  unfold cellOf
  rw [hN]
  simp only [Nat.zero_add]
  have : (cs.take n)[i]? = some xs[i] := by rw [ht]; exact List.getElem?_eq_getElem hi
  rw [List.getElem?_take] at this
  split at this
  · simpa using this
  · cases this
theorem run_storeCells1 {P : Program} {v : Value} (w : World) (b j : Nat) (cs : List Value) (e : TypeId) (lo hi : Nat) (hb : w.heap[b]? = some (.cells cs.toArray e (lo, hi))) (h1 : v.oneCell' = true) (hj : j < cs.length) (hlo : j < lo) :
    ∃ w', (storeCells ⟨b, j, none⟩ [v] 0).run P w = .ok () w' ∧ w'.os = w.os ∧ w'.tape = w.tape ∧ w'.output = w.output ∧ w'.heap[b]? = some (.cells (setL cs j [v]).toArray e (lo, hi)) ∧ ∀ k, k ≠ b → w'.heap[k]? = w.heap[k]? := by
  have hcell : w.cell? ⟨b, j, none⟩ = some cs[j] := by
    unfold World.cell?
    rw [hb]
    simp [hj]
  have hfr : w.frozen? ⟨b, j, none⟩ = false := by
    unfold World.frozen?
    rw [hb]
    simp
    omega
  have hb' : (w.setCell ⟨b, j, none⟩ v).heap[b]? = some (.cells (cs.set j v).toArray e (lo, hi)) := by
    unfold World.setCell
    simp only [Array.getElem?_modify, if_true, hb]
    simp
  refine ⟨w.setCell ⟨b, j, none⟩ v, ?_, rfl, rfl, rfl, by simpa [setL] using hb', fun k hk => ?_⟩
  · unfold storeCells
    rw [Sem.run_bind, addr_add, Nat.add_zero]
    have hst : (store ⟨b, j, none⟩ v).run P w = .ok () (w.setCell ⟨b, j, none⟩ v) := by
      cases v <;> first | (cases h1; done) | simp [store, Sem.run, hcell, hfr]
    rw [hst]
    rfl
  · unfold World.setCell
    simp [Array.getElem?_modify, Ne.symm hk]
section
variable {P : Program} {n : Nat} {l : List (Nat × Value)} {E : World} {L L1 : List Heaplet} {X Y : Act → World → Prop} {N : Heaplet}
variable {d : Nat} {ty t t' e : TypeId} {pos : String} {aft : Array Edge} {g : Option (Nat × Bool)} {v : Value} {x y : Operand} {len cap : Nat} {xs : List Value} {b j : Nat}
/-- []byte of a string. -/
theorem op_strB {bs : List UInt8} {src dst : TypeId} (s : NxA P n l E L ⟨some d, .convert src dst x, ty, pos, aft, g⟩ X Y) (hs : P.underlying src = some .string) (ht : P.underlying dst = some (.slice e)) (he : P.underlying e = some (.int .u8)) (hx : ev l x = some (str bs)) (hlen : bs.length ≤ 9223372036854775807) (hn : Nat.ble (d + 1) n = true)
    (h : ∀ N b cap, RowM N e b bs.length cap (u8s bs) → At n ((d, .slice (some ⟨b, 0, none⟩) bs.length cap) :: l) E (N :: L) Y) : At n l E L X := by
  refine op_new s (fun v L' => ∃ N b cap, v = .slice (some ⟨b, 0, none⟩) bs.length cap ∧ L' = N :: L ∧ RowM N e b bs.length cap (u8s bs)) (fun a w hf hw => ?_) rfl hn (fun v L' ⟨N, b, cap, hv, hL, hB⟩ => by subst hv; subst hL; exact h N b cap hB)
  have hsz : (⟨bs.toArray⟩ : ByteArray).size = bs.length := by simp [ByteArray.size]
  have hrun := run_bytes_of_string (P := P) w src dst e ⟨bs.toArray⟩ hs ht he
  rw [hsz] at hrun
  have hge := grownCap_ge w bs.length 0 e
  have hle := grownCap_le_maxLen w bs.length 0 e (by unfold maxLen; omega)
  obtain ⟨C, hC⟩ : ∃ C, grownCap w bs.length 0 e = C := ⟨_, rfl⟩
  rw [hC] at hrun hge hle
  have hrow : bytesRow ⟨bs.toArray⟩ C = (u8s bs ++ List.replicate (C - bs.length) (Value.int .u8 0)).toArray := by
    unfold bytesRow
    rw [hsz]
    simp [u8s]
    exact fun _ _ => rfl
  have hlr : (u8s bs ++ List.replicate (C - bs.length) (Value.int .u8 0)).length = C := by
    rw [List.length_append, length_u8s, List.length_replicate]; omega
  rw [hrow] at hrun
  simp only [List.size_toArray, hlr] at hrun
  obtain ⟨o, ho⟩ : ∃ o, Obj.cells (u8s bs ++ List.replicate (C - bs.length) (Value.int .u8 0)).toArray e (C, C + 1) = o := ⟨_, rfl⟩
  rw [ho] at hrun
  refine ⟨.slice (some ⟨w.heap.size, 0, none⟩) bs.length C, w.drew.alloc o, single w.heap.size o :: L, ?_, ?_, (hw.drew).alloc o, single w.heap.size o, w.heap.size, C, rfl, rfl, ?_⟩
  · simp only [execOp, hf.eval hx, str]
    rw [Sem.run_bind, hrun]
    rfl
  · exact Agree.alloc w.drew o
  · exact ⟨length_u8s bs, hge, hle, _, by rw [← ho]; exact single_self _ _, hlr, by rw [List.take_append, length_u8s, Nat.sub_self, List.take_zero, List.append_nil, List.take_of_length_le (by rw [length_u8s]; exact Nat.le_refl _)]⟩
/-- A byte stored there. -/
theorem op_storeM (s : Nx P n l E L ⟨none, .store t x y, ty, pos, aft, g⟩ X Y) (ht : siz P t = some 1) (hx : ev l x = some (eptr (some ⟨b, 0, none⟩) j)) (hy : ev l y = some v) (hv : v.cells = #[v]) (h1 : v.oneCell' = true) (hb : RowM N e b len cap xs) (hj : j < xs.length) (hs : L.Perm (N :: L1))
    (h : ∀ N, RowM N e b len cap (setL xs j [v]) → At n l E (N :: L1) Y) : At n l E L X := fun a w hf hw => by
  have hw2 := hw.perm hs
  obtain ⟨a1, a2, a3, cs, hN, hcs, ht'⟩ := hb
  have hheap := hw2.sub N (List.mem_cons_self ..) _ _ hN
  obtain ⟨w', hr, e1, e2, e3, e4, e5⟩ := run_storeCells1 (P := P) w b j cs e cap (cap + 1) hheap h1 (by omega) (by omega)
  obtain ⟨i, hi, hsz⟩ := Option.map_eq_some_iff.1 ht
  refine s a w hf hw ?_
  unfold Oper.wp
  have hrun : (execOp a.eval ⟨none, .store t x y, ty, pos, aft, g⟩).run P w = .ok .skip w' := by
    simp only [execOp, hf.eval hx, hf.eval hy, eptr, Option.map_some, Nat.zero_add, Instr.storeAt, Instr.sureAddr, Sem.run_bind, Sem.run_pure, Result.andThen_ok, storeVar, run_sizeOf hi, hsz, hv]
    simp only [List.size_toArray, List.length_cons, List.length_nil, Nat.zero_add, ne_eq, not_true, if_false]
    rw [hr]
    rfl
  rw [hrun]
  refine h (upd N b (.cells (setL cs j [v]).toArray e (cap, cap + 1))) ⟨by rw [length_setL, a1], a2, a3, _, upd_self _ _ _, by rw [length_setL, hcs], ?_⟩ a w' hf (hw2.put hN e1 e2 e3 e4 fun k hk _ => e5 k hk)
  rw [setL_take _ _ _ _ (by simp; omega), ht']
end
end Go.Proofs.YtnpcaplgkmlmoaaGreatDoor
/- Plain laws: sums, differences and products of limbs, as package math/bits reckons them. No condition. -/
namespace Go.Proofs.YtnpcaplgkmlmoaaGreatDoor
set_option linter.unusedVariables false
set_option linter.unusedSimpArgs false
open Go Go.RowKit
/-- The sum and what is carried. -/
def addS (x y c : UInt64) : UInt64 := UInt64.ofNat ((x.toNat + y.toNat + c.toNat) % 2 ^ 64)
def addC (x y c : UInt64) : UInt64 := UInt64.ofNat ((x.toNat + y.toNat + c.toNat) / 2 ^ 64)
theorem addS_nat (x y c : UInt64) : (addS x y c).toNat = (x.toNat + y.toNat + c.toNat) % 2 ^ 64 := by rw [addS, UInt64.toNat_ofNat', Nat.mod_mod]
theorem addC_nat (x y c : UInt64) (hc : c.toNat ≤ 1) : (addC x y c).toNat = (x.toNat + y.toNat + c.toNat) / 2 ^ 64 := by
  have hx := x.toNat_lt
  have hy := y.toNat_lt
  rw [addC, UInt64.toNat_ofNat', Nat.mod_eq_of_lt]
  omega
theorem add64_law (x y c : UInt64) (hc : c.toNat ≤ 1) : (addS x y c).toNat + (addC x y c).toNat * 2 ^ 64 = x.toNat + y.toNat + c.toNat ∧ (addC x y c).toNat ≤ 1 := by
  have hx := x.toNat_lt
  have hy := y.toNat_lt
  rw [addS_nat, addC_nat _ _ _ hc]
  constructor <;> omega
/-- The difference and what is borrowed. -/
def subS (x y c : UInt64) : UInt64 := UInt64.ofNat ((x.toNat + 2 ^ 64 - y.toNat - c.toNat) % 2 ^ 64)
def subC (x y c : UInt64) : UInt64 := if x.toNat < y.toNat + c.toNat then 1 else 0
theorem subS_nat (x y c : UInt64) : (subS x y c).toNat = (x.toNat + 2 ^ 64 - y.toNat - c.toNat) % 2 ^ 64 := by rw [subS, UInt64.toNat_ofNat', Nat.mod_mod]
theorem subC_nat (x y c : UInt64) : (subC x y c).toNat = if x.toNat < y.toNat + c.toNat then 1 else 0 := by
  unfold subC; split <;> rfl
theorem sub64_law (x y c : UInt64) (hc : c.toNat ≤ 1) : (subS x y c).toNat + y.toNat + c.toNat = x.toNat + (subC x y c).toNat * 2 ^ 64 ∧ (subC x y c).toNat ≤ 1 := by
  have hx := x.toNat_lt
  have hy := y.toNat_lt
  rw [subS_nat, subC_nat]
  split <;> constructor <;> omega
/-- The product's upper half. -/
def mulH (x y : UInt64) : UInt64 := UInt64.ofNat (x.toNat * y.toNat / 2 ^ 64)
theorem mul_lt64 (x y : UInt64) : x.toNat * y.toNat < 2 ^ 64 * 2 ^ 64 := Nat.mul_lt_mul'' x.toNat_lt y.toNat_lt
theorem mul64_law (x y : UInt64) : (mulH x y).toNat * 2 ^ 64 + (x * y).toNat = x.toNat * y.toNat := by
  have h := mul_lt64 x y
  rw [mulH, UInt64.toNat_ofNat', UInt64.toNat_mul, Nat.mod_eq_of_lt (Nat.div_lt_of_lt_mul h)]
  exact Nat.div_add_mod' _ _
/-- As the text reckons it. -/
theorem mulH_eq (x y : UInt64) :
    shr64 x 32 * shr64 y 32 + shr64 (shr64 x 32 * (y &&& 4294967295) + shr64 ((x &&& 4294967295) * (y &&& 4294967295)) 32) 32 +
      shr64 ((shr64 x 32 * (y &&& 4294967295) + shr64 ((x &&& 4294967295) * (y &&& 4294967295)) 32 &&& 4294967295) + (x &&& 4294967295) * shr64 y 32) 32 = mulH x y := by
  have hx := x.toNat_lt
  have hy := y.toNat_lt
  obtain ⟨h1, h2, h3, h4⟩ := Lib.mul64_hi x.toNat y.toNat hx hy
  have hand : ∀ z : UInt64, (z &&& 4294967295).toNat = z.toNat % 4294967296 := fun z => by
    rw [UInt64.toNat_and]; exact Nat.and_two_pow_sub_one_eq_mod z.toNat 32
  have hshr : ∀ z : UInt64, (shr64 z 32).toNat = z.toNat / 4294967296 := fun z => by
    rw [shr64, UInt64.toNat_ofNat']; have := z.toNat_lt; omega
  apply UInt64.toNat_inj.1
  have hm : (mulH x y).toNat = x.toNat * y.toNat / 18446744073709551616 := by
    have h := mul_lt64 x y
    rw [mulH, UInt64.toNat_ofNat', Nat.mod_eq_of_lt (Nat.div_lt_of_lt_mul h)]
  have hm2 := (mulH x y).toNat_lt
  rw [hm] at hm2 ⊢
  simp only [UInt64.toNat_add, UInt64.toNat_mul, hand, hshr]
  rw [← h4] at hm2 ⊢
  rw [Nat.mod_eq_of_lt h1]
  have p1 := Lib.half_mul_le (a := x.toNat / 4294967296) (b := y.toNat / 4294967296) (by omega) (by omega)
  have p2 := Lib.half_mul_le (a := x.toNat / 4294967296) (b := y.toNat % 4294967296) (by omega) (by omega)
  have p3 := Lib.half_mul_le (a := x.toNat % 4294967296) (b := y.toNat / 4294967296) (by omega) (by omega)
  have p4 := Lib.half_mul_le (a := x.toNat % 4294967296) (b := y.toNat % 4294967296) (by omega) (by omega)
  generalize x.toNat / 4294967296 * (y.toNat / 4294967296) = a at *
  generalize x.toNat / 4294967296 * (y.toNat % 4294967296) = b at *
  generalize x.toNat % 4294967296 * (y.toNat / 4294967296) = c at *
  generalize x.toNat % 4294967296 * (y.toNat % 4294967296) = d at *
  omega
end Go.Proofs.YtnpcaplgkmlmoaaGreatDoor
/- Plain law: a number of two limbs divided by one limb, as package math/bits reckons it. No condition. -/
namespace Go.Proofs.YtnpcaplgkmlmoaaGreatDoor
set_option linter.unusedVariables false
set_option linter.unusedSimpArgs false
/-- A guess of the quotient's digit, and what it leaves of the upper digits. -/
def DInv (R u1 y1 y0 q rh : Nat) : Prop := rh + q * y1 = R ∧ rh * 4294967296 + u1 < q * y0 + y1 * 4294967296 + y0 ∧ q ≤ 4294967297
theorem d_start {R u1 y1 y0 : Nat} (hR : R < y1 * 4294967296 + y0) (h1 : 2147483648 ≤ y1) (h0 : y0 < 4294967296) (hu : u1 < 4294967296) : DInv R u1 y1 y0 (R / y1) (R - R / y1 * y1) := by
  have hy : 0 < y1 := by omega
  have e := Nat.div_add_mod R y1
  have hm := Nat.mod_lt R hy
  have hq : R / y1 ≤ 4294967297 := by
    rw [Nat.div_le_iff_le_mul_add_pred hy]; omega
  rw [Nat.mul_comm] at e
  have hrh : R - R / y1 * y1 = R % y1 := by omega
  rw [hrh]
  refine ⟨by omega, ?_, hq⟩
  have : R % y1 * 4294967296 + 4294967296 ≤ y1 * 4294967296 := by
    have := Nat.mul_le_mul_right 4294967296 (show R % y1 + 1 ≤ y1 by omega)
    omega
  omega
theorem d_gt {R u1 y1 y0 q rh : Nat} (h : DInv R u1 y1 y0 q rh) (hR : R < y1 * 4294967296 + y0) (hu : u1 < 4294967296) (hq : 4294967296 ≤ q) : rh * 4294967296 + u1 < q * y0 := by
  obtain ⟨a, b, c⟩ := h
  have h1 : R * 4294967296 + 4294967296 ≤ (y1 * 4294967296 + y0) * 4294967296 := by
    have := Nat.mul_le_mul_right 4294967296 (show R + 1 ≤ y1 * 4294967296 + y0 by omega)
    omega
  have h2 : (y1 * 4294967296 + y0) * 4294967296 ≤ q * (y1 * 4294967296 + y0) := by
    rw [Nat.mul_comm]; exact Nat.mul_le_mul_right _ hq
  rw [Nat.mul_add, ← Nat.mul_assoc] at h2
  have h3 : R * 4294967296 = rh * 4294967296 + q * y1 * 4294967296 := by rw [← a, Nat.add_mul]
  omega
theorem more_nat {A Z u1 S y0 : Nat} (h : A + u1 < S + y0) : A + Z + u1 < S + Z + y0 := by omega
theorem d_more {R u1 y1 y0 q rh : Nat} (h : DInv R u1 y1 y0 q rh) (hgt : rh * 4294967296 + u1 < q * y0) : 0 < q ∧ DInv R u1 y1 y0 (q - 1) (rh + y1) ∧ q - 1 ≤ 4294967296 := by
  obtain ⟨a, b, c⟩ := h
  have hq : 0 < q := by
    rcases Nat.eq_zero_or_pos q with h | h
    · rw [h, Nat.zero_mul] at hgt; omega
    · exact h
  obtain ⟨p, rfl⟩ : ∃ p, q = p + 1 := ⟨q - 1, by omega⟩
  rw [Nat.add_sub_cancel]
  rw [Nat.add_mul, Nat.one_mul] at a b hgt
  refine ⟨hq, ⟨by omega, ?_, by omega⟩, by omega⟩
  rw [Nat.add_mul]
  exact more_nat hgt
theorem d_at {R u1 y1 y0 q rh : Nat} (h : DInv R u1 y1 y0 q rh) (hle : q * y0 ≤ rh * 4294967296 + u1) (hy : 0 < y1) : q = (R * 4294967296 + u1) / (y1 * 4294967296 + y0) := by
  obtain ⟨a, b, c⟩ := h
  have h3 : R * 4294967296 = rh * 4294967296 + q * y1 * 4294967296 := by rw [← a, Nat.add_mul]
  symm
  rw [Nat.div_eq_iff (by omega)]
  rw [Nat.mul_add, ← Nat.mul_assoc]
  omega
theorem d_brk {R u1 y1 y0 q rh : Nat} (h : DInv R u1 y1 y0 q rh) (hq : q ≤ 4294967296) (hrh : 4294967296 ≤ rh) (h0 : y0 < 4294967296) (hy : 0 < y1) : q = (R * 4294967296 + u1) / (y1 * 4294967296 + y0) := by
  refine d_at h ?_ hy
  have h1 : q * y0 ≤ 4294967296 * y0 := Nat.mul_le_mul_right _ hq
  have h2 : 4294967296 * y0 ≤ rh * 4294967296 := by rw [Nat.mul_comm]; exact Nat.mul_le_mul_right _ (by omega)
  exact Nat.le_trans (Nat.le_trans h1 h2) (Nat.le_add_right _ _)
/-- Two digits. -/
theorem add_rot (a b c : Nat) : a + b + c = b + c + a := by omega
theorem d_two0 {T u0 Y : Nat} (hY : 0 < Y) :
    (T / Y * 4294967296 + (T % Y * 4294967296 + u0) / Y) = (T * 4294967296 + u0) / Y ∧ (T % Y * 4294967296 + u0) % Y = (T * 4294967296 + u0) % Y := by
  have e := Nat.div_add_mod T Y
  have e2 : T * 4294967296 + u0 = (T % Y * 4294967296 + u0) + Y * (T / Y * 4294967296) := by
    conv => lhs; rw [← e]
    rw [Nat.add_mul, Nat.mul_assoc]; exact add_rot _ _ _
  constructor
  · rw [e2, Nat.add_mul_div_left _ _ hY, Nat.add_comm]
  · rw [e2, Nat.add_mul_mod_self_left]
theorem d_two {R u1 u0 Y : Nat} (hY : 0 < Y) :
    ((R * 4294967296 + u1) / Y * 4294967296 + ((R * 4294967296 + u1) % Y * 4294967296 + u0) / Y) = ((R * 4294967296 + u1) * 4294967296 + u0) / Y ∧
    ((R * 4294967296 + u1) % Y * 4294967296 + u0) % Y = ((R * 4294967296 + u1) * 4294967296 + u0) % Y := d_two0 hY
theorem d_low {T Y q B : Nat} (hq : q = T / Y) (hY : 0 < Y) (hB : Y ≤ B) (a b : Nat) (ha : a % B = T % B) (hb : b % B = q * Y % B) : (B + a % B - b % B) % B = T % Y := by
  have e := Nat.div_add_mod T Y
  have hm := Nat.mod_lt T hY
  rw [ha, hb]
  have e2 : T = T % Y + q * Y := by rw [hq, Nat.mul_comm]; omega
  have hB0 : 0 < B := by omega
  have h1 := Nat.mod_lt (q * Y) hB0
  generalize hr : T % Y = r at *
  rw [e2]
  have e3 : (r + q * Y) % B = (r + q * Y % B) % B := by rw [Nat.add_mod_mod]
  rw [e3]
  generalize q * Y % B = c at *
  by_cases hc : r + c < B
  · rw [Nat.mod_eq_of_lt hc, show B + (r + c) - c = r + B by omega, Nat.add_mod_right, Nat.mod_eq_of_lt (by omega)]
  · rw [Nat.mod_eq_sub_mod (show r + c ≥ B by omega), Nat.mod_eq_of_lt (show r + c - B < B by omega), show B + (r + c - B) - c = r by omega, Nat.mod_eq_of_lt (by omega)]
end Go.Proofs.YtnpcaplgkmlmoaaGreatDoor
/- Plain law: what limb.From's loop builds. No condition. -/
namespace Go.Proofs.YtnpcaplgkmlmoaaGreatDoor
set_option linter.unusedVariables false
set_option linter.unusedSimpArgs false
/-- One round of limb.From. -/
def fromStep (l : List UInt8) (k : Nat) (a : List UInt64) : List UInt64 :=
  a.set ((l.length - 1 - k) / 8) (a.getD ((l.length - 1 - k) / 8) 0 ||| (UInt64.ofNat ((l.getD k 0).toNat * 2 ^ ((l.length - 1 - k) % 8 * 8))))
def fromSt (l : List UInt8) : Nat → List UInt64
  | 0 => List.replicate ((l.length + 7) / 8) 0
  | k+1 => fromStep l k (fromSt l k)
theorem length_fromSt (l : List UInt8) (k : Nat) : (fromSt l k).length = (l.length + 7) / 8 := by
  induction k with
  | zero => simp [fromSt]
  | succ k ih => simp [fromSt, fromStep, ih]
theorem v64_set {a : List UInt64} {i : Nat} {y : UInt64} (h : i < a.length) : v64 (a.set i y) + a[i].toNat * 2 ^ (64 * i) = v64 a + y.toNat * 2 ^ (64 * i) := by
  have := val_set (2 ^ 64) (n64 a) i y.toNat (by simpa using h)
  simp only [v64, n64, List.map_set, List.getElem_map] at this ⊢
  rw [← Nat.pow_mul] at this
  exact this
theorem limb_v64 {a : List UInt64} {i : Nat} (h : i < a.length) : v64 a / 2 ^ (64 * i) % 2 ^ 64 = a[i].toNat := by
  have := val_div_mod (B := 2 ^ 64) (by decide) (n64_lt a) i (by simpa using h)
  rw [← Nat.pow_mul] at this
  simpa [v64, n64] using this
theorem be_take_succ (l : List UInt8) (k : Nat) (h : k < l.length) : be (l.take (k + 1)) = be (l.take k) * 256 + l[k].toNat := by
  rw [List.take_succ_eq_append_getElem h, be_snoc]
theorem v64_fromSt (l : List UInt8) (k : Nat) (hk : k ≤ l.length) : v64 (fromSt l k) = be (l.take k) * 256 ^ (l.length - k) := by
  induction k with
  | zero => simp [fromSt, v64_replicate, be]
  | succ k ih =>
    have hlt : k < l.length := by omega
    have ih := ih (by omega)
    have hat : (l.length - 1 - k) / 8 < (fromSt l k).length := by rw [length_fromSt]; omega
    have hs := v64_set (a := fromSt l k) (i := (l.length - 1 - k) / 8) (y := (fromSt l k)[(l.length - 1 - k) / 8] ||| UInt64.ofNat (l[k].toNat * 2 ^ ((l.length - 1 - k) % 8 * 8))) hat
    have hd : fromSt l (k + 1) = (fromSt l k).set ((l.length - 1 - k) / 8) ((fromSt l k)[(l.length - 1 - k) / 8] ||| UInt64.ofNat (l[k].toNat * 2 ^ ((l.length - 1 - k) % 8 * 8))) := by
      simp [fromSt, fromStep, hat, hlt]
    rw [← hd] at hs
    have hx := l[k].toNat_lt
    have hlimb := limb_v64 hat
    generalize hq : (fromSt l k)[(l.length - 1 - k) / 8] = L at hs hlimb
    -- the exponent of the byte
    obtain ⟨q, r, hqr, hr⟩ : ∃ q r, l.length - 1 - k = 8 * q + r ∧ r < 8 := ⟨(l.length - 1 - k) / 8, (l.length - 1 - k) % 8, by omega, Nat.mod_lt _ (by decide)⟩
    have e1 : (l.length - 1 - k) / 8 = q := by omega
    have e2 : (l.length - 1 - k) % 8 = r := by omega
    rw [e1] at hs hlimb
    rw [e2] at hs
    have e3 : l.length - k = 8 * q + r + 1 := by omega
    have e4 : l.length - (k + 1) = 8 * q + r := by omega
    rw [e3] at ih
    rw [e4, be_take_succ l k hlt]
    have p256 : ∀ m : Nat, (256 : Nat) ^ m = 2 ^ (8 * m) := fun m => by rw [show (256 : Nat) = 2 ^ 8 from rfl, ← Nat.pow_mul]
    rw [p256] at ih ⊢
    have hdiv : L.toNat % 2 ^ (r * 8 + 8) = 0 := by
      rw [← hlimb, ih]
      have : be (l.take k) * 2 ^ (8 * (8 * q + r + 1)) = 2 ^ (64 * q) * (2 ^ (r * 8 + 8) * be (l.take k)) := by
        rw [← Nat.mul_assoc, ← Nat.pow_add, Nat.mul_comm]; congr 2; omega
      rw [this, Nat.mul_div_cancel_left _ (Nat.pow_pos (by decide)), Nat.mod_mod_of_dvd _ (Nat.pow_dvd_pow 2 (by omega)), Nat.mul_mod_right]
    have hc : l[k].toNat * 2 ^ (r * 8) < 2 ^ (r * 8 + 8) := by
      rw [Nat.pow_add, Nat.mul_comm]
      exact Nat.mul_lt_mul_of_pos_left hx (Nat.pow_pos (by decide))
    have hc64 : l[k].toNat * 2 ^ (r * 8) < 2 ^ 64 := Nat.lt_of_lt_of_le hc (Nat.pow_le_pow_right (by decide) (by omega))
    have hor : (L ||| UInt64.ofNat (l[k].toNat * 2 ^ (r * 8))).toNat = L.toNat + l[k].toNat * 2 ^ (r * 8) := by
      rw [UInt64.toNat_or, UInt64.toNat_ofNat', Nat.mod_eq_of_lt hc64]
      exact nat_join _ _ _ hdiv hc
    rw [hor, ih, Nat.add_mul] at hs
    have h5 : l[k].toNat * 2 ^ (r * 8) * 2 ^ (64 * q) = l[k].toNat * 2 ^ (8 * (8 * q + r)) := by
      rw [Nat.mul_assoc, ← Nat.pow_add]; congr 2; omega
    have h6 : be (l.take k) * 2 ^ (8 * (8 * q + r + 1)) = be (l.take k) * 256 * 2 ^ (8 * (8 * q + r)) := by
      rw [Nat.mul_assoc, show (256 : Nat) = 2 ^ 8 from rfl, ← Nat.pow_add]; congr 2; omega
    rw [h5, h6] at hs
    rw [Nat.add_mul]
    omega
theorem fromSt_all (l : List UInt8) : v64 (fromSt l l.length) = be l := by
  rw [v64_fromSt l l.length (Nat.le_refl _)]; simp
theorem bound_limb (x : UInt64) : (x.toNat : Int) ≤ 18446744073709551615 := by have := x.toNat_lt; omega
end Go.Proofs.YtnpcaplgkmlmoaaGreatDoor
/- Plain laws on numbers in digits of 32 bits. No condition. -/
namespace Go.Proofs.YtnpcaplgkmlmoaaGreatDoor
set_option linter.unusedVariables false
set_option linter.unusedSimpArgs false
/-! Limbs of 32 bits, the lowest first. -/
def n32 (l : List UInt32) : List Nat := l.map UInt32.toNat
def v32 (l : List UInt32) : Nat := val (2 ^ 32) (n32 l)
theorem n32_lt (l : List UInt32) : ∀ x ∈ n32 l, x < 2 ^ 32 := by
  intro x hx; obtain ⟨y, _, rfl⟩ := List.mem_map.1 hx; exact y.toNat_lt
theorem n32_inj {a b : List UInt32} (h : n32 a = n32 b) : a = b := List.map_inj_right (fun x y e => UInt32.toNat_inj.1 e) |>.1 h
@[simp] theorem length_n32 (l : List UInt32) : (n32 l).length = l.length := by simp [n32]
theorem v32_lt (l : List UInt32) : v32 l < 2 ^ (32 * l.length) := by
  have := val_lt (B := 2 ^ 32) (by decide) (n32_lt l)
  rw [length_n32, ← Nat.pow_mul] at this
  exact this
theorem v32_inj {a b : List UInt32} (hl : a.length = b.length) (h : v32 a = v32 b) : a = b :=
  n32_inj (val_inj (by decide) (by simpa using hl) (n32_lt a) (n32_lt b) h)
/-- So many digs of N. -/
def digsN (k N : Nat) : List UInt32 := (List.range k).map fun i => UInt32.ofNat (N / 2 ^ (32 * i))
@[simp] theorem length_digsN (k N : Nat) : (digsN k N).length = k := by simp [digsN]
theorem n32_digsN (k N : Nat) : n32 (digsN k N) = dig (2 ^ 32) k N := by
  simp only [n32, digsN, dig, List.map_map]
  apply List.map_congr_left
  intro i _
  show (UInt32.ofNat (N / 2 ^ (32 * i))).toNat = _
  rw [UInt32.toNat_ofNat', Nat.pow_mul]
theorem v32_digsN (k N : Nat) : v32 (digsN k N) = N % 2 ^ (32 * k) := by rw [v32, n32_digsN, val_dig, ← Nat.pow_mul]
theorem digsN_v32 (l : List UInt32) : digsN l.length (v32 l) = l := by
  apply n32_inj; rw [n32_digsN, v32, ← length_n32, dig_val (by decide) (n32_lt l)]
theorem eq_digsN {l : List UInt32} {k N : Nat} (hl : l.length = k) (h : v32 l = N) : l = digsN k N := by rw [← hl, ← h, digsN_v32]
/-- The digs of N, no zeros at the end. -/
def digsOf (N : Nat) : List UInt32 := digsN ((bitLen N + 31) / 32) N
theorem digLen_le {N k : Nat} : (bitLen N + 31) / 32 ≤ k ↔ N < 2 ^ (32 * k) := by
  rw [← bitLen_le]; omega
theorem v32_digsOf (N : Nat) : v32 (digsOf N) = N := by
  rw [digsOf, v32_digsN]; exact Nat.mod_eq_of_lt (digLen_le.1 (Nat.le_refl _))
theorem length_digsOf (N : Nat) : (digsOf N).length = (bitLen N + 31) / 32 := by simp [digsOf]
theorem v32_append (a b : List UInt32) : v32 (a ++ b) = v32 a + 2 ^ (32 * a.length) * v32 b := by
  simp only [v32, n32, List.map_append, val_append, List.length_map, ← Nat.pow_mul]
theorem v32_replicate (n : Nat) : v32 (List.replicate n 0) = 0 := by simp [v32, n32, val_replicate]
/-- What is left when the zeros at the end are taken away. -/
theorem trim_eq32 {l : List UInt32} {k : Nat} (hk : k ≤ l.length) (hz : ∀ i (h : i < l.length), k ≤ i → l[i] = 0) (hl : k = 0 ∨ ∃ h : k - 1 < l.length, l[k - 1] ≠ 0) : l.take k = digsOf (v32 l) := by
  have hd : l.drop k = List.replicate (l.length - k) 0 := by
    apply List.ext_getElem (by simp)
    intro i h1 h2
    simp only [List.length_drop] at h1
    simp only [List.getElem_drop, List.getElem_replicate]
    exact hz (k + i) (by omega) (by omega)
  have hv : v32 l = v32 (l.take k) := by
    conv => lhs; rw [← List.take_append_drop k l]
    rw [v32_append, hd, v32_replicate]; simp
  have hlen : (l.take k).length = k := by simp; omega
  refine eq_digsN ?_ hv.symm
  rw [hlen]
  have h1 : v32 l < 2 ^ (32 * k) := by rw [hv]; have := v32_lt (l.take k); rwa [hlen] at this
  have h2 := digLen_le.2 h1
  rcases hl with rfl | ⟨hlt, hne⟩
  · omega
  · by_cases hc : (bitLen (v32 l) + 31) / 32 ≤ k - 1
    · exfalso
      have h3 := digLen_le.1 hc
      have h4 := val_div_mod (B := 2 ^ 32) (by decide) (n32_lt l) (k - 1) (by simpa using hlt)
      have h5 : val (2 ^ 32) (n32 l) / (2 ^ 32) ^ (k - 1) = 0 := by
        rw [← Nat.pow_mul]; exact Nat.div_eq_of_lt h3
      rw [h5] at h4
      simp [n32] at h4
      exact hne (by rw [← UInt32.toNat_inj]; simpa using h4.symm)
    · by_cases h0 : k = 0
      · omega
      · omega

theorem v32_set {a : List UInt32} {i : Nat} {y : UInt32} (h : i < a.length) : v32 (a.set i y) + a[i].toNat * 2 ^ (32 * i) = v32 a + y.toNat * 2 ^ (32 * i) := by
  have := val_set (2 ^ 32) (n32 a) i y.toNat (by simpa using h)
  simp only [v32, n32, List.map_set, List.getElem_map] at this ⊢
  rw [← Nat.pow_mul] at this
  exact this
theorem dig_v32 {a : List UInt32} {i : Nat} (h : i < a.length) : v32 a / 2 ^ (32 * i) % 2 ^ 32 = a[i].toNat := by
  have := val_div_mod (B := 2 ^ 32) (by decide) (n32_lt a) i (by simpa using h)
  rw [← Nat.pow_mul] at this
  simpa [v32, n32] using this
end Go.Proofs.YtnpcaplgkmlmoaaGreatDoor
/- Plain law: what the reference's From builds. No condition. -/
namespace Go.Proofs.YtnpcaplgkmlmoaaGreatDoor
set_option linter.unusedVariables false
set_option linter.unusedSimpArgs false
def rfromStep (l : List UInt8) (i : Nat) (a : List UInt32) : List UInt32 :=
  a.set (i / 4) (a.getD (i / 4) 0 ||| (UInt32.ofNat ((l.getD (l.length - 1 - i) 0).toNat * 2 ^ (8 * (i % 4)))))
def rfromSt (l : List UInt8) : Nat → List UInt32
  | 0 => List.replicate ((l.length + 3) / 4) 0
  | k+1 => rfromStep l k (rfromSt l k)
theorem length_rfromSt (l : List UInt8) (k : Nat) : (rfromSt l k).length = (l.length + 3) / 4 := by
  induction k with
  | zero => simp [rfromSt]
  | succ k ih => simp [rfromSt, rfromStep, ih]
theorem v32_rfromSt (l : List UInt8) (k : Nat) (hk : k ≤ l.length) : v32 (rfromSt l k) = be (l.drop (l.length - k)) := by
  induction k with
  | zero => simp [rfromSt, v32_replicate, be]
  | succ k ih =>
    have ih := ih (by omega)
    have hat : k / 4 < (rfromSt l k).length := by rw [length_rfromSt]; omega
    have hlt : l.length - 1 - k < l.length := by omega
    have hs := v32_set (a := rfromSt l k) (i := k / 4) (y := (rfromSt l k)[k / 4] ||| UInt32.ofNat (l[l.length - 1 - k].toNat * 2 ^ (8 * (k % 4)))) hat
    have hd : rfromSt l (k + 1) = (rfromSt l k).set (k / 4) ((rfromSt l k)[k / 4] ||| UInt32.ofNat (l[l.length - 1 - k].toNat * 2 ^ (8 * (k % 4)))) := by
      simp [rfromSt, rfromStep, hat, hlt]
    rw [← hd] at hs
    have hx := l[l.length - 1 - k].toNat_lt
    have hdig := dig_v32 hat
    generalize hq : (rfromSt l k)[k / 4] = L at hs hdig
    have hdr : l.drop (l.length - (k + 1)) = l[l.length - 1 - k] :: l.drop (l.length - k) := by
      rw [show l.length - (k + 1) = l.length - 1 - k from by omega, List.drop_eq_getElem_cons hlt]
      congr 2; omega
    have hlen : (l.drop (l.length - k)).length = k := by simp; omega
    have hv : v32 (rfromSt l k) < 2 ^ (8 * k) := by
      rw [ih, show (2 : Nat) ^ (8 * k) = 256 ^ k from by rw [show (256 : Nat) = 2 ^ 8 from rfl, ← Nat.pow_mul]]
      have := be_lt (l.drop (l.length - k)); rwa [hlen] at this
    rw [hdr, be_cons, hlen, ← ih]
    obtain ⟨q, r, hqr, hr⟩ : ∃ q r, k = 4 * q + r ∧ r < 4 := ⟨k / 4, k % 4, by omega, Nat.mod_lt _ (by decide)⟩
    have e1 : k / 4 = q := by omega
    have e2 : k % 4 = r := by omega
    rw [e1] at hs hdig
    rw [e2] at hs
    have hL : L.toNat < 2 ^ (8 * r) := by
      rw [← hdig]
      refine Nat.lt_of_le_of_lt (Nat.mod_le _ _) ?_
      rw [Nat.div_lt_iff_lt_mul (Nat.pow_pos (by decide)), ← Nat.pow_add]
      rwa [show 8 * r + 32 * q = 8 * k from by omega]
    have hc : l[l.length - 1 - k].toNat * 2 ^ (8 * r) < 2 ^ 32 := by
      refine Nat.lt_of_lt_of_le (Nat.mul_lt_mul_of_pos_right hx (Nat.pow_pos (by decide))) ?_
      rw [show (2 : Nat) ^ 8 * 2 ^ (8 * r) = 2 ^ (8 + 8 * r) from by rw [← Nat.pow_add]]
      exact Nat.pow_le_pow_right (by decide) (by omega)
    have hor : (L ||| UInt32.ofNat (l[l.length - 1 - k].toNat * 2 ^ (8 * r))).toNat = L.toNat + l[l.length - 1 - k].toNat * 2 ^ (8 * r) := by
      rw [UInt32.toNat_or, UInt32.toNat_ofNat', Nat.mod_eq_of_lt hc, Nat.or_comm, nat_join (8 * r) _ _ (Nat.mul_mod_left _ _) hL, Nat.add_comm]
    rw [hor, Nat.add_mul, Nat.mul_assoc, ← Nat.pow_add, show 8 * r + 32 * q = 8 * k from by omega] at hs
    have e256 : (256 : Nat) ^ k = 2 ^ (8 * k) := by rw [show (256 : Nat) = 2 ^ 8 from rfl, ← Nat.pow_mul]
    rw [e256]
    omega
theorem rfromSt_all (l : List UInt8) : v32 (rfromSt l l.length) = be l := by
  rw [v32_rfromSt l l.length (Nat.le_refl _)]; simp
end Go.Proofs.YtnpcaplgkmlmoaaGreatDoor
/- The engine, arrays of words: what is read and written at a place. For whatever program. No condition. -/
namespace Go.Proofs.YtnpcaplgkmlmoaaGreatDoor
set_option linter.unusedVariables false
set_option linter.unusedSimpArgs false
open Go Go.RowKit
theorem get64A {bs : List UInt64} {j : Nat} (h : j < bs.length) : (u64s bs)[0 + j * 1]? = some (.int .u64 ((bs.getD j 0).toNat : Int)) := by rw [Nat.zero_add, Nat.mul_one]; exact get64 h
theorem get32A {bs : List UInt32} {j : Nat} (h : j < bs.length) : (u32s bs)[0 + j * 1]? = some (.int .u32 ((bs.getD j 0).toNat : Int)) := by rw [Nat.zero_add, Nat.mul_one]; exact get32 h
theorem get8A {bs : List UInt8} {j : Nat} (h : j < bs.length) : (u8s bs)[0 + j * 1]? = some (.int .u8 ((bs.getD j 0).toNat : Int)) := by rw [Nat.zero_add, Nat.mul_one]; exact get8 h
theorem set64A (l : List UInt64) (j : Nat) (x : UInt64) : setL (u64s l) (0 + j * 1) [.int .u64 (x.toNat : Int)] = u64s (l.set j x) := by rw [Nat.zero_add, Nat.mul_one, setL, setL, set_u64s]
theorem set32A (l : List UInt32) (j : Nat) (x : UInt32) : setL (u32s l) (0 + j * 1) [.int .u32 (x.toNat : Int)] = u32s (l.set j x) := by rw [Nat.zero_add, Nat.mul_one, setL, setL, set_u32s]
theorem set8A (l : List UInt8) (j : Nat) (x : UInt8) : setL (u8s l) (0 + j * 1) [.int .u8 (x.toNat : Int)] = u8s (l.set j x) := by rw [Nat.zero_add, Nat.mul_one, setL, setL, set_u8s]
theorem four {α : Type} {l : List α} (h : l.length = 4) : ∃ a b c d, l = [a, b, c, d] := by
  match l, h with
  | [a, b, c, d], _ => exact ⟨a, b, c, d, rfl⟩
/-- A word of four limbs as a value. -/
def wv (l : List UInt64) : Value := .agg (u64s l).toArray
theorem eq_words4 {l m : List UInt64} (hl : l.length = 4) (hm : m.length = 4) (h : v64 l = v64 m) : l = m := v64_inj (by omega) h
section
variable {P : Program} {n : Nat} {l : List (Nat × Value)} {E : World} {L Ls : List Heaplet} {X Y : Act → World → Prop} {d : Nat} {t ty e : TypeId} {x y : Operand}
theorem op_buildA {alen size : Nat} {parts : List (Nat × Operand)} {vs : List (Nat × Value)} {zs out : List Value} {pos : _} {aft : _} {g : _} (s : NxF P n l E L Ls ⟨some d, .build t parts.toArray, ty, pos, aft, g⟩ X Y) (hz : zer P t = some (.agg zs.toArray)) (hp : aelt P t = some (alen, e, size)) (hv : Pts l parts vs) (ho : fillL ((List.range alen).map fun i => (i * size, size)) zs vs = some out) (hn : Nat.ble (d + 1) n = true) (h : At n ((d, .agg out.toArray) :: l) E L Y) : At n l E L X :=
  op_val s (fun a w hf hw => by
    obtain ⟨i, hi, hiz⟩ := Option.bind_eq_some_iff.1 hz
    obtain ⟨hu, j, hj, hjs⟩ := aelt_spec hp
    have hzr : (zeroValue t).run P w = .ok (.agg zs.toArray) w := by simp [zeroValue, typeInfo, hi, hiz]
    have hfill := fill_fillL (place := fun i => some (i * size, size)) (fun i o h => by
      rw [List.getElem?_map] at h
      obtain ⟨k, hk, rfl⟩ := Option.map_eq_some_iff.1 h
      obtain ⟨_, rfl⟩ := List.getElem?_eq_some_iff.1 hk
      simp) vs zs out ho
    have hpv : (parts.toArray.map fun (x : Nat × Operand) => (x.1, a.eval x.2)) = vs.toArray := by rw [List.map_toArray, hv.map hf]
    have hb : (Instr.build t vs.toArray).run P w = .ok (.agg out.toArray) w := by
      unfold Instr.build
      rw [Sem.run_bind, hzr]
      simp only [Result.andThen_ok]
      rw [Sem.run_bind, run_underlying hu]
      simp only [Result.andThen_ok]
      rw [Sem.run_bind, run_sizeOf hj, hjs]
      simp only [Result.andThen_ok, Value.cells, hfill, Sem.run_pure]
    show ((do pure (.value (← Instr.build t (parts.toArray.map fun (x : Nat × Operand) => (x.1, a.eval x.2)))) : Sem Next)).run P w = _
    rw [hpv, Sem.run_bind, hb]
    rfl) rfl hn h
theorem op_idxV {alen j : Nat} {k : IntKind} {p : Int} {v : Value} {cs : Array Value} {pos : _} {aft : _} {g : _} (s : NxF P n l E L Ls ⟨some d, .index t x y, ty, pos, aft, g⟩ X Y) (ht : aelt P t = some (alen, e, 1)) (he : scal P e = true) (hx : ev l x = some (.agg cs)) (hy : ev l y = some (.int k p)) (hj : p = (j : Int)) (hlt : j < alen) (hc : cs[j]? = some v) (hn : Nat.ble (d + 1) n = true) (h : At n ((d, v) :: l) E L Y) : At n l E L X := by
  obtain ⟨hu, i, hi, hsz⟩ := aelt_spec ht
  refine op_val s (fun a w hf hw => ?_) rfl hn h
  subst hj
  simp only [execOp, hf.eval hx, hf.eval hy, Instr.index, asIntOf, Sem.run_bind, Sem.run_pure, Result.andThen_ok, run_underlying hu]
  have h0 : (0 : Int) ≤ (j : Int) ∧ (j : Int) < (alen : Int) := by omega
  simp only [if_pos h0, Sem.run_bind, run_sizeOf hi, hsz, Result.andThen_ok, Int.toNat_natCast, Nat.mul_one]
  simp only [part, Sem.run_bind]
  rw [run_isAgg_scal he]
  simp only [Result.andThen_ok, Bool.false_eq_true, if_false, hc, Sem.run_pure]
end
end Go.Proofs.YtnpcaplgkmlmoaaGreatDoor
/- Plain laws: words built by or, place by place. No condition. -/
namespace Go.Proofs.YtnpcaplgkmlmoaaGreatDoor
set_option linter.unusedVariables false
set_option linter.unusedSimpArgs false
theorem or_set64 {a : List UInt64} {q s w x : Nat} (hq : q < a.length) (hs : v64 a < 2 ^ (64 * q + s)) (hx : x < 2 ^ w) (hw : s + w ≤ 64) :
    v64 (a.set q (a.getD q 0 ||| UInt64.ofNat (x * 2 ^ s))) = v64 a + x * 2 ^ (64 * q + s) := by
  have hset := v64_set (a := a) (i := q) (y := a.getD q 0 ||| UInt64.ofNat (x * 2 ^ s)) hq
  have hdig := limb_v64 hq
  have hL : a[q].toNat < 2 ^ s := by
    rw [← hdig]
    refine Nat.lt_of_le_of_lt (Nat.mod_le _ _) ?_
    rw [Nat.div_lt_iff_lt_mul (Nat.pow_pos (by decide)), ← Nat.pow_add]
    rwa [Nat.add_comm s]
  have hc : x * 2 ^ s < 2 ^ 64 := by
    refine Nat.lt_of_lt_of_le (Nat.mul_lt_mul_of_pos_right hx (Nat.pow_pos (by decide))) ?_
    rw [← Nat.pow_add]
    exact Nat.pow_le_pow_right (by decide) (by omega)
  have hor : (a.getD q 0 ||| UInt64.ofNat (x * 2 ^ s)).toNat = a[q].toNat + x * 2 ^ s := by
    rw [List.getD_eq_getElem?_getD, List.getElem?_eq_getElem hq, Option.getD_some, UInt64.toNat_or, UInt64.toNat_ofNat', Nat.mod_eq_of_lt hc, Nat.or_comm, nat_join s _ _ (Nat.mul_mod_left _ _) hL, Nat.add_comm]
  rw [hor, Nat.add_mul, Nat.mul_assoc, ← Nat.pow_add, Nat.add_comm s] at hset
  omega
theorem v32_take_succ {l : List UInt32} {k : Nat} (h : k < l.length) : v32 (l.take (k + 1)) = v32 (l.take k) + (l.getD k 0).toNat * 2 ^ (32 * k) := by
  rw [List.take_succ_eq_append_getElem h, v32_append, List.length_take, Nat.min_eq_left (by omega), List.getD_eq_getElem?_getD, List.getElem?_eq_getElem h]
  simp only [v32, n32, val, List.map_cons, List.map_nil, Option.getD_some, Nat.mul_zero, Nat.add_zero]
  rw [Nat.mul_comm (2 ^ (32 * k))]
theorem v32_take_lt (l : List UInt32) (k : Nat) : v32 (l.take k) < 2 ^ (32 * k) := by
  refine Nat.lt_of_lt_of_le (v32_lt _) (Nat.pow_le_pow_right (by decide) ?_)
  have := List.length_take_le k l
  omega
theorem v32_take_mod (l : List UInt32) (k : Nat) : v32 (l.take k) = v32 l % 2 ^ (32 * k) := by
  have h := v32_take_lt l k
  by_cases hk : k ≤ l.length
  · have e : v32 l = v32 (l.take k) + 2 ^ (32 * k) * v32 (l.drop k) := by
      conv => lhs; rw [← List.take_append_drop k l]
      rw [v32_append, List.length_take, Nat.min_eq_left hk]
    rw [e, Nat.add_mul_mod_self_left, Nat.mod_eq_of_lt h]
  · rw [List.take_of_length_le (by omega)] at h ⊢
    rw [Nat.mod_eq_of_lt h]
/-- One round of W: the digit's place. -/
theorem w_step {m : List UInt64} {l : List UInt32} {k : Nat} (hm : m.length = 4) (hv : v64 m = v32 (l.take k)) (hk : k < 8) (hl : k < l.length) :
    v64 (m.set (k / 2) (m.getD (k / 2) 0 ||| UInt64.ofNat ((l.getD k 0).toNat * 2 ^ (32 * (k % 2))))) = v32 (l.take (k + 1)) := by
  have hx := (l.getD k 0).toNat_lt
  have e : 64 * (k / 2) + 32 * (k % 2) = 32 * k := by omega
  rw [or_set64 (w := 32) (by omega) (by rw [hv, e]; exact v32_take_lt l k) hx (by omega), e, hv, v32_take_succ hl]
theorem shl64_of (x : Nat) (hx : x < 2 ^ 64) (m : Nat) : shl64 (UInt64.ofNat x) m = UInt64.ofNat (x * 2 ^ m) := by
  unfold shl64
  rw [UInt64.toNat_ofNat', Nat.mod_eq_of_lt hx]
theorem shl32_of (x : Nat) (hx : x < 2 ^ 32) (m : Nat) : shl32 (UInt32.ofNat x) m = UInt32.ofNat (x * 2 ^ m) := by
  unfold shl32
  rw [UInt32.toNat_ofNat', Nat.mod_eq_of_lt hx]
end Go.Proofs.YtnpcaplgkmlmoaaGreatDoor
/- Plain laws: the bytes of a number in limbs; the head of a payload. No condition. -/
namespace Go.Proofs.YtnpcaplgkmlmoaaGreatDoor
set_option linter.unusedVariables false
set_option linter.unusedSimpArgs false
theorem bitLen_div (N m : Nat) : bitLen (N / 2 ^ m) = bitLen N - m := by
  have h : ∀ j, bitLen (N / 2 ^ m) ≤ j ↔ bitLen N - m ≤ j := by
    intro j
    rw [bitLen_le, Nat.div_lt_iff_lt_mul (Nat.pow_pos (by decide)), ← Nat.pow_add, ← bitLen_le]; omega
  have h1 := (h (bitLen N - m)).2 (Nat.le_refl _)
  have h2 := (h (bitLen (N / 2 ^ m))).1 (Nat.le_refl _)
  omega
theorem limbsOf_get {N i : Nat} (h : i < (limbsOf N).length) : (limbsOf N)[i] = UInt64.ofNat (N / 2 ^ (64 * i)) := by
  simp [limbsOf, limbsN]
theorem limbsOf_top {N : Nat} (h : 0 < (limbsOf N).length) : (64 * ((limbsOf N).length - 1) + bitLen (limbsOf N)[(limbsOf N).length - 1].toNat) = bitLen N := by
  rw [limbsOf_get, UInt64.toNat_ofNat']
  have hk := length_limbsOf N
  have hN : N < 2 ^ (64 * (limbsOf N).length) := by rw [hk]; exact limbLen_le.1 (Nat.le_refl _)
  have : N / 2 ^ (64 * ((limbsOf N).length - 1)) < 2 ^ 64 := by
    rw [Nat.div_lt_iff_lt_mul (Nat.pow_pos (by decide)), ← Nat.pow_add]
    rwa [show 64 + 64 * ((limbsOf N).length - 1) = 64 * (limbsOf N).length from by omega]
  rw [Nat.mod_eq_of_lt this, bitLen_div]
  omega

theorem limbsOf_top' {N : Nat} {x : UInt64} (h : (limbsOf N)[(limbsOf N).length - 1]? = some x) : 64 * ((limbsOf N).length - 1) + bitLen x.toNat = bitLen N := by
  obtain ⟨h1, h2⟩ := List.getElem?_eq_some_iff.1 h
  rw [← h2]
  exact limbsOf_top (by omega)

/-- What has been written of so many bytes of N after k rounds. -/
def bytesSt (m N k : Nat) : List UInt8 := (bytesN m N).take k ++ List.replicate (m - k) 0
theorem length_bytesSt {m N k : Nat} (h : k ≤ m) : (bytesSt m N k).length = m := by simp [bytesSt]; omega
theorem bytesSt_succ {m N k : Nat} (h : k < m) : bytesSt m N (k + 1) = (bytesSt m N k).set k (UInt8.ofNat (N / 256 ^ (m - 1 - k))) := by
  apply List.ext_getElem
  · rw [length_bytesSt (by omega), List.length_set, length_bytesSt (by omega)]
  · intro i h1 h2
    rw [length_bytesSt (by omega)] at h1
    rw [List.getElem_set]
    by_cases hi : k = i
    · subst hi
      rw [if_pos rfl]
      simp only [bytesSt]
      rw [List.getElem_append_left (by simp; omega)]
      simp [bytesN]
    · rw [if_neg hi]
      simp only [bytesSt, List.getElem_append]
      by_cases hlt : i < k
      · simp; rw [dif_pos (by omega), dif_pos (by omega)]
      · simp; rw [dif_neg (by omega), dif_neg (by omega)]
theorem bytesSt_zero (m N : Nat) : bytesSt m N 0 = List.replicate m 0 := by simp [bytesSt]
theorem bytesSt_all (m N : Nat) : bytesSt m N m = bytesN m N := by
  simp only [bytesSt, Nat.sub_self, List.replicate_zero, List.append_nil]
  exact List.take_of_length_le (by simp)
theorem byte_of_limb {l : List UInt64} {at_ : Nat} (hq : at_ / 8 < l.length) : UInt8.ofNat (l[at_ / 8].toNat / 2 ^ (at_ % 8 * 8)) = UInt8.ofNat (v64 l / 256 ^ at_) := by
  have hlimb := limb_v64 hq
  rw [← hlimb]
  apply UInt8.toNat_inj.1
  rw [UInt8.toNat_ofNat', UInt8.toNat_ofNat']
  obtain ⟨q, r, hqr, hr⟩ : ∃ q r, at_ = 8 * q + r ∧ r < 8 := ⟨at_ / 8, at_ % 8, by omega, Nat.mod_lt _ (by decide)⟩
  have e1 : at_ / 8 = q := by omega
  have e2 : at_ % 8 = r := by omega
  rw [e1, e2, hqr, show (256 : Nat) = 2 ^ 8 from rfl, ← Nat.pow_mul, show 8 * (8 * q + r) = 64 * q + r * 8 from by omega, Nat.pow_add, ← Nat.div_div_eq_div_mul]
  generalize v64 l / 2 ^ (64 * q) = X
  have : r * 8 + 8 ≤ 64 := by omega
  rw [show (2 : Nat) ^ 64 = 2 ^ (r * 8) * 2 ^ (64 - r * 8) from by rw [← Nat.pow_add]; congr 1; omega, Nat.mod_mul_right_div_self]
  exact Nat.mod_mod_of_dvd _ (Nat.pow_dvd_pow 2 (by omega))
/-- The head of a payload of n bytes. -/
def rlpHead (base n : Nat) : List UInt8 := if n ≤ 55 then [UInt8.ofNat (base + n)] else UInt8.ofNat (base + 55 + (bytesOf n).length) :: bytesOf n
theorem v64_one (n : Nat) (h : n < 2 ^ 64) : v64 [UInt64.ofNat n] = n := by
  simp only [v64, n64, val, List.map_cons, List.map_nil, Nat.mul_zero, Nat.add_zero, UInt64.toNat_ofNat']
  exact Nat.mod_eq_of_lt h
theorem byteLen8 {n : Nat} (h : n < 2 ^ 64) : (bytesOf n).length ≤ 8 := by
  rw [length_bytesOf]; exact byteLen_le.2 (by simpa using h)

end Go.Proofs.YtnpcaplgkmlmoaaGreatDoor
/- Plain laws: words of four limbs, their bytes and bits. No condition. -/
namespace Go.Proofs.YtnpcaplgkmlmoaaGreatDoor
set_option linter.unusedVariables false
set_option linter.unusedSimpArgs false
/-- A byte is laid below what stands. -/
theorem or_low64 {a : List UInt64} {q s w x : Nat} (hq : q < a.length) (hs : v64 a % 2 ^ (64 * q + s + w) = 0) (hx : x < 2 ^ w) (hw : s + w ≤ 64) :
    v64 (a.set q (a.getD q 0 ||| UInt64.ofNat (x * 2 ^ s))) = v64 a + x * 2 ^ (64 * q + s) := by
  have hset := v64_set (a := a) (i := q) (y := a.getD q 0 ||| UInt64.ofNat (x * 2 ^ s)) hq
  have hdig := limb_v64 hq
  have hc : x * 2 ^ s < 2 ^ (s + w) := by
    rw [Nat.pow_add, Nat.mul_comm]
    exact Nat.mul_lt_mul_of_pos_left hx (Nat.pow_pos (by decide))
  have hc64 : x * 2 ^ s < 2 ^ 64 := Nat.lt_of_lt_of_le hc (Nat.pow_le_pow_right (by decide) hw)
  have hL : a[q].toNat % 2 ^ (s + w) = 0 := by
    rw [← hdig]
    obtain ⟨m, hm⟩ := Nat.dvd_of_mod_eq_zero hs
    rw [hm, show 64 * q + s + w = 64 * q + (s + w) by omega, Nat.pow_add, Nat.mul_assoc, Nat.mul_div_cancel_left _ (Nat.pow_pos (by decide)),
      show (2 : Nat) ^ 64 = 2 ^ (s + w) * 2 ^ (64 - (s + w)) from by rw [← Nat.pow_add]; congr 1; omega, Nat.mul_mod_mul_left, Nat.mul_mod_right]
  have hor : (a.getD q 0 ||| UInt64.ofNat (x * 2 ^ s)).toNat = a[q].toNat + x * 2 ^ s := by
    rw [List.getD_eq_getElem?_getD, List.getElem?_eq_getElem hq, Option.getD_some, UInt64.toNat_or, UInt64.toNat_ofNat', Nat.mod_eq_of_lt hc64, nat_join (s + w) _ _ hL hc]
  rw [hor, Nat.add_mul, Nat.mul_assoc, ← Nat.pow_add, Nat.add_comm s] at hset
  omega
theorem be_take_succD {l : List UInt8} {k : Nat} (h : k < l.length) : be (l.take (k + 1)) = be (l.take k) * 256 + (l.getD k 0).toNat := by
  rw [List.take_succ_eq_append_getElem h, be_snoc, List.getD_eq_getElem?_getD, List.getElem?_eq_getElem h]; rfl
/-- One round of word.From. -/
theorem wfrom_step {m : List UInt64} {l : List UInt8} {k : Nat} (hm : m.length = 4) (hl : l.length ≤ 32) (hk : k < l.length) (hv : v64 m = be (l.take k) * 256 ^ (l.length - k)) :
    v64 (m.set ((l.length - 1 - k) / 8) (m.getD ((l.length - 1 - k) / 8) 0 ||| UInt64.ofNat ((l.getD k 0).toNat * 2 ^ ((l.length - 1 - k) % 8 * 8)))) = be (l.take (k + 1)) * 256 ^ (l.length - (k + 1)) := by
  have hx := (l.getD k 0).toNat_lt
  have e : 64 * ((l.length - 1 - k) / 8) + (l.length - 1 - k) % 8 * 8 = 8 * (l.length - 1 - k) := by omega
  have e2 : 8 * (l.length - 1 - k) + 8 = 8 * (l.length - k) := by omega
  have p : ∀ j, (256 : Nat) ^ j = 2 ^ (8 * j) := fun j => by rw [show (256 : Nat) = 2 ^ 8 from rfl, ← Nat.pow_mul]
  rw [or_low64 (w := 8) (by omega) (by rw [hv, p, e, e2, Nat.mul_mod_left]) hx (by omega), e, hv, be_take_succD hk, Nat.add_mul, Nat.mul_assoc, ← p]
  congr 2
  · rw [show l.length - k = (l.length - (k + 1)) + 1 by omega, Nat.pow_succ, Nat.mul_comm]
  · congr 1; omega
theorem v64_take_succ {l : List UInt64} {k : Nat} (h : k < l.length) : v64 (l.take (k + 1)) = v64 (l.take k) + 2 ^ (64 * k) * (l.getD k 0).toNat := by
  rw [List.take_succ_eq_append_getElem h, v64_append, List.length_take, Nat.min_eq_left (by omega), List.getD_eq_getElem?_getD, List.getElem?_eq_getElem h]
  simp only [v64, n64, val, List.map_cons, List.map_nil, Option.getD_some, Nat.mul_zero, Nat.add_zero]
theorem v64_take_lt (l : List UInt64) (k : Nat) : v64 (l.take k) < 2 ^ (64 * k) := by
  refine Nat.lt_of_lt_of_le (v64_lt _) (Nat.pow_le_pow_right (by decide) ?_)
  have := List.length_take_le k l
  omega
theorem bitLen_join {L x k : Nat} (hL : L < 2 ^ k) (hx : x ≠ 0) : bitLen (L + 2 ^ k * x) = k + bitLen x := by
  have h1 := lt_bitLen x
  have h0 := bitLen_pos (Nat.pos_of_ne_zero hx)
  have hp : 0 < 2 ^ k := Nat.pow_pos (by decide)
  refine bitLen_eq ?_ (.inr ?_)
  · rw [Nat.pow_add]
    have : 2 ^ k * (x + 1) ≤ 2 ^ k * 2 ^ bitLen x := Nat.mul_le_mul_left _ h1
    rw [Nat.mul_add, Nat.mul_one] at this
    omega
  · have h2 : 2 ^ (bitLen x - 1) ≤ x := by
      rcases Nat.lt_or_ge x (2 ^ (bitLen x - 1)) with h | h
      · have := bitLen_le.2 h; omega
      · exact h
    rw [show k + bitLen x - 1 = k + (bitLen x - 1) by omega, Nat.pow_add]
    have := Nat.mul_le_mul_left (2 ^ k) h2
    omega
/-- The highest limb that is not naught tells the bits. -/
theorem bits_at {l : List UInt64} {k : Nat} (h : k < l.length) (hx : (l.getD k 0).toNat ≠ 0) (hv : v64 l = v64 (l.take (k + 1))) : bitLen (v64 l) = 64 * k + bitLen (l.getD k 0).toNat := by
  rw [hv, v64_take_succ h, bitLen_join (v64_take_lt l k) hx]
theorem v64_take_zero {l : List UInt64} {k : Nat} (h : k < l.length) (hx : (l.getD k 0).toNat = 0) (hv : v64 l = v64 (l.take (k + 1))) : v64 l = v64 (l.take k) := by
  rw [hv, v64_take_succ h, hx, Nat.mul_zero, Nat.add_zero]
theorem be_bytes32 {N : Nat} (h : N < 2 ^ 256) : be (bytesN 32 N) = N := by rw [be_bytesN]; exact Nat.mod_eq_of_lt (by simpa using h)
theorem bytesN_drop {n k N : Nat} (hk : k ≤ n) (h : N < 256 ^ k) : (bytesN n N).drop (n - k) = bytesN k N := by
  apply List.ext_getElem
  · rw [List.length_drop, length_bytesN, length_bytesN]; omega
  · intro i h1 h2
    rw [length_bytesN] at h2
    rw [List.getElem_drop]
    simp only [bytesN, List.getElem_map, List.getElem_range]
    congr 3
    omega
theorem bytes_drop32 {N : Nat} (h : N < 2 ^ 256) : (bytesN 32 N).drop (32 - (bitLen N + 7) / 8) = bytesOf N := by
  have h1 : (bitLen N + 7) / 8 ≤ 32 := byteLen_le.2 (by simpa using h)
  exact bytesN_drop h1 (byteLen_le.1 (Nat.le_refl _))
theorem v64_four_lt (a b c d : UInt64) : v64 [a, b, c, d] < 2 ^ 256 := v64_lt [a, b, c, d]
theorem bytesN_take_succ {n N k : Nat} (h : k < n) : (bytesN n N).take (k + 1) = (bytesN n N).take k ++ [UInt8.ofNat (N / 256 ^ (n - 1 - k))] := by
  rw [List.take_succ_eq_append_getElem (by rw [length_bytesN]; exact h)]
  simp [bytesN]
end Go.Proofs.YtnpcaplgkmlmoaaGreatDoor
/- Plain laws: sums, differences and products of numbers in limbs, limb by limb. No condition. -/
namespace Go.Proofs.YtnpcaplgkmlmoaaGreatDoor
set_option linter.unusedVariables false
set_option linter.unusedSimpArgs false
theorem v64_snoc (w : List UInt64) (x : UInt64) : v64 (w ++ [x]) = v64 w + 2 ^ (64 * w.length) * x.toNat := by
  rw [v64_append]
  simp only [v64, n64, val, List.map_cons, List.map_nil, Nat.mul_zero, Nat.add_zero]
theorem v64_take_all {l : List UInt64} {k : Nat} (h : l.length ≤ k) : v64 (l.take k) = v64 l := by rw [List.take_of_length_le h]
theorem v64_take_succD (l : List UInt64) (k : Nat) : v64 (l.take (k + 1)) = v64 (l.take k) + 2 ^ (64 * k) * (l.getD k 0).toNat := by
  rcases Nat.lt_or_ge k l.length with h | h
  · exact v64_take_succ h
  · rw [v64_take_all h, v64_take_all (by omega), List.getD_eq_getElem?_getD, List.getElem?_eq_none h]
    simp
theorem set_mid {α : Type} {A B : List α} {x y : α} {j : Nat} (h : A.length = j) : (A ++ x :: B).set j y = (A ++ [y]) ++ B := by
  subst h; simp
theorem set_fill {α : Type} {w : List α} {k L : Nat} {z y : α} (hw : w.length = k) (h : k < L) : (w ++ List.replicate (L - k) z).set k y = (w ++ [y]) ++ List.replicate (L - (k + 1)) z := by
  rw [show L - k = (L - (k + 1)) + 1 by omega, List.replicate_succ, set_mid hw]
theorem getD_mid {α : Type} {A B : List α} {x z : α} {j : Nat} (h : A.length = j) : (A ++ x :: B).getD j z = x := by
  subst h; simp
theorem pow64 (k : Nat) : (2 : Nat) ^ (64 * (k + 1)) = 2 ^ (64 * k) * 18446744073709551616 := by rw [show 64 * (k + 1) = 64 * k + 64 by omega, Nat.pow_add]
theorem add_round {w a b : List UInt64} {k : Nat} {c : UInt64} (hw : w.length = k) (hc : c.toNat ≤ 1) (hv : v64 w + c.toNat * 2 ^ (64 * k) = v64 (a.take k) + v64 (b.take k)) :
    v64 (w ++ [addS (a.getD k 0) (b.getD k 0) c]) + (addC (a.getD k 0) (b.getD k 0) c).toNat * 2 ^ (64 * (k + 1)) = v64 (a.take (k + 1)) + v64 (b.take (k + 1)) := by
  have h := (add64_law (a.getD k 0) (b.getD k 0) c hc).1
  rw [v64_snoc, hw, v64_take_succD, v64_take_succD, pow64]
  have h2 := congrArg (2 ^ (64 * k) * ·) h
  simp only [Nat.mul_add] at h2
  generalize (addS (a.getD k 0) (b.getD k 0) c).toNat = s at *
  generalize (addC (a.getD k 0) (b.getD k 0) c).toNat = t at *
  have e : t * (2 ^ (64 * k) * 18446744073709551616) = 2 ^ (64 * k) * (t * 2 ^ 64) := by rw [Nat.mul_left_comm]
  rw [e]
  rw [Nat.mul_comm c.toNat] at hv
  omega
theorem sub_round {w a b : List UInt64} {k : Nat} {c : UInt64} (hw : w.length = k) (hc : c.toNat ≤ 1) (hv : v64 w + v64 (b.take k) = v64 (a.take k) + c.toNat * 2 ^ (64 * k)) :
    v64 (w ++ [subS (a.getD k 0) (b.getD k 0) c]) + v64 (b.take (k + 1)) = v64 (a.take (k + 1)) + (subC (a.getD k 0) (b.getD k 0) c).toNat * 2 ^ (64 * (k + 1)) := by
  have h := (sub64_law (a.getD k 0) (b.getD k 0) c hc).1
  rw [v64_snoc, hw, v64_take_succD, v64_take_succD, pow64]
  have h2 := congrArg (2 ^ (64 * k) * ·) h
  simp only [Nat.mul_add] at h2
  generalize (subS (a.getD k 0) (b.getD k 0) c).toNat = s at *
  generalize (subC (a.getD k 0) (b.getD k 0) c).toNat = t at *
  have e : t * (2 ^ (64 * k) * 18446744073709551616) = 2 ^ (64 * k) * (t * 2 ^ 64) := by rw [Nat.mul_left_comm]
  rw [e]
  rw [Nat.mul_comm c.toNat] at hv
  omega
theorem mul_le64 (x y : UInt64) : x.toNat * y.toNat ≤ 340282366920938463426481119284349108225 :=
  Nat.mul_le_mul (show x.toNat ≤ 18446744073709551615 by have := x.toNat_lt; omega) (show y.toNat ≤ 18446744073709551615 by have := y.toNat_lt; omega)
theorem cell_nat {P H l s1 c1 s2 c2 z c : Nat} (h1 : s1 + c1 * 2 ^ 64 = l + z) (h2 : s2 + c2 * 2 ^ 64 = s1 + c) (h3 : H * 2 ^ 64 + l = P) (h4 : P ≤ 340282366920938463426481119284349108225) (hz : z < 2 ^ 64) (hc : c < 2 ^ 64) :
    s2 + ((H + c1) % 2 ^ 64 + c2) % 2 ^ 64 * 2 ^ 64 = P + z + c := by
  have e : s2 + (H + c1 + c2) * 2 ^ 64 = P + z + c := by rw [Nat.add_mul, Nat.add_mul]; exact Nat.le_antisymm (by omega) (by omega)
  have b : H + c1 + c2 < 2 ^ 64 := by omega
  rw [Nat.mod_eq_of_lt (show H + c1 < 2 ^ 64 by omega), Nat.mod_eq_of_lt b, e]
theorem cell_nat0 {P H l s1 c1 z : Nat} (h1 : s1 + c1 * 2 ^ 64 = l + z) (h3 : H * 2 ^ 64 + l = P) (h4 : P ≤ 340282366920938463426481119284349108225) (hz : z < 2 ^ 64) :
    s1 + ((H + c1) % 2 ^ 64) * 2 ^ 64 = P + z := by
  have e : s1 + (H + c1) * 2 ^ 64 = P + z := by rw [Nat.add_mul]; exact Nat.le_antisymm (by omega) (by omega)
  rw [Nat.mod_eq_of_lt (show H + c1 < 2 ^ 64 by omega), e]
theorem mul_cell (x y z c : UInt64) : (addS (addS (x * y) z 0) c 0).toNat + (mulH x y + addC (x * y) z 0 + addC (addS (x * y) z 0) c 0).toNat * 2 ^ 64 = x.toNat * y.toNat + z.toNat + c.toNat := by
  obtain ⟨h1, k1⟩ := add64_law (x * y) z 0 (by decide)
  obtain ⟨h2, k2⟩ := add64_law (addS (x * y) z 0) c 0 (by decide)
  rw [UInt64.toNat_add, UInt64.toNat_add]
  exact cell_nat h1 h2 (mul64_law x y) (mul_le64 x y) z.toNat_lt c.toNat_lt
/-- The same without what stood there. -/
theorem mul_cell0 (x y c : UInt64) : (addS (x * y) c 0).toNat + (mulH x y + addC (x * y) c 0).toNat * 2 ^ 64 = x.toNat * y.toNat + c.toNat := by
  obtain ⟨h1, k1⟩ := add64_law (x * y) c 0 (by decide)
  rw [UInt64.toNat_add]
  exact cell_nat0 h1 (mul64_law x y) (mul_le64 x y) c.toNat_lt
theorem v64_setD {p : List UInt64} {j : Nat} {y : UInt64} (h : j < p.length) : v64 (p.set j y) + (p.getD j 0).toNat * 2 ^ (64 * j) = v64 p + y.toNat * 2 ^ (64 * j) := by
  have := v64_set (y := y) h
  rwa [List.getD_eq_getElem?_getD, List.getElem?_eq_getElem h]
theorem mul_round {p b : List UInt64} {i k V : Nat} {x c : UInt64} (hj : i + k < p.length) (hv : v64 p + c.toNat * 2 ^ (64 * (i + k)) = V + 2 ^ (64 * i) * (x.toNat * v64 (b.take k))) :
    v64 (p.set (i + k) (addS (addS (x * b.getD k 0) (p.getD (i + k) 0) 0) c 0)) + (mulH x (b.getD k 0) + addC (x * b.getD k 0) (p.getD (i + k) 0) 0 + addC (addS (x * b.getD k 0) (p.getD (i + k) 0) 0) c 0).toNat * 2 ^ (64 * (i + (k + 1))) =
      V + 2 ^ (64 * i) * (x.toNat * v64 (b.take (k + 1))) := by
  have h := mul_cell x (b.getD k 0) (p.getD (i + k) 0) c
  generalize hs : addS (addS (x * b.getD k 0) (p.getD (i + k) 0) 0) c 0 = s at *
  generalize hm : (mulH x (b.getD k 0) + addC (x * b.getD k 0) (p.getD (i + k) 0) 0 + addC (addS (x * b.getD k 0) (p.getD (i + k) 0) 0) c 0).toNat = m at *
  have h1 := v64_setD (y := s) hj
  have eE : 2 ^ (64 * i) * 2 ^ (64 * k) = 2 ^ (64 * (i + k)) := by rw [← Nat.pow_add, Nat.mul_add]
  rw [v64_take_succD, ← Nat.add_assoc, pow64]
  have e1 : 2 ^ (64 * i) * (x.toNat * (v64 (b.take k) + 2 ^ (64 * k) * (b.getD k 0).toNat)) = 2 ^ (64 * i) * (x.toNat * v64 (b.take k)) + 2 ^ (64 * (i + k)) * (x.toNat * (b.getD k 0).toNat) := by
    rw [← eE, Nat.mul_add, Nat.mul_add, Nat.mul_left_comm x.toNat, ← Nat.mul_assoc _ (2 ^ (64 * k))]
  rw [e1]
  generalize 2 ^ (64 * (i + k)) = T at *
  have h2 := congrArg (T * ·) h
  simp only [Nat.mul_add] at h2
  have e2 : m * (T * 18446744073709551616) = T * (m * 2 ^ 64) := by rw [Nat.mul_left_comm]
  rw [e2]
  rw [Nat.mul_comm c.toNat] at hv
  rw [Nat.mul_comm (p.getD (i + k) 0).toNat, Nat.mul_comm s.toNat] at h1
  omega
theorem mul_outer {p a b : List UInt64} {i : Nat} {c : UInt64} (hp : p.length = i + b.length) (hv : v64 p + c.toNat * 2 ^ (64 * (i + b.length)) = v64 (a.take i) * v64 b + 2 ^ (64 * i) * ((a.getD i 0).toNat * v64 (b.take b.length))) :
    v64 (p ++ [c]) = v64 (a.take (i + 1)) * v64 b := by
  rw [v64_snoc, hp, v64_take_succD, Nat.add_mul, Nat.mul_assoc, Nat.mul_comm _ c.toNat, hv, List.take_length]
/-- One round of q times v taken away. -/
theorem step_round {w u v : List UInt64} {k : Nat} {q cy bw : UInt64} (hw : w.length = k) (hb : bw.toNat ≤ 1) (hv : v64 w + q.toNat * v64 (v.take k) = v64 (u.take k) + (cy.toNat + bw.toNat) * 2 ^ (64 * k)) :
    v64 (w ++ [subS (u.getD k 0) (addS (q * v.getD k 0) cy 0) bw]) + q.toNat * v64 (v.take (k + 1)) = v64 (u.take (k + 1)) + ((mulH q (v.getD k 0) + addC (q * v.getD k 0) cy 0).toNat + (subC (u.getD k 0) (addS (q * v.getD k 0) cy 0) bw).toNat) * 2 ^ (64 * (k + 1)) := by
  have h1 := mul_cell0 q (v.getD k 0) cy
  obtain ⟨h2, h3⟩ := sub64_law (u.getD k 0) (addS (q * v.getD k 0) cy 0) bw hb
  generalize addS (q * v.getD k 0) cy 0 = l at *
  generalize (mulH q (v.getD k 0) + addC (q * v.getD k 0) cy 0).toNat = m at *
  generalize (subS (u.getD k 0) l bw) = d at *
  generalize (subC (u.getD k 0) l bw).toNat = t at *
  have h4 := congrArg (2 ^ (64 * k) * ·) h1
  have h5 := congrArg (2 ^ (64 * k) * ·) h2
  simp only [Nat.mul_add] at h4 h5
  rw [v64_snoc, hw, v64_take_succD, v64_take_succD, pow64, Nat.mul_add, Nat.add_mul]
  have e1 : q.toNat * (2 ^ (64 * k) * (v.getD k 0).toNat) = 2 ^ (64 * k) * (q.toNat * (v.getD k 0).toNat) := Nat.mul_left_comm ..
  have e2 : m * (2 ^ (64 * k) * 18446744073709551616) = 2 ^ (64 * k) * (m * 2 ^ 64) := by rw [Nat.mul_left_comm]
  have e3 : t * (2 ^ (64 * k) * 18446744073709551616) = 2 ^ (64 * k) * (t * 2 ^ 64) := by rw [Nat.mul_left_comm]
  rw [e1, e2, e3]
  rw [Nat.add_mul, Nat.mul_comm cy.toNat, Nat.mul_comm bw.toNat] at hv
  omega
theorem step_last {w u v : List UInt64} {k : Nat} {q cy bw : UInt64} (hw : w.length = k) (hb : bw.toNat ≤ 1) (hv : v64 w + q.toNat * v64 v = v64 (u.take k) + (cy.toNat + bw.toNat) * 2 ^ (64 * k)) (hu : u.length = k + 1) :
    v64 (w ++ [subS (u.getD k 0) cy bw]) + q.toNat * v64 v = v64 u + (subC (u.getD k 0) cy bw).toNat * 2 ^ (64 * (k + 1)) := by
  obtain ⟨h2, h3⟩ := sub64_law (u.getD k 0) cy bw hb
  generalize (subS (u.getD k 0) cy bw) = d at *
  generalize (subC (u.getD k 0) cy bw).toNat = t at *
  have h5 := congrArg (2 ^ (64 * k) * ·) h2
  simp only [Nat.mul_add] at h5
  have hu2 : v64 u = v64 (u.take (k + 1)) := by rw [v64_take_all (by omega)]
  rw [v64_snoc, hw, hu2, v64_take_succD, pow64]
  have e3 : t * (2 ^ (64 * k) * 18446744073709551616) = 2 ^ (64 * k) * (t * 2 ^ 64) := by rw [Nat.mul_left_comm]
  rw [e3]
  rw [Nat.add_mul, Nat.mul_comm cy.toNat, Nat.mul_comm bw.toNat] at hv
  omega
/-! Shifts: two limbs that lie side by side give one. -/
theorem shl64_nat (x : UInt64) (s : Nat) : (shl64 x s).toNat = x.toNat * 2 ^ s % 2 ^ 64 := by rw [shl64, UInt64.toNat_ofNat']
theorem shr64_nat (x : UInt64) (s : Nat) : (shr64 x s).toNat = x.toNat / 2 ^ s := by
  rw [shr64, UInt64.toNat_ofNat', Nat.mod_eq_of_lt (Nat.lt_of_le_of_lt (Nat.div_le_self _ _) x.toNat_lt)]
theorem limb_mid {x y : UInt64} {W r : Nat} (hr : r ≤ 64) (hy : W % 2 ^ 64 = y.toNat) : (x.toNat + 2 ^ 64 * W) / 2 ^ r % 2 ^ 64 = (shr64 x r ||| shl64 y (64 - r)).toNat := by
  have hx := x.toNat_lt
  rw [UInt64.toNat_or, shr64_nat, shl64_nat, ← hy]
  have e1 : (2 : Nat) ^ 64 = 2 ^ r * 2 ^ (64 - r) := by rw [← Nat.pow_add]; congr 1; omega
  have hp : 0 < 2 ^ r := Nat.pow_pos (by decide)
  have e2 : (x.toNat + 2 ^ 64 * W) / 2 ^ r = x.toNat / 2 ^ r + 2 ^ (64 - r) * W := by
    rw [e1, Nat.mul_assoc, Nat.add_mul_div_left _ _ hp]
  have e3 : W % 2 ^ 64 * 2 ^ (64 - r) % 2 ^ 64 = W % 2 ^ r * 2 ^ (64 - r) := by
    have : W % 2 ^ 64 * 2 ^ (64 - r) % 2 ^ 64 = W % 2 ^ 64 * 2 ^ (64 - r) % (2 ^ r * 2 ^ (64 - r)) := by rw [← e1]
    rw [this, Nat.mul_mod_mul_right, Nat.mod_mod_of_dvd _ (Nat.pow_dvd_pow 2 hr)]
  have e4 : 2 ^ (64 - r) * W % 2 ^ 64 = W % 2 ^ r * 2 ^ (64 - r) := by
    have : 2 ^ (64 - r) * W % 2 ^ 64 = W * 2 ^ (64 - r) % (2 ^ r * 2 ^ (64 - r)) := by rw [← e1, Nat.mul_comm]
    rw [this, Nat.mul_mod_mul_right]
  have hlt : x.toNat / 2 ^ r < 2 ^ (64 - r) := by
    rw [Nat.div_lt_iff_lt_mul hp, ← Nat.pow_add, show 64 - r + r = 64 by omega]; exact hx
  have hsum : x.toNat / 2 ^ r + W % 2 ^ r * 2 ^ (64 - r) < 2 ^ 64 := by
    have h1 : W % 2 ^ r + 1 ≤ 2 ^ r := Nat.mod_lt _ hp
    have h2 := Nat.mul_le_mul_right (2 ^ (64 - r)) h1
    rw [← e1, Nat.add_mul] at h2
    omega
  rw [e2, e3, Nat.add_mod, e4, Nat.mod_eq_of_lt (Nat.lt_of_le_of_lt (Nat.div_le_self _ _) hx), Nat.mod_eq_of_lt hsum]
  rw [Nat.or_comm, Nat.mul_comm (W % 2 ^ r)]
  rw [Nat.add_comm, Nat.two_pow_add_eq_or_of_lt hlt]
end Go.Proofs.YtnpcaplgkmlmoaaGreatDoor
/- limb.Trim: a number without zeros at its upper end. No condition. -/
namespace Go.Proofs.YtnpcaplgkmlmoaaGreatDoor
set_option linter.unusedVariables false
set_option linter.unusedSimpArgs false
open Go Go.RowKit
theorem u64_zero {x : UInt64} (h : (x.toNat : Int) = 0) : x = 0 := by rw [← UInt64.toNat_inj]; simpa using h
theorem trim_len {l : List UInt64} {k : Nat} (hk : k ≤ l.length) (hz : ∀ i, k ≤ i → l.getD i 0 = 0) (hl : k = 0 ∨ (0 < k ∧ l.getD (k - 1) 0 ≠ 0)) : l.take k = limbsOf (v64 l) ∧ (limbsOf (v64 l)).length = k := by
  have h1 : l.take k = limbsOf (v64 l) := trim_eq hk (fun i h hki => by
    have := hz i hki
    rwa [List.getD_eq_getElem?_getD, List.getElem?_eq_getElem h] at this) (by
    rcases hl with h | ⟨h0, h⟩
    · exact .inl h
    · refine .inr ⟨by omega, ?_⟩
      rwa [List.getD_eq_getElem?_getD, List.getElem?_eq_getElem (by omega)] at h)
  exact ⟨h1, by rw [← h1, List.length_take]; omega⟩
theorem Trim_f {N : Heaplet} {ao : Option Addr} {n cap : Nat} {l : List UInt64} (h : RSl N 1 ao n cap (u64s l)) :
    Fn Tryz.prog 91 #[.slice ao n cap] [] [N] (fun v L => v = .slice ao (limbsOf (v64 l)).length (limbsOf (v64 l)).length ∧ L = [] ∧ l.take (limbsOf (v64 l)).length = limbsOf (v64 l) ∧ (limbsOf (v64 l)).length ≤ n) := by
  have hlen : l.length = n := by simpa using h.len
  have hcap := h.2.1
  have hmax := h.2.2.1
  unfold maxLen at hmax
  refine Fn.enter (vs := [.slice ao n cap]) Tryz.func91 rfl rfl rfl ?_
  intro E R hR
  have h := h.le (hR N (by simp))
  change At _ _ E [R] _
  refine At.seq fun K1 hk_1 => ?_
  refine At.region ?_
  refine op_assign (nxlf rfl) rfl rfl ?_
  refine At.opsNil ?_
  refine At.norm (hk_1 ?_)
  refine At.seq fun K2 hk_2 => ?_
  refine At.region ?_
  refine op_move (nxlf rfl) rfl rfl ?_
  refine op_lenS (nxlf rfl) se111 rfl rfl ?_
  refine op_assign (nxlf rfl) rfl rfl ?_
  refine At.opsNil ?_
  refine At.norm (hk_2 ?_)
  refine At.seq fun K3 hk_3 => ?_
  refine At.block ?_
  refine At.loop (fun fr_ hp_ ms_ => ∃ (k : Nat), fr_ = [(0, .slice ao n cap), (3, .int .i64 (k : Int))] ∧ hp_ = [R] ∧ k = ms_ ∧ (k ≤ n) ∧ (∀ i, k ≤ i → l.getD i 0 = 0)) ?_ (.refl _) ⟨n, rfl, rfl, rfl, Nat.le_refl _, fun i hi => by rw [List.getD_eq_getElem?_getD, List.getElem?_eq_none (by omega)]; rfl⟩ ?_
  · exact .cons (by first | exact lkI rfl (by omega) | rfl) (.cons (by first | exact lkI rfl (by omega) | rfl) .nil)
  rintro _ _ _ ⟨k, rfl, rfl, rfl, hk, hz⟩
  refine At.seq fun K4 hk_4 => ?_
  refine At.seq fun K5 hk_5 => ?_
  refine At.region ?_
  refine op_move (nxlf rfl) rfl rfl ?_
  refine op_gtr (nxlf rfl) rfl rfl rfl ?_
  refine op_move (nxlf rfl) rfl rfl ?_
  refine At.partP (d := 8) rfl (fun g8 => ?_) (fun g8 => ?_)
  · refine op_move (nxgf rfl rfl rfl rfl) rfl rfl ?_
    refine op_move (nxgf rfl rfl rfl rfl) rfl rfl ?_
    refine op_subI (nxgf rfl rfl rfl rfl) rfl rfl (by omega) (by omega) rfl ?_
    refine op_idx1 (nxgf rfl rfl rfl rfl) se111 rfl rfl (by assumption) (show _ = (((k - 1 : Nat)) : Int) from by omega) (by omega) rfl ?_
    refine op_loadE (nxgf rfl rfl rfl rfl) sc23 rfl (by assumption) (by first | exact get8 (by omega) | exact get64 (by omega) | exact get32 (by omega)) (by first | exact mem0 | exact mem1 | exact mem2 | exact mem3 | exact mem4 | exact mem5 | exact mem6 | exact mem7 | exact mem8 | exact mem9) rfl ?_
    refine op_eql (nxgf rfl rfl rfl rfl) rfl rfl rfl ?_
    refine op_pickT (nxlf rfl) rfl rfl rfl ?_
    refine At.opsNil ?_
    refine At.norm (hk_5 ?_)
    refine At.condP rfl (fun c15 => ?_) (fun c15 => ?_)
    · refine At.skip ?_
      refine At.norm (hk_4 ?_)
      refine At.block ?_
      refine At.region ?_
      refine op_move (nxlf rfl) rfl rfl ?_
      refine op_subI (nxlf rfl) rfl rfl (by omega) (by omega) rfl ?_
      refine op_assign (nxlf rfl) rfl rfl ?_
      refine At.opsNil ?_
      refine At.inNorm ?_
      refine At.norm ?_
      refine At.back ?_ (.refl _) ⟨k - 1, rfl, rfl, rfl, by omega, fun i hi => by rcases Nat.lt_or_ge i k with h | h; (rw [show i = k - 1 by omega]; exact u64_zero c15); exact hz i h⟩ ?_
      · exact .cons (by first | exact lkI rfl (by omega) | rfl) (.cons (by first | exact lkI rfl (by omega) | rfl) .nil)
      · omega
    · refine At.exit (At.thenExit (At.thenExit (At.inHit ?_)))
      refine At.norm (hk_3 ?_)
      refine At.seq fun K6 hk_6 => ?_
      refine At.region ?_
      refine op_move (nxlf rfl) rfl rfl ?_
      refine op_move (nxlf rfl) rfl rfl ?_
      refine op_move (nxlf rfl) rfl rfl ?_
      refine op_slice0 (nxlf rfl) se111 rfl (.some rfl (show _ = (((k : Nat)) : Int) from by omega)) (.some rfl (show _ = (((k : Nat)) : Int) from by omega)) (by omega) (by omega) (by simp) rfl ?_
      refine op_assign (nxlf rfl) rfl rfl ?_
      refine At.opsNil ?_
      refine At.norm (hk_6 ?_)
      refine At.ret (?_)
      refine At.ret1 (L1 := []) rfl (.tmp rfl .nil) (.refl _) (.refl _) ?_
      have ⟨e1, e2⟩ := trim_len (by omega) hz (.inr ⟨by omega, fun e => c15 (by rw [e]; rfl)⟩); rw [e2]; exact ⟨rfl, rfl, e1, hk⟩
  · refine op_skip rfl rfl rfl rfl rfl rfl rfl ?_
    refine op_skip rfl rfl rfl rfl rfl rfl rfl ?_
    refine op_skip rfl rfl rfl rfl rfl rfl rfl ?_
    refine op_skip rfl rfl rfl rfl rfl rfl rfl ?_
    refine op_skip rfl rfl rfl rfl rfl rfl rfl ?_
    refine op_skip rfl rfl rfl rfl rfl rfl rfl ?_
    refine op_pickF (nxlf rfl) rfl rfl rfl ?_
    refine At.opsNil ?_
    refine At.norm (hk_5 ?_)
    refine At.condF rfl ?_
    refine At.exit (At.thenExit (At.thenExit (At.inHit ?_)))
    refine At.norm (hk_3 ?_)
    refine At.seq fun K7 hk_7 => ?_
    refine At.region ?_
    refine op_move (nxlf rfl) rfl rfl ?_
    refine op_move (nxlf rfl) rfl rfl ?_
    refine op_move (nxlf rfl) rfl rfl ?_
    refine op_slice0 (nxlf rfl) se111 rfl (.some rfl (show _ = (((k : Nat)) : Int) from by omega)) (.some rfl (show _ = (((k : Nat)) : Int) from by omega)) (by omega) (by omega) (by simp) rfl ?_
    refine op_assign (nxlf rfl) rfl rfl ?_
    refine At.opsNil ?_
    refine At.norm (hk_7 ?_)
    refine At.ret (?_)
    refine At.ret1 (L1 := []) rfl (.tmp rfl .nil) (.refl _) (.refl _) ?_
    have ⟨e1, e2⟩ := trim_len (by omega) hz (.inl (by omega)); rw [e2]; exact ⟨rfl, rfl, e1, hk⟩
end Go.Proofs.YtnpcaplgkmlmoaaGreatDoor
/- limb.From: the number of bytes. No condition. -/
namespace Go.Proofs.YtnpcaplgkmlmoaaGreatDoor
set_option linter.unusedVariables false
set_option linter.unusedSimpArgs false
open Go Go.RowKit
end Go.Proofs.YtnpcaplgkmlmoaaGreatDoor
