/- Several texts in one: see the remarks ahead of each part. No condition but those told there. -/
import Derived.Test.YtdplcfineaikjaaDoorB4
import Derived.Test.YtdplcfineaikjaaDoorB5
import Derived.Shelf.Strings.FieldsFuncAny
import Derived.Test.YtdplcfineaikjaaDoorProg
import Derived.Test.YtdplcfineaikjaaDoorB2
/- hexa.value, hexa.fault: a rune as a hex digit. No condition. -/
namespace Go.Proofs.YtdplcfineaikjaaDoor
set_option linter.unusedVariables false
set_option linter.unusedSimpArgs false
open Go Go.RowKit
theorem FToLow_f {r : Nat} (h : 65 ≤ r) (h2 : r ≤ 70) : Fn Tryd.prog 91 #[.int .i32 (r : Int)] [] [] (fun v L => v = .int .i32 ((r + 32 : Nat) : Int) ∧ L = []) := by
  refine Fn.of_same0 fun w => ?_
  have := Tryd.unicode_ToLower (r : Int) w (by omega)
  rw [Lib.toLowerR, if_pos (by omega)] at this
  exact this
/-- A digit's place among the digits. -/
def digI (r : Nat) : Int := Lib.indexByte hexD (UInt8.ofNat r)
def hexI (r : Nat) : Int := match hexV r with | some v => (v : Int) | none => -1
theorem digI_all : ∀ r, r < 128 → (65 ≤ r ∧ r ≤ 70 ∨ digI r = hexI r) := by decide +kernel
theorem digI_low : ∀ r, r < 128 → 65 ≤ r → r ≤ 70 → digI (r + 32) = ((r - 55 : Nat) : Int) := by decide +kernel
theorem digI_some {r v : Nat} (hr : r < 128) (h0 : ¬ (65 ≤ r ∧ r ≤ 70)) (h : hexV r = some v) : digI r = (v : Int) := by
  have := (digI_all r hr).resolve_left h0
  rw [hexI, h] at this; exact this
theorem digI_none {r : Nat} (hr : r < 128) (h0 : ¬ (65 ≤ r ∧ r ≤ 70)) (h : hexV r = none) : digI r = -1 := by
  have := (digI_all r hr).resolve_left h0
  rw [hexI, h] at this; exact this
theorem FIdx_a {r : Nat} (h : r < 128) : Fn Tryd.prog 92 #[str hexD, .int .i32 (r : Int)] [] [] (fun v L => v = .int .i64 (digI r) ∧ L = []) := by
  refine Fn.of_same0 fun w => ?_
  have := Tryd.strings_IndexRune_ascii ⟨hexD.toArray⟩ (r : Int) w (by omega) (by omega)
  rw [show (⟨hexD.toArray⟩ : ByteArray).data.toList = hexD from rfl] at this
  exact this
theorem noByte : ∀ k : Nat, k < 5 → ∀ c : Nat, c < 256 → 128 ≤ c → Lib.indexByte (hexD.drop k) (UInt8.ofNat c) = -1 := by decide +kernel
theorem FIdxB_f {k : Nat} (hk : k < 5) {c : UInt8} (h : 128 ≤ c.toNat) : Fn Tryd.prog 98 #[str (hexD.drop k), .int .u8 (c.toNat : Int)] [] [] (fun v L => v = .int .i64 (-1) ∧ L = []) := by
  refine Fn.of_same0 fun w => ?_
  have := Tryd.strings_IndexByte ⟨(hexD.drop k).toArray⟩ (c.toNat : Int) w
  rw [show (⟨(hexD.drop k).toArray⟩ : ByteArray).data.toList = hexD.drop k from rfl, show ((c.toNat : Int)).toNat.toUInt8 = UInt8.ofNat c.toNat from rfl, noByte k hk c.toNat c.toNat_lt h] at this
  exact this
theorem FValid_f {r : Nat} (h : RuneOk r) : Fn Tryd.prog 99 #[.int .i32 (r : Int)] [] [] (fun v L => v = .bool true ∧ L = []) := by
  unfold RuneOk at h
  refine Fn.enter (vs := [.int .i32 (r : Int)]) Tryd.func99 rfl rfl rfl ?_
  intro E R hR
  change At _ _ E [R] _
  refine At.seq fun K1 hk_1 => ?_
  refine At.region ?_
  refine op_assign (nxlf rfl) rfl rfl ?_
  refine At.opsNil ?_
  refine At.norm (hk_1 ?_)
  refine At.seq fun K2 hk_2 => ?_
  refine At.block ?_
  refine At.seq fun K3 hk_3 => ?_
  refine At.region ?_
  refine op_move (nxlf rfl) rfl rfl ?_
  refine op_leq (nxlf rfl) rfl rfl rfl ?_
  refine op_move (nxlf rfl) rfl rfl ?_
  refine At.partP (d := 6) rfl (fun g6 => ?_) (fun g6 => ?_)
  · refine op_move (nxgf rfl rfl rfl rfl) rfl rfl ?_
    refine op_lss (nxgf rfl rfl rfl rfl) rfl rfl rfl ?_
    refine op_pickT (nxlf rfl) rfl rfl rfl ?_
    refine op_assign (nxlf rfl) rfl rfl ?_
    refine At.opsNil ?_
    refine At.norm (hk_3 ?_)
    refine At.condP rfl (fun c3 => ?_) (fun c3 => ?_)
    · refine At.seq fun K4 hk_4 => ?_
      refine At.region ?_
      refine op_assign (nxlf rfl) rfl rfl ?_
      refine At.opsNil ?_
      refine At.norm (hk_4 ?_)
      refine At.ret (At.inRet (At.thenRet (?_)))
      refine At.ret1 (L1 := []) rfl (.tmp rfl .nil) (.refl _) (.refl _) ?_
      first
        | exact ⟨rfl, rfl⟩
        | (exfalso; omega)
    · refine At.seq fun K5 hk_5 => ?_
      refine At.region ?_
      refine op_move (nxlf rfl) rfl rfl ?_
      refine op_lss (nxlf rfl) rfl rfl rfl ?_
      refine op_move (nxlf rfl) rfl rfl ?_
      refine At.partP (d := 13) rfl (fun g13 => ?_) (fun g13 => ?_)
      · refine op_move (nxgf rfl rfl rfl rfl) rfl rfl ?_
        refine op_leq (nxgf rfl rfl rfl rfl) rfl rfl rfl ?_
        refine op_pickT (nxlf rfl) rfl rfl rfl ?_
        refine op_assign (nxlf rfl) rfl rfl ?_
        refine At.opsNil ?_
        refine At.norm (hk_5 ?_)
        refine At.condP rfl (fun c10 => ?_) (fun c10 => ?_)
        · refine At.seq fun K6 hk_6 => ?_
          refine At.region ?_
          refine op_assign (nxlf rfl) rfl rfl ?_
          refine At.opsNil ?_
          refine At.norm (hk_6 ?_)
          refine At.ret (At.inRet (At.thenRet (?_)))
          refine At.ret1 (L1 := []) rfl (.tmp rfl .nil) (.refl _) (.refl _) ?_
          first
            | exact ⟨rfl, rfl⟩
            | (exfalso; omega)
        · refine At.skip ?_
          refine At.inNorm ?_
          refine At.norm (hk_2 ?_)
          refine At.seq fun K7 hk_7 => ?_
          refine At.region ?_
          refine op_assign (nxlf rfl) rfl rfl ?_
          refine At.opsNil ?_
          refine At.norm (hk_7 ?_)
          refine At.ret (?_)
          refine At.ret1 (L1 := []) rfl (.tmp rfl .nil) (.refl _) (.refl _) ?_
          first
            | exact ⟨rfl, rfl⟩
            | (exfalso; omega)
      · refine op_skip rfl rfl rfl rfl rfl rfl rfl ?_
        refine op_skip rfl rfl rfl rfl rfl rfl rfl ?_
        refine op_pickF (nxlf rfl) rfl rfl rfl ?_
        refine op_assign (nxlf rfl) rfl rfl ?_
        refine At.opsNil ?_
        refine At.norm (hk_5 ?_)
        refine At.condF rfl ?_
        refine At.skip ?_
        refine At.inNorm ?_
        refine At.norm (hk_2 ?_)
        refine At.seq fun K8 hk_8 => ?_
        refine At.region ?_
        refine op_assign (nxlf rfl) rfl rfl ?_
        refine At.opsNil ?_
        refine At.norm (hk_8 ?_)
        refine At.ret (?_)
        refine At.ret1 (L1 := []) rfl (.tmp rfl .nil) (.refl _) (.refl _) ?_
        first
          | exact ⟨rfl, rfl⟩
          | (exfalso; omega)
  · refine op_skip rfl rfl rfl rfl rfl rfl rfl ?_
    refine op_skip rfl rfl rfl rfl rfl rfl rfl ?_
    refine op_pickF (nxlf rfl) rfl rfl rfl ?_
    refine op_assign (nxlf rfl) rfl rfl ?_
    refine At.opsNil ?_
    refine At.norm (hk_3 ?_)
    refine At.condF rfl ?_
    refine At.seq fun K9 hk_9 => ?_
    refine At.region ?_
    refine op_move (nxlf rfl) rfl rfl ?_
    refine op_lss (nxlf rfl) rfl rfl rfl ?_
    refine op_move (nxlf rfl) rfl rfl ?_
    refine At.partP (d := 13) rfl (fun g13 => ?_) (fun g13 => ?_)
    · refine op_move (nxgf rfl rfl rfl rfl) rfl rfl ?_
      refine op_leq (nxgf rfl rfl rfl rfl) rfl rfl rfl ?_
      refine op_pickT (nxlf rfl) rfl rfl rfl ?_
      refine op_assign (nxlf rfl) rfl rfl ?_
      refine At.opsNil ?_
      refine At.norm (hk_9 ?_)
      refine At.condP rfl (fun c10 => ?_) (fun c10 => ?_)
      · refine At.seq fun K10 hk_10 => ?_
        refine At.region ?_
        refine op_assign (nxlf rfl) rfl rfl ?_
        refine At.opsNil ?_
        refine At.norm (hk_10 ?_)
        refine At.ret (At.inRet (At.thenRet (?_)))
        refine At.ret1 (L1 := []) rfl (.tmp rfl .nil) (.refl _) (.refl _) ?_
        first
          | exact ⟨rfl, rfl⟩
          | (exfalso; omega)
      · refine At.skip ?_
        refine At.inNorm ?_
        refine At.norm (hk_2 ?_)
        refine At.seq fun K11 hk_11 => ?_
        refine At.region ?_
        refine op_assign (nxlf rfl) rfl rfl ?_
        refine At.opsNil ?_
        refine At.norm (hk_11 ?_)
        refine At.ret (?_)
        refine At.ret1 (L1 := []) rfl (.tmp rfl .nil) (.refl _) (.refl _) ?_
        first
          | exact ⟨rfl, rfl⟩
          | (exfalso; omega)
    · refine op_skip rfl rfl rfl rfl rfl rfl rfl ?_
      refine op_skip rfl rfl rfl rfl rfl rfl rfl ?_
      refine op_pickF (nxlf rfl) rfl rfl rfl ?_
      refine op_assign (nxlf rfl) rfl rfl ?_
      refine At.opsNil ?_
      refine At.norm (hk_9 ?_)
      refine At.condF rfl ?_
      refine At.skip ?_
      refine At.inNorm ?_
      refine At.norm (hk_2 ?_)
      refine At.seq fun K12 hk_12 => ?_
      refine At.region ?_
      refine op_assign (nxlf rfl) rfl rfl ?_
      refine At.opsNil ?_
      refine At.norm (hk_12 ?_)
      refine At.ret (?_)
      refine At.ret1 (L1 := []) rfl (.tmp rfl .nil) (.refl _) (.refl _) ?_
      first
        | exact ⟨rfl, rfl⟩
        | (exfalso; omega)
/-- The bytes of a rune. -/
def encL (r : Int) : List UInt8 := (Utf8.encode r).data.toList
theorem last_of (x : ByteArray) (h : 2 ≤ x.size ∧ x.size ≤ 4 ∧ ∀ h : x.size - 1 < x.size, 128 ≤ (x[x.size - 1]'h).toNat) : 2 ≤ x.data.toList.length ∧ x.data.toList.length ≤ 4 ∧ 128 ≤ (x.data.toList.getD (x.data.toList.length - 1) 0).toNat := by
  obtain ⟨a, b, c⟩ := h
  have e : x.data.toList.length = x.size := Array.length_toList
  refine ⟨by omega, by omega, ?_⟩
  have hlt : x.data.toList.length - 1 < x.data.toList.length := by omega
  rw [List.getD_eq_getElem?_getD, List.getElem?_eq_getElem hlt]
  have := c (by omega)
  simp only [e]
  exact this
theorem valid_of {r : Nat} (h : RuneOk r) : Utf8.valid (r : Int) = true := by
  unfold RuneOk at h
  have h0 : (0 : Int) ≤ (r : Int) := Int.natCast_nonneg r
  unfold Utf8.valid
  rcases h with h | ⟨h1, h2⟩
  · have h3 : (r : Int) < 0xD800 := by omega
    rw [decide_eq_true h0, decide_eq_true h3]
    rfl
  · have h3 : (0xE000 : Int) ≤ (r : Int) := by omega
    have h4 : (r : Int) ≤ 0x10FFFF := by omega
    rw [decide_eq_true h3, decide_eq_true h4, Bool.and_self, Bool.or_true]
theorem enc_last0 (x : Int) (hv : Utf8.valid x = true) (h : 128 ≤ x) : 2 ≤ (encL x).length ∧ (encL x).length ≤ 4 ∧ 128 ≤ ((encL x).getD ((encL x).length - 1) 0).toNat := by
  have h2 := last_of (Utf8.encode x) (encode_facts x hv h)
  unfold encL
  generalize Utf8.encode x = y at h2 ⊢
  exact h2
theorem enc_last {r : Nat} (h : RuneOk r) (h1 : 128 ≤ r) : 2 ≤ (encL (r : Int)).length ∧ (encL (r : Int)).length ≤ 4 ∧ 128 ≤ ((encL (r : Int)).getD ((encL (r : Int)).length - 1) 0).toNat :=
  enc_last0 (r : Int) (valid_of h) (Int.ofNat_le.2 h1)
section
variable {P : Program} {n : Nat} {l : List (Nat × Value)} {E : World} {L Ls : List Heaplet} {X Y : Act → World → Prop} {d : Nat} {t t' ty : TypeId} {x : Operand}
theorem op_runeS {k : IntKind} {r : Int} {pos : _} {aft : _} {g : _} (s : NxF P n l E L Ls ⟨some d, .convert t t' x, ty, pos, aft, g⟩ X Y) (ht : (P.underlying t).isSome = true) (ht' : P.underlying t' = some .string) (hx : ev l x = some (.int k r)) (hn : Nat.ble (d + 1) n = true) (h : At n ((d, str (encL r)) :: l) E L Y) : At n l E L X :=
  op_val s (fun a w hf hw => by
    have e1 : (execOp a.eval ⟨some d, .convert t t' x, ty, pos, aft, g⟩) = (do let v ← convert t t' (a.eval x); pure (.value v) : Sem Next) := rfl
    rw [e1, hf.eval hx, Sem.run_bind, run_convert_int_string w t t' k r ht ht']
    rfl) rfl hn h
end
theorem hexD_low : ∀ q, q < 16 → (hexD.getD q 0).toNat < 128 ∧ runeAt hexD q ≠ 65533 ∧ nextP hexD q = q + 1 := by decide +kernel
set_option maxRecDepth 100000 in
theorem FIdx_e : Fn Tryd.prog 92 #[str hexD, .int .i32 ((65533 : Nat) : Int)] [] [] (fun v L => v = .int .i64 (-1) ∧ L = []) := by
  refine Fn.enter (vs := [str hexD, .int .i32 ((65533 : Nat) : Int)]) Tryd.func92 rfl rfl rfl ?_
  intro E R hR
  change At _ _ E [R] _
  refine At.seq fun K1 hk_1 => ?_
  refine At.region ?_
  refine op_assign (nxlf rfl) rfl rfl ?_
  refine At.opsNil ?_
  refine At.norm (hk_1 ?_)
  refine At.block ?_
  refine At.seq fun K2 hk_2 => ?_
  refine At.region ?_
  refine op_move (nxlf rfl) rfl rfl ?_
  refine op_leq (nxlf rfl) rfl rfl rfl ?_
  refine op_move (nxlf rfl) rfl rfl ?_
  refine At.partP (d := 163) rfl (fun g163 => ?_) (fun g163 => ?_)
  · refine op_move (nxgf rfl rfl rfl rfl) rfl rfl ?_
    refine op_lss (nxgf rfl rfl rfl rfl) rfl rfl rfl ?_
    refine op_pickT (nxlf rfl) rfl rfl rfl ?_
    refine op_assign (nxlf rfl) rfl rfl ?_
    refine At.opsNil ?_
    refine At.norm (hk_2 ?_)
    refine At.condP rfl (fun c160 => ?_) (fun c160 => ?_)
    · exfalso; omega
    · refine At.seq fun K3 hk_3 => ?_
      refine At.region ?_
      refine op_move (nxlf rfl) rfl rfl ?_
      refine op_eql (nxlf rfl) rfl rfl rfl ?_
      refine op_assign (nxlf rfl) rfl rfl ?_
      refine At.opsNil ?_
      refine At.norm (hk_3 ?_)
      refine At.condP rfl (fun c171 => ?_) (fun c171 => ?_)
      · refine At.seq fun K4 hk_4 => ?_
        refine At.seq fun K5 hk_5 => ?_
        refine At.region ?_
        refine op_move (nxlf rfl) rfl rfl ?_
        refine op_rangeS (nxla rfl) Tryd.underlying9 rfl rfl (fun N175 b175 I175 => ?_)
        refine At.opsNil ?_
        refine At.norm (hk_5 ?_)
        refine At.block ?_
        refine At.loop (fun fr_ hp_ ms_ => ∃ (q : Nat) (N175 : Heaplet), fr_ = [(175, .pointer (some ⟨b175, 0, none⟩))] ∧ hp_ = [N175, R] ∧ 16 - q = ms_ ∧ (q ≤ 16) ∧ (IterH N175 b175 hexD q)) ?_ (.refl _) ⟨0, N175, rfl, rfl, rfl, by decide, I175⟩ ?_
        · exact .cons (by first | exact lkI rfl (by omega) | rfl) .nil
        rintro _ _ _ ⟨q, N175, rfl, rfl, rfl, hq, I175⟩
        refine At.seq fun K6 hk_6 => ?_
        refine At.region ?_
        refine op_nextS (nxl rfl) rfl I175 sel0 rfl (fun N175 I175 => ?_)
        refine op_nx0 (nxlf rfl) rfl rfl ?_
        refine At.opsNil ?_
        refine At.norm (hk_6 ?_)
        refine At.seq fun K7 hk_7 => ?_
        refine At.condP rfl (fun c177 => ?_) (fun c177 => ?_)
        · have hq16 : q < 16 := c177
          have hlo := hexD_low q hq16
          refine At.skip ?_
          refine At.norm (hk_7 ?_)
          refine At.block ?_
          refine At.seq fun K8 hk_8 => ?_
          refine At.region ?_
          refine op_nx1 (nxlf rfl) rfl (by omega) rfl ?_
          refine op_nx2 (nxlf rfl) rfl (by omega) rfl ?_
          refine op_assign (nxlf rfl) rfl rfl ?_
          refine op_assign (nxlf rfl) rfl rfl ?_
          refine At.opsNil ?_
          refine At.norm (hk_8 ?_)
          refine At.seq fun K9 hk_9 => ?_
          refine At.region ?_
          refine op_move (nxlf rfl) rfl rfl ?_
          refine op_eql (nxlf rfl) rfl rfl rfl ?_
          refine At.opsNil ?_
          refine At.norm (hk_9 ?_)
          refine At.condP rfl (fun c181 => ?_) (fun c181 => ?_)
          · exact absurd (by omega) hlo.2.1
          · refine At.skip ?_
            refine At.inNorm ?_
            refine At.norm ?_
            refine At.back ?_ (.refl _) ⟨q + 1, N175, rfl, rfl, rfl, by omega, by rw [hlo.2.2] at I175; exact I175⟩ ?_
            · exact .cons (by first | exact lkI rfl (by omega) | rfl) .nil
            · omega
        · refine At.exit (At.thenExit (At.thenExit (At.inHit ?_)))
          refine At.norm (hk_4 ?_)
          refine At.seq fun K10 hk_10 => ?_
          refine At.region ?_
          refine op_assign (nxlf rfl) rfl rfl ?_
          refine At.opsNil ?_
          refine At.norm (hk_10 ?_)
          refine At.ret (At.inRet (?_))
          refine At.sub (L' := [R]) (.cons _ (.cons_cons _ (.slnil))) ?_
          refine At.ret1 (L1 := []) rfl (.tmp rfl .nil) (.refl _) (.refl _) ?_
          exact ⟨rfl, rfl⟩
      · exact absurd rfl c171
  · refine op_skip rfl rfl rfl rfl rfl rfl rfl ?_
    refine op_skip rfl rfl rfl rfl rfl rfl rfl ?_
    refine op_pickF (nxlf rfl) rfl rfl rfl ?_
    refine op_assign (nxlf rfl) rfl rfl ?_
    refine At.opsNil ?_
    refine At.norm (hk_2 ?_)
    refine At.condF rfl ?_
    refine At.seq fun K11 hk_11 => ?_
    refine At.region ?_
    refine op_move (nxlf rfl) rfl rfl ?_
    refine op_eql (nxlf rfl) rfl rfl rfl ?_
    refine op_assign (nxlf rfl) rfl rfl ?_
    refine At.opsNil ?_
    refine At.norm (hk_11 ?_)
    refine At.condP rfl (fun c171 => ?_) (fun c171 => ?_)
    · refine At.seq fun K12 hk_12 => ?_
      refine At.seq fun K13 hk_13 => ?_
      refine At.region ?_
      refine op_move (nxlf rfl) rfl rfl ?_
      refine op_rangeS (nxla rfl) Tryd.underlying9 rfl rfl (fun N175 b175 I175 => ?_)
      refine At.opsNil ?_
      refine At.norm (hk_13 ?_)
      refine At.block ?_
      refine At.loop (fun fr_ hp_ ms_ => ∃ (q : Nat) (N175 : Heaplet), fr_ = [(175, .pointer (some ⟨b175, 0, none⟩))] ∧ hp_ = [N175, R] ∧ 16 - q = ms_ ∧ (q ≤ 16) ∧ (IterH N175 b175 hexD q)) ?_ (.refl _) ⟨0, N175, rfl, rfl, rfl, by decide, I175⟩ ?_
      · exact .cons (by first | exact lkI rfl (by omega) | rfl) .nil
      rintro _ _ _ ⟨q, N175, rfl, rfl, rfl, hq, I175⟩
      refine At.seq fun K14 hk_14 => ?_
      refine At.region ?_
      refine op_nextS (nxl rfl) rfl I175 sel0 rfl (fun N175 I175 => ?_)
      refine op_nx0 (nxlf rfl) rfl rfl ?_
      refine At.opsNil ?_
      refine At.norm (hk_14 ?_)
      refine At.seq fun K15 hk_15 => ?_
      refine At.condP rfl (fun c177 => ?_) (fun c177 => ?_)
      · have hq16 : q < 16 := c177
        have hlo := hexD_low q hq16
        refine At.skip ?_
        refine At.norm (hk_15 ?_)
        refine At.block ?_
        refine At.seq fun K16 hk_16 => ?_
        refine At.region ?_
        refine op_nx1 (nxlf rfl) rfl (by omega) rfl ?_
        refine op_nx2 (nxlf rfl) rfl (by omega) rfl ?_
        refine op_assign (nxlf rfl) rfl rfl ?_
        refine op_assign (nxlf rfl) rfl rfl ?_
        refine At.opsNil ?_
        refine At.norm (hk_16 ?_)
        refine At.seq fun K17 hk_17 => ?_
        refine At.region ?_
        refine op_move (nxlf rfl) rfl rfl ?_
        refine op_eql (nxlf rfl) rfl rfl rfl ?_
        refine At.opsNil ?_
        refine At.norm (hk_17 ?_)
        refine At.condP rfl (fun c181 => ?_) (fun c181 => ?_)
        · exact absurd (by omega) hlo.2.1
        · refine At.skip ?_
          refine At.inNorm ?_
          refine At.norm ?_
          refine At.back ?_ (.refl _) ⟨q + 1, N175, rfl, rfl, rfl, by omega, by rw [hlo.2.2] at I175; exact I175⟩ ?_
          · exact .cons (by first | exact lkI rfl (by omega) | rfl) .nil
          · omega
      · refine At.exit (At.thenExit (At.thenExit (At.inHit ?_)))
        refine At.norm (hk_12 ?_)
        refine At.seq fun K18 hk_18 => ?_
        refine At.region ?_
        refine op_assign (nxlf rfl) rfl rfl ?_
        refine At.opsNil ?_
        refine At.norm (hk_18 ?_)
        refine At.ret (At.inRet (?_))
        refine At.sub (L' := [R]) (.cons _ (.cons_cons _ (.slnil))) ?_
        refine At.ret1 (L1 := []) rfl (.tmp rfl .nil) (.refl _) (.refl _) ?_
        exact ⟨rfl, rfl⟩
    · exact absurd rfl c171
set_option maxRecDepth 100000 in
theorem FIdx_h {r : Nat} (h : RuneOk r) (h1 : 128 ≤ r) (h2 : r ≠ 65533) : Fn Tryd.prog 92 #[str hexD, .int .i32 (r : Int)] [] [] (fun v L => v = .int .i64 (-1) ∧ L = []) := by
  obtain ⟨e1, e2, e3⟩ := enc_last h h1
  generalize hrs : encL (r : Int) = rs at e1 e2 e3
  obtain ⟨c, hc⟩ : ∃ c, rs.getD (rs.length - 1) 0 = c := ⟨_, rfl⟩
  rw [hc] at e3
  have hlow := (hexD_low (rs.length - 1) (by omega)).1
  have hd16 : hexD.length = 16 := rfl
  refine Fn.enter (vs := [str hexD, .int .i32 (r : Int)]) Tryd.func92 rfl rfl rfl ?_
  intro E R hR
  change At _ _ E [R] _
  refine At.seq fun K1 hk_1 => ?_
  refine At.region ?_
  refine op_assign (nxlf rfl) rfl rfl ?_
  refine At.opsNil ?_
  refine At.norm (hk_1 ?_)
  refine At.block ?_
  refine At.seq fun K2 hk_2 => ?_
  refine At.region ?_
  refine op_move (nxlf rfl) rfl rfl ?_
  refine op_leq (nxlf rfl) rfl rfl rfl ?_
  refine op_move (nxlf rfl) rfl rfl ?_
  refine At.partP (d := 163) rfl (fun g163 => ?_) (fun g163 => ?_)
  · refine op_move (nxgf rfl rfl rfl rfl) rfl rfl ?_
    refine op_lss (nxgf rfl rfl rfl rfl) rfl rfl rfl ?_
    refine op_pickT (nxlf rfl) rfl rfl rfl ?_
    refine op_assign (nxlf rfl) rfl rfl ?_
    refine At.opsNil ?_
    refine At.norm (hk_2 ?_)
    refine At.condP rfl (fun c160 => ?_) (fun c160 => ?_)
    · exfalso; omega
    · refine At.seq fun K3 hk_3 => ?_
      refine At.region ?_
      refine op_move (nxlf rfl) rfl rfl ?_
      refine op_eql (nxlf rfl) rfl rfl rfl ?_
      refine op_assign (nxlf rfl) rfl rfl ?_
      refine At.opsNil ?_
      refine At.norm (hk_3 ?_)
      refine At.condP rfl (fun c171 => ?_) (fun c171 => ?_)
      · exfalso; omega
      · refine At.seq fun K4 hk_4 => ?_
        refine At.region ?_
        refine op_move (nxlf rfl) rfl rfl ?_
        refine op_callA (nxla rfl) (.cons rfl .nil) (FValid_f h) Tryd.func99 rfl rfl (by simp) rfl ?_
        rintro v185 L185 ⟨rfl, rfl⟩
        change At _ _ _ [R] _
        refine op_not (nxlf rfl) rfl rfl ?_
        refine op_assign (nxlf rfl) rfl rfl ?_
        refine At.opsNil ?_
        refine At.norm (hk_4 ?_)
        refine At.condF rfl ?_
        refine At.scope ?_
        refine At.seq fun K5 hk_5 => ?_
        refine At.region ?_
        refine op_move (nxlf rfl) rfl rfl ?_
        refine op_runeS (nxlf rfl) (und_some Tryd.underlying21) Tryd.underlying9 rfl rfl ?_
        rw [hrs]
        refine op_assign (nxlf rfl) rfl rfl ?_
        refine At.opsNil ?_
        refine At.norm (hk_5 ?_)
        refine At.seq fun K6 hk_6 => ?_
        refine At.region ?_
        refine op_move (nxlf rfl) rfl rfl ?_
        refine op_lenStr (nxlf rfl) Tryd.underlying9 rfl rfl ?_
        refine op_subI (nxlf rfl) rfl rfl (by omega) (by omega) rfl ?_
        refine op_assign (nxlf rfl) rfl rfl ?_
        refine At.opsNil ?_
        refine At.norm (hk_6 ?_)
        refine At.seq fun K7 hk_7 => ?_
        refine At.region ?_
        refine op_move (nxlf rfl) rfl rfl ?_
        refine op_assign (nxlf rfl) rfl rfl ?_
        refine At.opsNil ?_
        refine At.norm (hk_7 ?_)
        refine At.seq fun K8 hk_8 => ?_
        refine At.region ?_
        refine op_assign (nxlf rfl) rfl rfl ?_
        refine At.opsNil ?_
        refine At.norm (hk_8 ?_)
        refine At.seq fun K9 hk_9 => ?_
        refine At.block ?_
        refine At.loop (fun fr_ hp_ ms_ => fr_ = [(0, str hexD), (1, .int .i32 (r : Int)), (7, str rs), (8, .int .i64 ((rs.length - 1 : Nat) : Int)), (9, .int .i64 ((rs.length - 1 : Nat) : Int)), (10, .int .i64 0)] ∧ hp_ = [R] ∧ 0 = ms_) ?_ (.refl _) ⟨rfl, rfl, rfl⟩ ?_
        · exact .cons (by first | exact lkI rfl (by omega) | rfl) (.cons (by first | exact lkI rfl (by omega) | rfl) (.cons (by first | exact lkI rfl (by omega) | rfl) (.cons (by first | exact lkI rfl (by omega) | rfl) (.cons (by first | exact lkI rfl (by omega) | rfl) (.cons (by first | exact lkI rfl (by omega) | rfl) .nil)))))
        rintro _ _ _ ⟨rfl, rfl, rfl⟩
        refine At.seq fun K10 hk_10 => ?_
        refine At.seq fun K11 hk_11 => ?_
        refine At.region ?_
        refine op_move (nxlf rfl) rfl rfl ?_
        refine op_move (nxlf rfl) rfl rfl ?_
        refine op_lenStr (nxlf rfl) Tryd.underlying9 rfl rfl ?_
        refine op_lss (nxlf rfl) rfl rfl rfl ?_
        refine At.opsNil ?_
        refine At.norm (hk_11 ?_)
        refine At.condP rfl (fun c26 => ?_) (fun c26 => ?_)
        · refine At.skip ?_
          refine At.norm (hk_10 ?_)
          refine At.block ?_
          refine At.scope ?_
          refine At.seq fun K12 hk_12 => ?_
          refine At.seq fun K13 hk_13 => ?_
          refine At.drawn [] [0,1,2,3,4,5,6] (by kernel_rfl) (by kernel_rfl) ?_
          refine op_move (nxof rfl rfl rfl (by kernel_rfl)) rfl rfl ?_
          refine op_move (nxof rfl rfl rfl (by kernel_rfl)) rfl rfl ?_
          refine op_idxS (nxof rfl rfl rfl (by kernel_rfl)) Tryd.underlying9 rfl rfl (show _ = (((rs.length - 1 : Nat)) : Int) from by omega) (by omega) rfl ?_
          refine op_move (nxof rfl rfl rfl (by kernel_rfl)) rfl rfl ?_
          refine op_move (nxof rfl rfl rfl (by kernel_rfl)) rfl rfl ?_
          refine op_idxS (nxof rfl rfl rfl (by kernel_rfl)) Tryd.underlying9 rfl rfl (show _ = (((rs.length - 1 : Nat)) : Int) from by omega) (by omega) rfl ?_
          rw [hc]
          refine op_neq (nxof rfl rfl rfl (by kernel_rfl)) rfl rfl rfl ?_
          refine At.oneNil ?_
          refine At.norm (hk_13 ?_)
          refine At.condP rfl (fun c33 => ?_) (fun c33 => ?_)
          · refine At.seq fun K14 hk_14 => ?_
            refine At.drawn [7] [0,1,2,3,4,5,6,7,8] (by kernel_rfl) (by kernel_rfl) ?_
            refine op_move (nxof rfl rfl rfl (by kernel_rfl)) rfl rfl ?_
            refine op_move (nxof rfl rfl rfl (by kernel_rfl)) rfl rfl ?_
            refine op_addI (nxof rfl rfl rfl (by kernel_rfl)) rfl rfl (by omega) (by omega) rfl ?_
            refine op_sliceStr (nxof rfl rfl rfl (by kernel_rfl)) Tryd.underlying9 rfl (.some rfl (show _ = (((rs.length - 1 + 1 : Nat)) : Int) from by omega)) .none .none (by omega) (by omega) (by omega) (by simp) rfl ?_
            rw [show (hexD.drop (rs.length - 1 + 1)).take (hexD.length - (rs.length - 1 + 1)) = hexD.drop (rs.length - 1 + 1) from List.take_of_length_le (by rw [List.length_drop]; exact Nat.le_refl _)]
            refine op_move (nxof rfl rfl rfl (by kernel_rfl)) rfl rfl ?_
            refine op_move (nxof rfl rfl rfl (by kernel_rfl)) rfl rfl ?_
            refine op_idxS (nxof rfl rfl rfl (by kernel_rfl)) Tryd.underlying9 rfl rfl (show _ = (((rs.length - 1 : Nat)) : Int) from by omega) (by omega) rfl ?_
            rw [hc]
            refine op_callA (nxosa rfl rfl rfl rfl) (.cons rfl (.cons rfl .nil)) (FIdxB_f (k := rs.length - 1 + 1) (by omega) (c := c) (by omega)) Tryd.func98 rfl rfl (by simp) rfl ?_
            rintro v41 L41 ⟨rfl, rfl⟩
            change At _ _ _ [R] _
            refine op_assign (nxof rfl rfl rfl (by kernel_rfl)) rfl rfl ?_
            refine At.oneNil ?_
            refine At.norm (hk_14 ?_)
            refine At.seq fun K15 hk_15 => ?_
            refine At.seq fun K16 hk_16 => ?_
            refine At.region ?_
            refine op_move (nxlf rfl) rfl rfl ?_
            refine op_lss (nxlf rfl) rfl rfl rfl ?_
            refine At.opsNil ?_
            refine At.norm (hk_16 ?_)
            refine At.condP rfl (fun c43 => ?_) (fun c43 => ?_)
            · refine At.seq fun K17 hk_17 => ?_
              refine At.region ?_
              refine op_assign (nxlf rfl) rfl rfl ?_
              refine At.opsNil ?_
              refine At.norm (hk_17 ?_)
              refine At.ret (At.thenRet (At.thenRet (At.noRet (At.inRet (At.thenRet (At.inRet (At.thenRet (At.noRet (At.inRet (?_))))))))))
              refine At.ret1 (L1 := []) rfl (.tmp rfl .nil) (.refl _) (.refl _) ?_
              exact ⟨rfl, rfl⟩
            · exact absurd (by decide) c43
          · exfalso; omega
        · exfalso; omega
  · refine op_skip rfl rfl rfl rfl rfl rfl rfl ?_
    refine op_skip rfl rfl rfl rfl rfl rfl rfl ?_
    refine op_pickF (nxlf rfl) rfl rfl rfl ?_
    refine op_assign (nxlf rfl) rfl rfl ?_
    refine At.opsNil ?_
    refine At.norm (hk_2 ?_)
    refine At.condF rfl ?_
    refine At.seq fun K18 hk_18 => ?_
    refine At.region ?_
    refine op_move (nxlf rfl) rfl rfl ?_
    refine op_eql (nxlf rfl) rfl rfl rfl ?_
    refine op_assign (nxlf rfl) rfl rfl ?_
    refine At.opsNil ?_
    refine At.norm (hk_18 ?_)
    refine At.condP rfl (fun c171 => ?_) (fun c171 => ?_)
    · exfalso; omega
    · refine At.seq fun K19 hk_19 => ?_
      refine At.region ?_
      refine op_move (nxlf rfl) rfl rfl ?_
      refine op_callA (nxla rfl) (.cons rfl .nil) (FValid_f h) Tryd.func99 rfl rfl (by simp) rfl ?_
      rintro v185 L185 ⟨rfl, rfl⟩
      change At _ _ _ [R] _
      refine op_not (nxlf rfl) rfl rfl ?_
      refine op_assign (nxlf rfl) rfl rfl ?_
      refine At.opsNil ?_
      refine At.norm (hk_19 ?_)
      refine At.condF rfl ?_
      refine At.scope ?_
      refine At.seq fun K20 hk_20 => ?_
      refine At.region ?_
      refine op_move (nxlf rfl) rfl rfl ?_
      refine op_runeS (nxlf rfl) (und_some Tryd.underlying21) Tryd.underlying9 rfl rfl ?_
      rw [hrs]
      refine op_assign (nxlf rfl) rfl rfl ?_
      refine At.opsNil ?_
      refine At.norm (hk_20 ?_)
      refine At.seq fun K21 hk_21 => ?_
      refine At.region ?_
      refine op_move (nxlf rfl) rfl rfl ?_
      refine op_lenStr (nxlf rfl) Tryd.underlying9 rfl rfl ?_
      refine op_subI (nxlf rfl) rfl rfl (by omega) (by omega) rfl ?_
      refine op_assign (nxlf rfl) rfl rfl ?_
      refine At.opsNil ?_
      refine At.norm (hk_21 ?_)
      refine At.seq fun K22 hk_22 => ?_
      refine At.region ?_
      refine op_move (nxlf rfl) rfl rfl ?_
      refine op_assign (nxlf rfl) rfl rfl ?_
      refine At.opsNil ?_
      refine At.norm (hk_22 ?_)
      refine At.seq fun K23 hk_23 => ?_
      refine At.region ?_
      refine op_assign (nxlf rfl) rfl rfl ?_
      refine At.opsNil ?_
      refine At.norm (hk_23 ?_)
      refine At.seq fun K24 hk_24 => ?_
      refine At.block ?_
      refine At.loop (fun fr_ hp_ ms_ => fr_ = [(0, str hexD), (1, .int .i32 (r : Int)), (7, str rs), (8, .int .i64 ((rs.length - 1 : Nat) : Int)), (9, .int .i64 ((rs.length - 1 : Nat) : Int)), (10, .int .i64 0)] ∧ hp_ = [R] ∧ 0 = ms_) ?_ (.refl _) ⟨rfl, rfl, rfl⟩ ?_
      · exact .cons (by first | exact lkI rfl (by omega) | rfl) (.cons (by first | exact lkI rfl (by omega) | rfl) (.cons (by first | exact lkI rfl (by omega) | rfl) (.cons (by first | exact lkI rfl (by omega) | rfl) (.cons (by first | exact lkI rfl (by omega) | rfl) (.cons (by first | exact lkI rfl (by omega) | rfl) .nil)))))
      rintro _ _ _ ⟨rfl, rfl, rfl⟩
      refine At.seq fun K25 hk_25 => ?_
      refine At.seq fun K26 hk_26 => ?_
      refine At.region ?_
      refine op_move (nxlf rfl) rfl rfl ?_
      refine op_move (nxlf rfl) rfl rfl ?_
      refine op_lenStr (nxlf rfl) Tryd.underlying9 rfl rfl ?_
      refine op_lss (nxlf rfl) rfl rfl rfl ?_
      refine At.opsNil ?_
      refine At.norm (hk_26 ?_)
      refine At.condP rfl (fun c26 => ?_) (fun c26 => ?_)
      · refine At.skip ?_
        refine At.norm (hk_25 ?_)
        refine At.block ?_
        refine At.scope ?_
        refine At.seq fun K27 hk_27 => ?_
        refine At.seq fun K28 hk_28 => ?_
        refine At.drawn [] [0,1,2,3,4,5,6] (by kernel_rfl) (by kernel_rfl) ?_
        refine op_move (nxof rfl rfl rfl (by kernel_rfl)) rfl rfl ?_
        refine op_move (nxof rfl rfl rfl (by kernel_rfl)) rfl rfl ?_
        refine op_idxS (nxof rfl rfl rfl (by kernel_rfl)) Tryd.underlying9 rfl rfl (show _ = (((rs.length - 1 : Nat)) : Int) from by omega) (by omega) rfl ?_
        refine op_move (nxof rfl rfl rfl (by kernel_rfl)) rfl rfl ?_
        refine op_move (nxof rfl rfl rfl (by kernel_rfl)) rfl rfl ?_
        refine op_idxS (nxof rfl rfl rfl (by kernel_rfl)) Tryd.underlying9 rfl rfl (show _ = (((rs.length - 1 : Nat)) : Int) from by omega) (by omega) rfl ?_
        rw [hc]
        refine op_neq (nxof rfl rfl rfl (by kernel_rfl)) rfl rfl rfl ?_
        refine At.oneNil ?_
        refine At.norm (hk_28 ?_)
        refine At.condP rfl (fun c33 => ?_) (fun c33 => ?_)
        · refine At.seq fun K29 hk_29 => ?_
          refine At.drawn [7] [0,1,2,3,4,5,6,7,8] (by kernel_rfl) (by kernel_rfl) ?_
          refine op_move (nxof rfl rfl rfl (by kernel_rfl)) rfl rfl ?_
          refine op_move (nxof rfl rfl rfl (by kernel_rfl)) rfl rfl ?_
          refine op_addI (nxof rfl rfl rfl (by kernel_rfl)) rfl rfl (by omega) (by omega) rfl ?_
          refine op_sliceStr (nxof rfl rfl rfl (by kernel_rfl)) Tryd.underlying9 rfl (.some rfl (show _ = (((rs.length - 1 + 1 : Nat)) : Int) from by omega)) .none .none (by omega) (by omega) (by omega) (by simp) rfl ?_
          rw [show (hexD.drop (rs.length - 1 + 1)).take (hexD.length - (rs.length - 1 + 1)) = hexD.drop (rs.length - 1 + 1) from List.take_of_length_le (by rw [List.length_drop]; exact Nat.le_refl _)]
          refine op_move (nxof rfl rfl rfl (by kernel_rfl)) rfl rfl ?_
          refine op_move (nxof rfl rfl rfl (by kernel_rfl)) rfl rfl ?_
          refine op_idxS (nxof rfl rfl rfl (by kernel_rfl)) Tryd.underlying9 rfl rfl (show _ = (((rs.length - 1 : Nat)) : Int) from by omega) (by omega) rfl ?_
          rw [hc]
          refine op_callA (nxosa rfl rfl rfl rfl) (.cons rfl (.cons rfl .nil)) (FIdxB_f (k := rs.length - 1 + 1) (by omega) (c := c) (by omega)) Tryd.func98 rfl rfl (by simp) rfl ?_
          rintro v41 L41 ⟨rfl, rfl⟩
          change At _ _ _ [R] _
          refine op_assign (nxof rfl rfl rfl (by kernel_rfl)) rfl rfl ?_
          refine At.oneNil ?_
          refine At.norm (hk_29 ?_)
          refine At.seq fun K30 hk_30 => ?_
          refine At.seq fun K31 hk_31 => ?_
          refine At.region ?_
          refine op_move (nxlf rfl) rfl rfl ?_
          refine op_lss (nxlf rfl) rfl rfl rfl ?_
          refine At.opsNil ?_
          refine At.norm (hk_31 ?_)
          refine At.condP rfl (fun c43 => ?_) (fun c43 => ?_)
          · refine At.seq fun K32 hk_32 => ?_
            refine At.region ?_
            refine op_assign (nxlf rfl) rfl rfl ?_
            refine At.opsNil ?_
            refine At.norm (hk_32 ?_)
            refine At.ret (At.thenRet (At.thenRet (At.noRet (At.inRet (At.thenRet (At.inRet (At.thenRet (At.noRet (At.inRet (?_))))))))))
            refine At.ret1 (L1 := []) rfl (.tmp rfl .nil) (.refl _) (.refl _) ?_
            exact ⟨rfl, rfl⟩
          · exact absurd (by decide) c43
        · exfalso; omega
      · exfalso; omega
theorem FIdx_f {r : Nat} (h : RuneOk r) (h0 : ¬ (65 ≤ r ∧ r ≤ 70)) : Fn Tryd.prog 92 #[str hexD, .int .i32 (r : Int)] [] [] (fun v L => v = .int .i64 (match hexV r with | some x => (x : Int) | none => -1) ∧ L = []) := by
  by_cases h1 : r < 128
  · have := FIdx_a h1
    cases e : hexV r with
    | some x => rw [digI_some h1 h0 e] at this; exact this
    | none => rw [digI_none h1 h0 e] at this; exact this
  · rw [hexV_high (by omega)]
    by_cases h2 : r = 65533
    · subst h2; exact FIdx_e
    · exact FIdx_h h (by omega) h2
theorem FValue_s {r y : Nat} (h : RuneOk r) (hv : hexV r = some y) : Fn Tryd.prog 80 #[.int .i32 (r : Int)] [] [] (fun v L => v = .tuple #[.int .u8 ((UInt8.ofNat y).toNat : Int), .bool true] ∧ L = []) := by
  have hcap : 65 ≤ r ∧ r ≤ 70 → y = r - 55 := fun hc => by rw [hexV, if_neg (by omega), if_neg (by omega), if_pos hc] at hv; injection hv with e; exact e.symm
  have hI : ¬ (65 ≤ r ∧ r ≤ 70) → Fn Tryd.prog 92 #[str hexD, .int .i32 (r : Int)] [] [] (fun v L => v = .int .i64 (y : Int) ∧ L = []) := fun h0 => by have := FIdx_f h h0; rw [hv] at this; exact this
  have hr2 : RuneOk r := h
  have hy := hexV_lt hv
  unfold RuneOk at hr2
  refine Fn.enter (vs := [.int .i32 (r : Int)]) Tryd.func80 rfl rfl rfl ?_
  intro E R hR
  change At _ _ E [R] _
  refine At.seq fun K1 hk_1 => ?_
  refine At.region ?_
  refine op_assign (nxlf rfl) rfl rfl ?_
  refine op_assign (nxlf rfl) rfl rfl ?_
  refine At.opsNil ?_
  refine At.norm (hk_1 ?_)
  refine At.seq fun K2 hk_2 => ?_
  refine At.meet (fun fr_ hp_ => ∃ (x : Int), fr_ = [(0, .int .i32 x)] ∧ hp_ = [R] ∧ (Fn Tryd.prog 92 #[str hexD, .int .i32 x] [] [] (fun v L => v = .int .i64 (y : Int) ∧ L = []))) ?_ (fun K2_ jk_2 => ?_)
  rotate_left
  · skip
    refine At.seq fun K3 hk_3 => ?_
    refine At.region ?_
    refine op_move (nxlf rfl) rfl rfl ?_
    refine op_geq (nxlf rfl) rfl rfl rfl ?_
    refine op_move (nxlf rfl) rfl rfl ?_
    refine At.partP (d := 7) rfl (fun g7 => ?_) (fun g7 => ?_)
    · refine op_move (nxgf rfl rfl rfl rfl) rfl rfl ?_
      refine op_leq (nxgf rfl rfl rfl rfl) rfl rfl rfl ?_
      refine op_pickT (nxlf rfl) rfl rfl rfl ?_
      refine At.opsNil ?_
      refine At.norm (hk_3 ?_)
      refine At.condP rfl (fun c10 => ?_) (fun c10 => ?_)
      · refine At.region ?_
        refine op_move (nxlf rfl) rfl rfl ?_
        refine op_callA (nxla rfl) (.cons rfl .nil) (FToLow_f (r := r) (by omega) (by omega)) Tryd.func91 rfl rfl (by simp) rfl ?_
        rintro v12 L12 ⟨rfl, rfl⟩
        change At _ _ _ [R] _
        refine op_assign (nxlf rfl) rfl rfl ?_
        refine At.opsNil ?_
        refine At.norm (jk_2 ?_ (.refl _) ⟨((r + 32 : Nat) : Int), rfl, rfl, by have := FIdx_a (r := r + 32) (by omega); rw [digI_low r (by omega) (by omega) (by omega)] at this; rw [hcap (by omega)]; exact this⟩)
        exact .cons (by first | exact lkI rfl (by omega) | rfl) .nil
      · refine At.skip ?_
        refine At.norm (jk_2 ?_ (.refl _) ⟨(r : Int), rfl, rfl, hI (by omega)⟩)
        exact .cons (by first | exact lkI rfl (by omega) | rfl) .nil
    · refine op_skip rfl rfl rfl rfl rfl rfl rfl ?_
      refine op_skip rfl rfl rfl rfl rfl rfl rfl ?_
      refine op_pickF (nxlf rfl) rfl rfl rfl ?_
      refine At.opsNil ?_
      refine At.norm (hk_3 ?_)
      refine At.condF rfl ?_
      refine At.skip ?_
      refine At.norm (jk_2 ?_ (.refl _) ⟨(r : Int), rfl, rfl, hI (by omega)⟩)
      exact .cons (by first | exact lkI rfl (by omega) | rfl) .nil
  rintro _ _ ⟨x, rfl, rfl, hx⟩
  refine hk_2 ?_
  refine At.seq fun K4 hk_4 => ?_
  refine At.seq fun K5 hk_5 => ?_
  refine At.region ?_
  refine op_move (nxlf rfl) rfl rfl ?_
  refine op_callA (nxla rfl) (.cons rfl (.cons rfl .nil)) (hx) Tryd.func92 rfl rfl (by simp) rfl ?_
  rintro v14 L14 ⟨rfl, rfl⟩
  change At _ _ _ [R] _
  refine op_assign (nxlf rfl) rfl rfl ?_
  refine At.opsNil ?_
  refine At.norm (hk_5 ?_)
  refine At.seq fun K6 hk_6 => ?_
  refine At.region ?_
  refine op_move (nxlf rfl) rfl rfl ?_
  refine op_geq (nxlf rfl) rfl rfl rfl ?_
  refine At.opsNil ?_
  refine At.norm (hk_6 ?_)
  refine At.condP rfl (fun c16 => ?_) (fun c16 => ?_)
  · refine At.seq fun K7 hk_7 => ?_
    refine At.region ?_
    refine op_move (nxlf rfl) rfl rfl ?_
    refine op_conv8 (nxlf rfl) (und_some Tryd.underlying3) Tryd.underlying5 rfl (show _ = (((y : Nat)) : Int) from by omega) rfl ?_
    refine op_assign (nxlf rfl) rfl rfl ?_
    refine op_assign (nxlf rfl) rfl rfl ?_
    refine At.opsNil ?_
    refine At.norm (hk_7 ?_)
    refine At.ret (At.thenRet (?_))
    refine At.retN (L1 := []) rfl (.tmp rfl (.tmp rfl .nil)) rfl (.refl _) (.refl _) ?_
    exact ⟨rfl, rfl⟩
  · exfalso; omega
theorem FValue_n {r : Nat} (h : RuneOk r) (hv : hexV r = none) : Fn Tryd.prog 80 #[.int .i32 (r : Int)] [] [] (fun v L => v = .tuple #[.int .u8 0, .bool false] ∧ L = []) := by
  have hcap : ¬ (65 ≤ r ∧ r ≤ 70) := fun hc => by rw [hexV, if_neg (by omega), if_neg (by omega), if_pos hc] at hv; cases hv
  have hI : Fn Tryd.prog 92 #[str hexD, .int .i32 (r : Int)] [] [] (fun v L => v = .int .i64 (-1) ∧ L = []) := by have := FIdx_f h hcap; rw [hv] at this; exact this
  have hr2 : RuneOk r := h
  unfold RuneOk at hr2
  refine Fn.enter (vs := [.int .i32 (r : Int)]) Tryd.func80 rfl rfl rfl ?_
  intro E R hR
  change At _ _ E [R] _
  refine At.seq fun K1 hk_1 => ?_
  refine At.region ?_
  refine op_assign (nxlf rfl) rfl rfl ?_
  refine op_assign (nxlf rfl) rfl rfl ?_
  refine At.opsNil ?_
  refine At.norm (hk_1 ?_)
  refine At.seq fun K2 hk_2 => ?_
  refine At.seq fun K3 hk_3 => ?_
  refine At.region ?_
  refine op_move (nxlf rfl) rfl rfl ?_
  refine op_geq (nxlf rfl) rfl rfl rfl ?_
  refine op_move (nxlf rfl) rfl rfl ?_
  refine At.partP (d := 7) rfl (fun g7 => ?_) (fun g7 => ?_)
  · refine op_move (nxgf rfl rfl rfl rfl) rfl rfl ?_
    refine op_leq (nxgf rfl rfl rfl rfl) rfl rfl rfl ?_
    refine op_pickT (nxlf rfl) rfl rfl rfl ?_
    refine At.opsNil ?_
    refine At.norm (hk_3 ?_)
    refine At.condP rfl (fun c10 => ?_) (fun c10 => ?_)
    · exfalso; omega
    · refine At.skip ?_
      refine At.norm (hk_2 ?_)
      refine At.seq fun K4 hk_4 => ?_
      refine At.seq fun K5 hk_5 => ?_
      refine At.region ?_
      refine op_move (nxlf rfl) rfl rfl ?_
      refine op_callA (nxla rfl) (.cons rfl (.cons rfl .nil)) (hI) Tryd.func92 rfl rfl (by simp) rfl ?_
      rintro v14 L14 ⟨rfl, rfl⟩
      change At _ _ _ [R] _
      refine op_assign (nxlf rfl) rfl rfl ?_
      refine At.opsNil ?_
      refine At.norm (hk_5 ?_)
      refine At.seq fun K6 hk_6 => ?_
      refine At.region ?_
      refine op_move (nxlf rfl) rfl rfl ?_
      refine op_geq (nxlf rfl) rfl rfl rfl ?_
      refine At.opsNil ?_
      refine At.norm (hk_6 ?_)
      refine At.condP rfl (fun c16 => ?_) (fun c16 => ?_)
      · exact absurd c16 (by decide)
      · refine At.skip ?_
        refine At.norm (hk_4 ?_)
        refine At.seq fun K7 hk_7 => ?_
        refine At.region ?_
        refine op_assign (nxlf rfl) rfl rfl ?_
        refine op_assign (nxlf rfl) rfl rfl ?_
        refine At.opsNil ?_
        refine At.norm (hk_7 ?_)
        refine At.ret (?_)
        refine At.retN (L1 := []) rfl (.tmp rfl (.tmp rfl .nil)) rfl (.refl _) (.refl _) ?_
        exact ⟨rfl, rfl⟩
  · refine op_skip rfl rfl rfl rfl rfl rfl rfl ?_
    refine op_skip rfl rfl rfl rfl rfl rfl rfl ?_
    refine op_pickF (nxlf rfl) rfl rfl rfl ?_
    refine At.opsNil ?_
    refine At.norm (hk_3 ?_)
    refine At.condF rfl ?_
    refine At.skip ?_
    refine At.norm (hk_2 ?_)
    refine At.seq fun K8 hk_8 => ?_
    refine At.seq fun K9 hk_9 => ?_
    refine At.region ?_
    refine op_move (nxlf rfl) rfl rfl ?_
    refine op_callA (nxla rfl) (.cons rfl (.cons rfl .nil)) (hI) Tryd.func92 rfl rfl (by simp) rfl ?_
    rintro v14 L14 ⟨rfl, rfl⟩
    change At _ _ _ [R] _
    refine op_assign (nxlf rfl) rfl rfl ?_
    refine At.opsNil ?_
    refine At.norm (hk_9 ?_)
    refine At.seq fun K10 hk_10 => ?_
    refine At.region ?_
    refine op_move (nxlf rfl) rfl rfl ?_
    refine op_geq (nxlf rfl) rfl rfl rfl ?_
    refine At.opsNil ?_
    refine At.norm (hk_10 ?_)
    refine At.condP rfl (fun c16 => ?_) (fun c16 => ?_)
    · exact absurd c16 (by decide)
    · refine At.skip ?_
      refine At.norm (hk_8 ?_)
      refine At.seq fun K11 hk_11 => ?_
      refine At.region ?_
      refine op_assign (nxlf rfl) rfl rfl ?_
      refine op_assign (nxlf rfl) rfl rfl ?_
      refine At.opsNil ?_
      refine At.norm (hk_11 ?_)
      refine At.ret (?_)
      refine At.retN (L1 := []) rfl (.tmp rfl (.tmp rfl .nil)) rfl (.refl _) (.refl _) ?_
      exact ⟨rfl, rfl⟩
/-- A fault: why, and where. -/
def faultV (w a : Int) : Value := .agg #[.int .i64 w, .int .i64 a]
theorem FFault_f (w a : Int) : Fn Tryd.prog 68 #[.int .i64 w, .int .i64 a] [] [] (fun v L => v = faultV w a ∧ L = []) := by
  refine Fn.enter (vs := [.int .i64 w, .int .i64 a]) Tryd.func68 rfl rfl rfl ?_
  intro E R hR
  change At _ _ E [R] _
  refine At.seq fun K1 hk_1 => ?_
  refine At.region ?_
  refine op_alloc (nxla rfl) ze48 rfl (fun N4 b4 B4 => ?_)
  change Blk N4 b4 _ [.int .i64 0, .int .i64 0] at B4
  refine At.opsNil ?_
  refine At.norm (hk_1 ?_)
  refine At.seq fun K2 hk_2 => ?_
  refine At.region ?_
  refine op_move (nxlf rfl) rfl rfl ?_
  refine op_move (nxlf rfl) rfl rfl ?_
  refine op_build (out := [_, _]) (nxlf rfl) ze48 pl48 (.cons rfl (.cons rfl .nil)) rfl rfl ?_
  refine op_store (nxl rfl) sz48 rfl rfl rfl rfl rfl B4 (by simp) sel0 (fun N4 B4 => ?_)
  simp only [setL, List.set] at B4
  refine At.opsNil ?_
  refine At.norm (hk_2 ?_)
  refine At.ret (?_)
  refine At.ret1 (L1 := []) rfl (.cell rfl (res_agg (ds := [_, _]) ag48 B4 rfl rfl mem0) .nil) (.cons _ (.refl _)) (.refl _) ?_
  exact ⟨rfl, rfl⟩
end Go.Proofs.YtdplcfineaikjaaDoor
/- The engine, closures called where operations may run in any order. For whatever program. No condition. -/
namespace Go.Proofs.YtdplcfineaikjaaDoor
set_option linter.unusedVariables false
set_option linter.unusedSimpArgs false
open Go Go.RowKit
section
variable {P : Program} {n : Nat} {l : List (Nat × Value)} {E : World} {L : List Heaplet} {X Y : Act → World → Prop} {d : Nat} {ty : TypeId}
theorem op_callVA {f : FuncId} {fn : Func} {c : Operand} {xs : List Operand} {args caps : List Value} {ats : Array TypeId} {Lr : List Heaplet} {Post : Value → List Heaplet → Prop} {pos : _} {aft : _} {g : _} (s : NxA P n l E L ⟨some d, .call ⟨.value c, xs.toArray, ats⟩, ty, pos, aft, g⟩ X Y)
    (hcv : ev l c = some (.func (.func f) #[] caps.toArray)) (ha : Evs l xs args) (hc : Fn P f (args ++ caps).toArray [] Lr Post) (hfn : P.funcs[f]? = some fn) (hb : fn.body.isSome = true) (hne : (fn.name == "runtime.NumGoroutine") = false) (hr : ∀ N ∈ Lr, N ∈ L) (hn : Nat.ble (d + 1) n = true)
    (h : ∀ v L1, Post v L1 → At n ((d, v) :: l) E (L1 ++ L) Y) : At n l E L X := fun a w hf hw => by
  refine s a w hf hw ?_
  unfold Oper.wp
  have hrun : (execOp a.eval ⟨some d, .call ⟨.value c, xs.toArray, ats⟩, ty, pos, aft, g⟩).run P w = .ok (.enter f (args ++ caps).toArray) w := by
    have hne' : fn.name ≠ "runtime.NumGoroutine" := by simpa using hne
    have he := hf.eval hcv
    have hap : args.toArray ++ caps.toArray = (args ++ caps).toArray := by simp
    simp only [execOp, resolve, invoke, Sem.run_bind, Sem.run_pure, Result.andThen_ok, List.map_toArray, ha.map hf, he, Deferred.ofValue, Array.empty_append, hap, run_call hfn hb hne']
  rw [hrun]
  have hwR : Hp E ([] ++ [whole w]) w := (Hp.whole w).env hw.os hw.tape hw.output
  refine Calls.mono (hc E w (whole w) hwR fun N hN => hw.sub N (hr N hN)) ?_
  rintro e w' ⟨v, L1, rfl, hP, hw'⟩
  exact ⟨hw'.agree, h v L1 hP _ _ (hf.put (Nat.le_of_ble_eq_true hn)) (hw'.refine hw.sub hw.sep)⟩
end
end Go.Proofs.YtdplcfineaikjaaDoor
/- hexa.read, hexa.Bytes. Condition: a text of at most 2^40 bytes. -/
namespace Go.Proofs.YtdplcfineaikjaaDoor
set_option linter.unusedVariables false
set_option linter.unusedSimpArgs false
open Go Go.RowKit
theorem FValue_g {r : Nat} (h : RuneOk r) : Fn Tryd.prog 80 #[.int .i32 (r : Int)] [] [] (fun v L => ∃ (x : UInt8) (b : Bool), v = .tuple #[.int .u8 (x.toNat : Int), .bool b] ∧ L = [] ∧ (b = true → ∃ y, hexV r = some y ∧ x = UInt8.ofNat y) ∧ (b = false → hexV r = none)) := by
  cases hv : hexV r with
  | some y => exact (FValue_s h hv).mono fun v L ⟨e1, e2⟩ => ⟨UInt8.ofNat y, true, e1, e2, fun _ => ⟨y, rfl, rfl⟩, fun e => by cases e⟩
  | none => exact (FValue_n h hv).mono fun v L ⟨e1, e2⟩ => ⟨0, false, e1, e2, fun e => (by cases e), fun _ => rfl⟩
theorem ox_get {k : Nat} (h : k < 2) : (([48, 120] : List UInt8).getD k 0).toNat = ox k := by
  rcases (show k = 0 ∨ k = 1 by omega) with rfl | rfl <;> rfl
theorem width4 (l : List UInt8) : (Lib.decodeL l).2 ≤ 4 := by
  rw [Lib.decodeL_N]
  rcases Lib.decodeN_shape l.length (l.getD 0 0).toNat (l.getD 1 0).toNat (l.getD 2 0).toNat (l.getD 3 0).toNat with ⟨c, e⟩ | ⟨c1, c2, c3, cv, e⟩ | ⟨c1, c2, c3, c4, cv, cs, e⟩ | ⟨c1, c2, c3, c4, c5, cv, cw, e⟩ | e
  all_goals
    rw [e]
    simp
/-- What read answers. -/
def RdP (z : List UInt8 × Nat × Nat) (v : Value) (L : List Heaplet) : Prop :=
  ∃ M a c, v = .tuple #[.slice a z.1.length c, .int .i64 (z.2.1 : Int), faultV (z.2.2 : Int) ((if z.2.2 = 0 then 0 else z.2.1 : Nat) : Int)] ∧ L = [M] ∧ RSl M 1 a z.1.length c (u8s z.1)
/-- A question that is asked of each digit. -/
def AskP (f : FuncId) (ask : List UInt8 → Nat) : Prop := ∀ {N : Heaplet} {a : Option Addr} {n c : Nat} {l : List UInt8}, RSl N 1 a n c (u8s l) → n ≤ 2199023255552 → Fn Tryd.prog f #[.slice a n c] [] [N] (fun v L => v = .int .i64 (ask l : Int) ∧ L = [])
set_option maxRecDepth 100000 in
set_option maxHeartbeats 4000000 in
theorem FRead_f {f : FuncId} {fn : Func} {ask : List UInt8 → Nat} (hfn : Tryd.prog.funcs[f]? = some fn) (hb : fn.body.isSome = true) (hne : (fn.name == "runtime.NumGoroutine") = false) (hask : AskP f ask) (s : List UInt8) (hs : s.length ≤ 1099511627776) :
    Fn Tryd.prog 66 #[str s, .func (.func f) #[] #[]] [] [] (RdP (readF ask 0 [] (runesOf s))) := by
  obtain ⟨z, hz⟩ : ∃ z, readF ask 0 [] (runesOf s) = z := ⟨_, rfl⟩
  rw [hz]
  refine Fn.enter (vs := [str s, .func (.func f) #[] #[]]) Tryd.func66 rfl rfl rfl ?_
  intro E R hR
  change At _ _ E [R] _
  refine At.seq fun K1 hk_1 => ?_
  refine At.region ?_
  refine op_assign (nxlf rfl) rfl rfl ?_
  refine op_assign (nxlf rfl) rfl rfl ?_
  refine op_alloc (nxla rfl) ze48 rfl (fun N6 b6 B6 => ?_)
  change Blk N6 b6 _ [.int .i64 0, .int .i64 0] at B6
  change Blk N6 b6 _ [.int .i64 0, .int .i64 0] at B6
  refine At.opsNil ?_
  refine At.norm (hk_1 ?_)
  refine At.seq fun K2 hk_2 => ?_
  refine At.region ?_
  refine op_assign (nxlf rfl) rfl rfl ?_
  refine At.opsNil ?_
  refine At.norm (hk_2 ?_)
  refine At.seq fun K3 hk_3 => ?_
  refine At.region ?_
  refine op_assign (nxlf rfl) rfl rfl ?_
  refine At.opsNil ?_
  refine At.norm (hk_3 ?_)
  refine At.seq fun K4 hk_4 => ?_
  refine At.seq fun K5 hk_5 => ?_
  refine At.region ?_
  refine op_move (nxlf rfl) rfl rfl ?_
  refine op_rangeS (nxla rfl) Tryd.underlying9 rfl rfl (fun N15 b15 I15 => ?_)
  refine At.opsNil ?_
  refine At.norm (hk_5 ?_)
  refine At.block ?_
  refine At.empty ?_
  refine At.perm sel3 ?_
  refine At.perm sel3 ?_
  refine At.perm sel2 ?_
  refine At.perm sel3 ?_
  refine At.loop (fun fr_ hp_ ms_ => ∃ (q k : Nat) (acc : List UInt8) (a : Option Addr) (m c : Nat) (Na N15 : Heaplet), fr_ = [(1, .func (.func f) #[] #[]), (6, .pointer (some ⟨b6, 0, none⟩)), (7, .slice a m c), (8, .int .i64 (k : Int)), (15, .pointer (some ⟨b15, 0, none⟩))] ∧ hp_ = [N15, Na, N6, R] ∧ s.length - q = ms_ ∧ (q ≤ s.length + 4) ∧ (k ≤ q) ∧ (m = acc.length) ∧ (m ≤ k) ∧ (readF ask k acc (runesOf (s.drop q)) = z) ∧ (IterH N15 b15 s q) ∧ (Row Na 5 1 a m c (u8s acc))) ?_ (.refl _) ⟨0, 0, [], none, 0, 0, nilH, N15, rfl, rfl, rfl, by omega, Nat.le_refl _, rfl, Nat.le_refl _, hz, I15, Row.nil _ _ _⟩ ?_
  · exact .cons (by first | exact lkI rfl (by omega) | rfl) (.cons (by first | exact lkI rfl (by omega) | rfl) (.cons (by first | exact lkI rfl (by omega) | rfl) (.cons (by first | exact lkI rfl (by omega) | rfl) (.cons (by first | exact lkI rfl (by omega) | rfl) .nil))))
  rintro _ _ _ ⟨q, k, acc, a, m, c, Na, N15, rfl, rfl, rfl, hq, hk, hm, hmk, hd, I15, ra⟩
  refine At.seq fun K6 hk_6 => ?_
  refine At.region ?_
  refine op_nextS (nxl rfl) rfl I15 sel0 rfl (fun N15 I15 => ?_)
  refine op_nx0 (nxlf rfl) rfl rfl ?_
  refine At.opsNil ?_
  refine At.norm (hk_6 ?_)
  refine At.seq fun K7 hk_7 => ?_
  refine At.condP rfl (fun c17 => ?_) (fun c17 => ?_)
  · refine At.knowT (d := 17) rfl c17 ?_
    have hlt : q < s.length := c17
    have hok : RuneOk (runeAt s q) := decode_ok _
    have hnp := nextP_y hlt
    have hrx : ∀ e : ¬ ((runeAt s q : Int) ≠ ((([48, 120] : List UInt8).getD k 0).toNat : Int)), k < 2 → runeAt s q = ox k := fun e h2 => by rw [ox_get h2] at e; exact Int.ofNat_inj.1 (Classical.not_not.1 e)
    have hw1 := Lib.decodeL_width (s.drop q)
    have hw4 := width4 (s.drop q)
    rw [runes_at hlt] at hd
    change readF ask k acc (runeAt s q :: runesOf (s.drop (q + (Lib.decodeL (s.drop q)).2))) = z at hd
    have sa := ra.rsl
    have hu8 := (([48, 120] : List UInt8).getD k 0).toNat_lt
    refine At.skip ?_
    refine At.norm (hk_7 ?_)
    refine At.block ?_
    refine At.seq fun K8 hk_8 => ?_
    refine At.region ?_
    refine op_nx2 (nxlf rfl) rfl (by omega) rfl ?_
    refine op_assign (nxlf rfl) rfl rfl ?_
    refine At.opsNil ?_
    refine At.norm (hk_8 ?_)
    refine At.seq fun K9 hk_9 => ?_
    refine At.region ?_
    refine op_move (nxlf rfl) rfl rfl ?_
    refine op_callA (nxla rfl) (.cons rfl .nil) (FValue_g hok) Tryd.func80 rfl rfl (by simp) rfl ?_
    rintro v21 L21 ⟨x21, b21, rfl, rfl, hT21, hF21⟩
    change At _ _ _ [N15, Na, N6, R] _
    refine op_move (nxlf rfl) rfl rfl ?_
    refine op_extract (nxlf rfl) rfl rfl rfl ?_
    refine op_extract (nxlf rfl) rfl rfl rfl ?_
    refine op_assign (nxlf rfl) rfl rfl ?_
    refine op_assign (nxlf rfl) rfl rfl ?_
    refine At.opsNil ?_
    refine At.norm (hk_9 ?_)
    refine At.seq fun K10 hk_10 => ?_
    refine At.block ?_
    refine At.seq fun K11 hk_11 => ?_
    refine At.seq fun K12 hk_12 => ?_
    refine At.region ?_
    refine op_move (nxlf rfl) rfl rfl ?_
    refine op_lss (nxlf rfl) rfl rfl rfl ?_
    refine op_move (nxlf rfl) rfl rfl ?_
    refine At.partP (d := 27) rfl (fun g27 => ?_) (fun g27 => ?_)
    · refine op_move (nxgf rfl rfl rfl rfl) rfl rfl ?_
      refine op_move (nxgf rfl rfl rfl rfl) rfl rfl ?_
      refine op_idxS (bs := [48, 120]) (nxgf rfl rfl rfl rfl) Tryd.underlying9 rfl rfl (show _ = (((k : Nat)) : Int) from by omega) (by (simp; omega)) rfl ?_
      refine op_convi32 (nxgf rfl rfl rfl rfl) (und_some Tryd.underlying5) Tryd.underlying21 rfl (by omega) (by omega) rfl ?_
      refine op_neq (nxgf rfl rfl rfl rfl) rfl rfl rfl ?_
      refine op_pickT (nxlf rfl) rfl rfl rfl ?_
      refine op_assign (nxlf rfl) rfl rfl ?_
      refine At.opsNil ?_
      refine At.norm (hk_12 ?_)
      refine At.condP rfl (fun c24 => ?_) (fun c24 => ?_)
      · refine At.knowT (d := 24) rfl c24 ?_
        refine At.skip ?_
        refine At.norm (hk_11 ?_)
        refine At.condT rfl ?_
        refine At.seq fun K13 hk_13 => ?_
        refine At.region ?_
        refine op_move (nxlf rfl) rfl rfl ?_
        refine op_move (nxlf rfl) rfl rfl ?_
        refine op_callA (nxla rfl) (.cons rfl (.cons rfl .nil)) (FFault_f 2 (k : Int)) Tryd.func68 rfl rfl (by simp) rfl ?_
        rintro v42 L42 ⟨rfl, rfl⟩
        change At _ _ _ [N15, Na, N6, R] _
        refine op_assign (nxlf rfl) rfl rfl ?_
        refine op_assign (nxlf rfl) rfl rfl ?_
        refine op_store (nxl rfl) sz48 rfl rfl rfl rfl rfl B6 (by simp) sel2 (fun N6 B6 => ?_)
        simp only [setL, List.set] at B6
        refine At.opsNil ?_
        refine At.norm (hk_13 ?_)
        refine At.ret (At.inRet (At.thenRet (At.inRet (At.thenRet (At.inRet (At.thenRet (?_)))))))
        refine At.empty ?_
        refine At.sub (L' := [nilH, N6, R]) (.cons_cons _ (.cons_cons _ (.cons _ (.cons _ (.cons_cons _ (.slnil)))))) ?_
        refine At.perm sel2 ?_
        refine At.perm sel1 ?_
        refine At.perm sel2 ?_
        refine At.retN (L1 := [nilH]) rfl (.tmp rfl (.tmp rfl (.cell rfl (res_agg (ds := [_, _]) ag48 B6 rfl rfl mem0) .nil))) rfl (.cons _ (.refl _)) (.refl _) ?_
        rw [readF_no (by omega) (fun e => by rw [ox_get (by omega)] at c24; exact c24 (by rw [e]))] at hd
        subst hd
        exact ⟨nilH, none, 0, rfl, rfl, RSl.nil _ _⟩
      · refine At.knowF (d := 24) rfl c24 ?_
        refine At.region ?_
        refine op_move (nxlf rfl) rfl rfl ?_
        refine op_geq (nxlf rfl) rfl rfl rfl ?_
        refine op_move (nxlf rfl) rfl rfl ?_
        refine At.partP (d := 36) rfl (fun g36 => ?_) (fun g36 => ?_)
        · exfalso; omega
        · refine op_skip rfl rfl rfl rfl rfl rfl rfl ?_
          refine op_skip rfl rfl rfl rfl rfl rfl rfl ?_
          refine op_pickF (nxlf rfl) rfl rfl rfl ?_
          refine op_assign (nxlf rfl) rfl rfl ?_
          refine At.opsNil ?_
          refine At.norm (hk_11 ?_)
          refine At.condF rfl ?_
          refine At.seq fun K14 hk_14 => ?_
          refine At.region ?_
          refine op_move (nxlf rfl) rfl rfl ?_
          refine op_geq (nxlf rfl) rfl rfl rfl ?_
          refine op_assign (nxlf rfl) rfl rfl ?_
          refine At.opsNil ?_
          refine At.norm (hk_14 ?_)
          refine At.condP rfl (fun c43 => ?_) (fun c43 => ?_)
          · exfalso; omega
          · refine At.knowF (d := 43) rfl c43 ?_
            refine At.skip ?_
            refine At.inNorm ?_
            refine At.norm (hk_10 ?_)
            refine At.region ?_
            refine op_move (nxlf rfl) rfl rfl ?_
            refine op_addI (nxlf rfl) rfl rfl (by omega) (by omega) rfl ?_
            refine op_assign (nxlf rfl) rfl rfl ?_
            refine At.opsNil ?_
            refine At.inNorm ?_
            refine At.norm ?_
            refine At.back ?_ (.refl _) ⟨nextP s q, k + 1, acc, a, m, c, Na, N15, rfl, rfl, rfl, by rw [hnp]; omega, by rw [hnp]; omega, hm, by omega, by rw [readF_ox (by omega) (hrx c24 (by omega))] at hd; rw [hnp]; exact hd, I15, ra⟩ ?_
            · exact .cons (by first | exact lkI rfl (by omega) | rfl) (.cons (by first | exact lkI rfl (by omega) | rfl) (.cons (by first | exact lkI rfl (by omega) | rfl) (.cons (by first | exact lkI rfl (by omega) | rfl) (.cons (by first | exact lkI rfl (by omega) | rfl) .nil))))
            · (rw [hnp]; omega)
    · refine op_skip rfl rfl rfl rfl rfl rfl rfl ?_
      refine op_skip rfl rfl rfl rfl rfl rfl rfl ?_
      refine op_skip rfl rfl rfl rfl rfl rfl rfl ?_
      refine op_skip rfl rfl rfl rfl rfl rfl rfl ?_
      refine op_skip rfl rfl rfl rfl rfl rfl rfl ?_
      refine op_pickF (nxlf rfl) rfl rfl rfl ?_
      refine op_assign (nxlf rfl) rfl rfl ?_
      refine At.opsNil ?_
      refine At.norm (hk_12 ?_)
      refine At.condF rfl ?_
      refine At.region ?_
      refine op_move (nxlf rfl) rfl rfl ?_
      refine op_geq (nxlf rfl) rfl rfl rfl ?_
      refine op_move (nxlf rfl) rfl rfl ?_
      refine At.partP (d := 36) rfl (fun g36 => ?_) (fun g36 => ?_)
      · refine op_move (nxgf rfl rfl rfl rfl) rfl rfl ?_
        refine op_not (nxgf rfl rfl rfl rfl) rfl rfl ?_
        refine op_pickT (nxlf rfl) rfl rfl rfl ?_
        refine op_assign (nxlf rfl) rfl rfl ?_
        refine At.opsNil ?_
        refine At.norm (hk_11 ?_)
        refine At.condB rfl (fun c24 => ?_) (fun c24 => ?_)
        · refine At.knowBT (d := 24) rfl c24 ?_
          refine At.seq fun K15 hk_15 => ?_
          refine At.region ?_
          refine op_move (nxlf rfl) rfl rfl ?_
          refine op_move (nxlf rfl) rfl rfl ?_
          refine op_callA (nxla rfl) (.cons rfl (.cons rfl .nil)) (FFault_f 2 (k : Int)) Tryd.func68 rfl rfl (by simp) rfl ?_
          rintro v42 L42 ⟨rfl, rfl⟩
          change At _ _ _ [N15, Na, N6, R] _
          refine op_assign (nxlf rfl) rfl rfl ?_
          refine op_assign (nxlf rfl) rfl rfl ?_
          refine op_store (nxl rfl) sz48 rfl rfl rfl rfl rfl B6 (by simp) sel2 (fun N6 B6 => ?_)
          simp only [setL, List.set] at B6
          refine At.opsNil ?_
          refine At.norm (hk_15 ?_)
          refine At.ret (At.inRet (At.thenRet (At.inRet (At.thenRet (At.inRet (At.thenRet (?_)))))))
          refine At.empty ?_
          refine At.sub (L' := [nilH, N6, R]) (.cons_cons _ (.cons_cons _ (.cons _ (.cons _ (.cons_cons _ (.slnil)))))) ?_
          refine At.perm sel2 ?_
          refine At.perm sel1 ?_
          refine At.perm sel2 ?_
          refine At.retN (L1 := [nilH]) rfl (.tmp rfl (.tmp rfl (.cell rfl (res_agg (ds := [_, _]) ag48 B6 rfl rfl mem0) .nil))) rfl (.cons _ (.refl _)) (.refl _) ?_
          rw [readF_none (by omega) (hF21 (by cases b21 with | true => cases c24 | false => rfl))] at hd
          subst hd
          exact ⟨nilH, none, 0, rfl, rfl, RSl.nil _ _⟩
        · refine At.knowBF (d := 24) rfl c24 ?_
          refine At.seq fun K16 hk_16 => ?_
          refine At.region ?_
          refine op_move (nxlf rfl) rfl rfl ?_
          refine op_geq (nxlf rfl) rfl rfl rfl ?_
          refine op_assign (nxlf rfl) rfl rfl ?_
          refine At.opsNil ?_
          refine At.norm (hk_16 ?_)
          refine At.condP rfl (fun c43 => ?_) (fun c43 => ?_)
          · refine At.knowT (d := 43) rfl c43 ?_
            refine At.seq fun K17 hk_17 => ?_
            refine At.seq fun K18 hk_18 => ?_
            refine At.region ?_
            obtain ⟨y21, hy21, hx21⟩ := hT21 (by cases b21 with | true => rfl | false => cases c24)
            refine op_move (nxlf rfl) rfl rfl ?_
            refine op_move (nxlf rfl) rfl rfl ?_
            refine op_callVA (nxla rfl) rfl (.cons rfl .nil) (caps := []) (hask sa (by omega)) hfn hb hne (by simp) rfl ?_
            rintro v48 L48 ⟨rfl, rfl⟩
            change At _ _ _ [N15, Na, N6, R] _
            refine op_assign (nxlf rfl) rfl rfl ?_
            refine At.opsNil ?_
            refine At.norm (hk_18 ?_)
            refine At.seq fun K19 hk_19 => ?_
            refine At.region ?_
            refine op_move (nxlf rfl) rfl rfl ?_
            refine op_neq (nxlf rfl) rfl rfl rfl ?_
            refine At.opsNil ?_
            refine At.norm (hk_19 ?_)
            refine At.condP rfl (fun c50 => ?_) (fun c50 => ?_)
            · refine At.knowT (d := 50) rfl c50 ?_
              refine At.seq fun K20 hk_20 => ?_
              refine At.region ?_
              refine op_move (nxlf rfl) rfl rfl ?_
              refine op_move (nxlf rfl) rfl rfl ?_
              refine op_move (nxlf rfl) rfl rfl ?_
              refine op_callA (nxla rfl) (.cons rfl (.cons rfl .nil)) (FFault_f (ask acc : Int) (k : Int)) Tryd.func68 rfl rfl (by simp) rfl ?_
              rintro v54 L54 ⟨rfl, rfl⟩
              change At _ _ _ [N15, Na, N6, R] _
              refine op_assign (nxlf rfl) rfl rfl ?_
              refine op_assign (nxlf rfl) rfl rfl ?_
              refine op_store (nxl rfl) sz48 rfl rfl rfl rfl rfl B6 (by simp) sel2 (fun N6 B6 => ?_)
              simp only [setL, List.set] at B6
              refine At.opsNil ?_
              refine At.norm (hk_20 ?_)
              refine At.ret (At.thenRet (At.inRet (At.thenRet (At.inRet (At.thenRet (At.inRet (At.thenRet (?_))))))))
              refine At.empty ?_
              refine At.sub (L' := [nilH, N6, R]) (.cons_cons _ (.cons_cons _ (.cons _ (.cons _ (.cons_cons _ (.slnil)))))) ?_
              refine At.perm sel2 ?_
              refine At.perm sel1 ?_
              refine At.perm sel2 ?_
              refine At.retN (L1 := [nilH]) rfl (.tmp rfl (.tmp rfl (.cell rfl (res_agg (ds := [_, _]) ag48 B6 rfl rfl mem0) .nil))) rfl (.cons _ (.refl _)) (.refl _) ?_
              rw [readF_ask (by omega) hy21 (fun e => by rw [e] at c50; exact c50 rfl)] at hd
              subst hd
              have hz0 : ¬ ask acc = 0 := fun e => by rw [e] at c50; exact c50 rfl
              exact ⟨nilH, none, 0, by simp only [if_neg hz0]; rfl, rfl, RSl.nil _ _⟩
            · refine At.knowF (d := 50) rfl c50 ?_
              refine At.skip ?_
              refine At.norm (hk_17 ?_)
              refine At.region ?_
              refine op_move (nxlf rfl) rfl rfl ?_
              refine op_move (nxlf rfl) rfl rfl ?_
              refine op_lit (nxla rfl) Tryd.underlying22 ze5 sz5 (.cons rfl .nil) rfl rfl (by simp [Value.cells]) rfl rfl rfl (fun N57 a57 r57 => ?_)
              simp only [flatV, List.flatMap_cons, List.flatMap_nil, Value.cells, List.append_nil, List.cons_append, List.nil_append] at r57
              have s57 := r57.rsl
              change Row N57 _ 1 a57 1 1 (u8s [x21]) at r57
              have s57 := r57.rsl
              refine op_append (nxl rfl) Tryd.underlying22 Tryd.underlying22 te5 rfl rfl ra s57 (by first | exact mem0 | exact mem1 | exact mem2 | exact mem3 | exact mem4 | exact mem5 | exact mem6 | exact mem7 | exact mem8 | exact mem9) (by first | exact one_u8s _ | exact one_u64s _ | exact one_u32s _ | (intro u hu; simp at hu; subst hu; rfl)) (by omega) (by omega) sel2 rfl (fun N58 a58 p58 r58 => ?_)
              have s58 := r58.rsl
              have r58 : Row N58 5 1 a58 (m + 1) p58 (u8s (acc ++ [x21])) := by
                rw [show u8s (acc ++ [x21]) = u8s acc ++ u8s [x21] by simp [u8s]]
                exact r58
              refine op_assign (nxlf rfl) rfl rfl ?_
              refine At.opsNil ?_
              refine At.inNorm ?_
              refine At.norm (hk_10 ?_)
              refine At.region ?_
              refine op_move (nxlf rfl) rfl rfl ?_
              refine op_addI (nxlf rfl) rfl rfl (by omega) (by omega) rfl ?_
              refine op_assign (nxlf rfl) rfl rfl ?_
              refine At.opsNil ?_
              refine At.inNorm ?_
              refine At.norm ?_
              refine At.sub (L' := [N58, N15, N6, R]) (.cons_cons _ (.cons _ (.cons_cons _ (.cons_cons _ (.cons_cons _ (.slnil)))))) ?_
              refine At.perm sel3 ?_
              refine At.perm sel3 ?_
              refine At.perm sel2 ?_
              refine At.perm sel3 ?_
              refine At.back ?_ (.refl _) ⟨nextP s q, k + 1, acc ++ [x21], a58, m + 1, p58, N58, N15, rfl, rfl, rfl, by rw [hnp]; omega, by rw [hnp]; omega, by rw [List.length_append, hm]; rfl, by omega, by rw [readF_some (by omega) hy21 (by omega), ← hx21] at hd; rw [hnp]; exact hd, I15, r58⟩ ?_
              · exact .cons (by first | exact lkI rfl (by omega) | rfl) (.cons (by first | exact lkI rfl (by omega) | rfl) (.cons (by first | exact lkI rfl (by omega) | rfl) (.cons (by first | exact lkI rfl (by omega) | rfl) (.cons (by first | exact lkI rfl (by omega) | rfl) .nil))))
              · (rw [hnp]; omega)
          · exfalso; omega
      · exfalso; omega
  · refine At.knowF (d := 17) rfl c17 ?_
    have hge : s.length ≤ q := by omega
    rw [runes_end hge] at hd
    refine At.exit (At.thenExit (At.thenExit (At.inHit ?_)))
    refine At.norm (hk_4 ?_)
    refine At.seq fun K21 hk_21 => ?_
    refine At.seq fun K22 hk_22 => ?_
    refine At.region ?_
    refine op_move (nxlf rfl) rfl rfl ?_
    refine op_lss (nxlf rfl) rfl rfl rfl ?_
    refine At.opsNil ?_
    refine At.norm (hk_22 ?_)
    refine At.condP rfl (fun c62 => ?_) (fun c62 => ?_)
    · refine At.knowT (d := 62) rfl c62 ?_
      refine At.seq fun K23 hk_23 => ?_
      refine At.region ?_
      refine op_move (nxlf rfl) rfl rfl ?_
      refine op_move (nxlf rfl) rfl rfl ?_
      refine op_callA (nxla rfl) (.cons rfl (.cons rfl .nil)) (FFault_f 2 (k : Int)) Tryd.func68 rfl rfl (by simp) rfl ?_
      rintro v65 L65 ⟨rfl, rfl⟩
      change At _ _ _ [N15, Na, N6, R] _
      refine op_assign (nxlf rfl) rfl rfl ?_
      refine op_assign (nxlf rfl) rfl rfl ?_
      refine op_store (nxl rfl) sz48 rfl rfl rfl rfl rfl B6 (by simp) sel2 (fun N6 B6 => ?_)
      simp only [setL, List.set] at B6
      refine At.opsNil ?_
      refine At.norm (hk_23 ?_)
      refine At.ret (At.thenRet (?_))
      refine At.empty ?_
      refine At.sub (L' := [nilH, N6, R]) (.cons_cons _ (.cons_cons _ (.cons _ (.cons _ (.cons_cons _ (.slnil)))))) ?_
      refine At.perm sel2 ?_
      refine At.perm sel1 ?_
      refine At.perm sel2 ?_
      refine At.retN (L1 := [nilH]) rfl (.tmp rfl (.tmp rfl (.cell rfl (res_agg (ds := [_, _]) ag48 B6 rfl rfl mem0) .nil))) rfl (.cons _ (.refl _)) (.refl _) ?_
      rw [readF_end0 (by omega)] at hd
      subst hd
      exact ⟨nilH, none, 0, rfl, rfl, RSl.nil _ _⟩
    · refine At.knowF (d := 62) rfl c62 ?_
      refine At.skip ?_
      refine At.norm (hk_21 ?_)
      refine At.seq fun K24 hk_24 => ?_
      refine At.region ?_
      refine op_move (nxlf rfl) rfl rfl ?_
      refine op_move (nxlf rfl) rfl rfl ?_
      refine op_build (out := [.int .i64 0, .int .i64 0]) (nxlf rfl) ze48 pl48 .nil rfl rfl ?_
      refine op_assign (nxlf rfl) rfl rfl ?_
      refine op_assign (nxlf rfl) rfl rfl ?_
      refine op_store (nxl rfl) sz48 rfl rfl rfl rfl rfl B6 (by simp) sel2 (fun N6 B6 => ?_)
      simp only [setL, List.set] at B6
      refine At.opsNil ?_
      refine At.norm (hk_24 ?_)
      refine At.ret (?_)
      refine At.sub (L' := [N6, Na, R]) (.cons_cons _ (.cons _ (.cons_cons _ (.cons_cons _ (.slnil))))) ?_
      refine At.retN (L1 := [Na]) rfl (.tmp rfl (.tmp rfl (.cell rfl (res_agg (ds := [_, _]) ag48 B6 rfl rfl mem0) .nil))) rfl (.cons _ (.refl _)) (.refl _) ?_
      rw [readF_end1 (by omega)] at hd
      subst hd
      exact ⟨Na, a, c, by rw [hm]; rfl, rfl, by rw [← hm]; exact ra.rsl⟩
end Go.Proofs.YtdplcfineaikjaaDoor
/- Contracts of Go's library at this program, in plain words (written by the kit's tool lay-plain). No condition. -/
namespace Go.Proofs
set_option linter.unusedVariables false
set_option linter.unusedSimpArgs false
open Go.Shelf
def Tryd.lays229_ren : Go.Shelf.Ren := ⟨fun | 229 => 53 | n => n, fun | 9 => 9 | 40 => 83 | 31 => 31 | 152 => 89 | 3 => 3 | 0 => 0 | 4 => 4 | 21 => 21 | 154 => 91 | n => n, fun | n => n⟩
theorem Tryd.lays229 : Go.Proofs.Lays.n229 Tryd.prog Tryd.lays229_ren := {
  mixed := by kernel_rfl
  f229 := Tryd.func53.trans (congrArg some (by kernel_rfl))
  t0 := Tryd.underlying0
  a0 := Tryd.isAgg0
  z0 := Tryd.sizeOf0
  v0 := Tryd.zeroValue0
  t3 := Tryd.underlying3
  a3 := Tryd.isAgg3
  z3 := Tryd.sizeOf3
  v3 := Tryd.zeroValue3
  t4 := Tryd.underlying4
  a4 := Tryd.isAgg4
  z4 := Tryd.sizeOf4
  v4 := Tryd.zeroValue4
  t9 := Tryd.underlying9
  a9 := Tryd.isAgg9
  z9 := Tryd.sizeOf9
  v9 := Tryd.zeroValue9
  t21 := Tryd.underlying21
  a21 := Tryd.isAgg21
  z21 := Tryd.sizeOf21
  v21 := Tryd.zeroValue21
  t31 := Tryd.underlying31
  a31 := Tryd.isAgg31
  z31 := Tryd.sizeOf31
  v31 := Tryd.zeroValue31
  t40 := Tryd.underlying83
  a40 := Tryd.isAgg83
  z40 := Tryd.sizeOf83
  v40 := Tryd.zeroValue83
  t152 := Tryd.underlying89
  a152 := Tryd.isAgg89
  z152 := Tryd.sizeOf89
  v152 := Tryd.zeroValue89
  t154 := Tryd.underlying91
  a154 := Tryd.isAgg91
  z154 := Tryd.sizeOf91
  v154 := Tryd.zeroValue91 }
open Go.RowKit Go.Lib in
theorem Tryd.strings_FieldsFunc_runes (g : Nat) (lb : Array Value) (eg : ∀ args w, (callFunc g args).run Tryd.prog w = .ok (.enter g args) w) (p : Nat → Bool) (s : ByteArray) (w : World) (hs : s.size ≤ 4294967296) (hp : PredAtRunes Tryd.prog g lb p w) :
    Calls Tryd.prog 53 #[.string s, .func (.func g) #[] lb] w fun e w' => ∃ A, e = .returned (.slice (some ⟨A, 0, none⟩) (Lib.goFieldsP p s).length (Lib.goFieldsP p s).length) ∧ w.heap.size ≤ A ∧
      w'.ownsRow w.heap.size 9 1 (.slice (some ⟨A, 0, none⟩) (Lib.goFieldsP p s).length (Lib.goFieldsP p s).length) (Lib.goFieldsP p s).length ((Lib.goFieldsP p s).map Value.string) ∧ Below w.heap.size w w' := Any.strings_FieldsFunc_runes Tryd.lays229 g lb eg p s w hs hp (by kernel_rfl) (by kernel_rfl)
end Go.Proofs
/- The pieces of a text: the program's (by Go's FieldsFunc) and the reference's. Condition: a text of at most 2^32 bytes. -/
namespace Go.Proofs.YtdplcfineaikjaaDoor
set_option linter.unusedVariables false
set_option linter.unusedSimpArgs false
open Go Go.RowKit
/-- Texts as cells. -/
def txs (xs : List (List UInt8)) : List Value := xs.map str
theorem txs_len (xs : List (List UInt8)) : (txs xs).length = xs.length := List.length_map _
theorem txs_get {xs : List (List UInt8)} {j : Nat} (h : j < xs.length) : (txs xs)[j]? = some (str (xs.getD j [])) := by
  simp [txs, List.getD_eq_getElem?_getD, List.getElem?_eq_getElem h]
theorem one_txs (xs : List (List UInt8)) : ∀ u ∈ txs xs, u.oneCell' = true := fun u hu => by
  obtain ⟨x, _, rfl⟩ := List.mem_map.1 hu; rfl
/-- White space. -/
def blankN (x : Nat) : Bool := decide (x = 9 ∨ x = 10 ∨ x = 11 ∨ x = 12 ∨ x = 13 ∨ x = 32 ∨ x = 133 ∨ x = 160)
theorem space_y (W : World) {x : Nat} (h : x = 9 ∨ x = 10 ∨ x = 11 ∨ x = 12 ∨ x = 13 ∨ x = 32 ∨ x = 133 ∨ x = 160) : Calls Tryd.prog 56 #[.int .i32 (x : Int)] W fun e w' => e = .returned (.bool true) ∧ ∃ q, w' = W.drewN q := by
  rcases h with rfl | rfl | rfl | rfl | rfl | rfl | rfl | rfl
  all_goals
    go_enter Tryd.func56, Tryd.ntmps56
    go_wp2
    all_goals go_ret
    all_goals exact ⟨rfl, 0, rfl⟩
theorem space_n (W : World) {x : Nat} (h : ¬ (x = 9 ∨ x = 10 ∨ x = 11 ∨ x = 12 ∨ x = 13 ∨ x = 32 ∨ x = 133 ∨ x = 160)) : Calls Tryd.prog 56 #[.int .i32 (x : Int)] W fun e w' => e = .returned (.bool false) ∧ ∃ q, w' = W.drewN q := by
  go_enter Tryd.func56, Tryd.ntmps56
  go_wp2
  all_goals go_ret
  all_goals refine ⟨?_, 0, rfl⟩
  all_goals first | rfl | (exfalso; omega)
theorem space_pays (w : World) : PredAtRunes Tryd.prog 56 #[] blankN w := by
  intro W x hx hb
  unfold FnGives
  by_cases h : x = 9 ∨ x = 10 ∨ x = 11 ∨ x = 12 ∨ x = 13 ∨ x = 32 ∨ x = 133 ∨ x = 160
  · rw [show blankN x = true from decide_eq_true h]
    exact space_y W h
  · rw [show blankN x = false from decide_eq_false h]
    exact space_n W h
/-- A piece of a text; all pieces. -/
def pieceB (s : List UInt8) (x : Nat × Nat) : List UInt8 := (s.drop x.1).take (x.2 - x.1)
def piecesB (s : List UInt8) (l : List (Nat × Nat)) : List (List UInt8) := l.map (pieceB s)
def fieldsB (s : List UInt8) : List (List UInt8) := piecesB s (Lib.spansOfP blankN ⟨s.toArray⟩)
theorem fieldsB_go (s : List UInt8) : (Lib.goFieldsP blankN ⟨s.toArray⟩).map Value.string = txs (fieldsB s) := by
  unfold Lib.goFieldsP fieldsB piecesB txs
  rw [List.map_map, List.map_map]
  refine List.map_congr_left fun x _ => ?_
  show Value.string (ByteArray.extract _ _ _) = str _
  rw [ByteArray.extract_mk]; rfl
def TxP (xs : List (List UInt8)) (v : Value) (L : List Heaplet) : Prop := ∃ M ao cap, v = .slice ao xs.length cap ∧ L = [M] ∧ Row M 9 1 ao xs.length cap (txs xs)
theorem FFieldsF_f {s : List UInt8} (hs : s.length ≤ 4294967296) : Fn Tryd.prog 53 #[str s, .func (.func 56) #[] #[]] [] [] (TxP (fieldsB s)) := by
  have hlen : (Lib.goFieldsP blankN ⟨s.toArray⟩).length = (txs (fieldsB s)).length := by rw [← fieldsB_go, List.length_map]
  have hF : Fn Tryd.prog 53 #[str s, .func (.func 56) #[] #[]] [] [] _ := Fn.of_ownb (e := 9) (xs := txs (fieldsB s)) fun w _ => by
    have h := Tryd.strings_FieldsFunc_runes 56 #[] (enters_of Tryd.func56 (by kernel_rfl) rfl) blankN ⟨s.toArray⟩ w hs (space_pays w)
    rw [fieldsB_go, hlen] at h
    refine h.mono ?_
    rintro e w' ⟨A, rfl, hA, ho, hb⟩
    exact ⟨_, rfl, ⟨some ⟨A, 0, none⟩, _, rfl, ho⟩, hb⟩
  refine hF.mono ?_
  rintro v L ⟨M, ao, cap, rfl, rfl, h⟩
  rw [txs_len] at h ⊢
  exact ⟨M, ao, cap, rfl, rfl, h⟩
theorem HFields_f {s : List UInt8} (hs : s.length ≤ 4294967296) : Fn Tryd.prog 43 #[str s] [] [] (TxP (fieldsB s)) := by
  refine Fn.enter (vs := [str s]) Tryd.func43 rfl rfl rfl ?_
  intro E R hR
  change At _ _ E [R] _
  refine At.seq fun K1 hk_1 => ?_
  refine At.region ?_
  refine op_assign (nxlf rfl) rfl rfl ?_
  refine At.opsNil ?_
  refine At.norm (hk_1 ?_)
  refine At.seq fun K2 hk_2 => ?_
  refine At.region ?_
  refine op_move (nxlf rfl) rfl rfl ?_
  refine op_callA (nxla rfl) (.cons rfl (.cons rfl .nil)) (FFieldsF_f hs) Tryd.func53 rfl rfl (by simp) rfl ?_
  rintro v4 L4 ⟨N4, a4, c4, rfl, rfl, r4⟩
  change At _ _ _ [N4, R] _
  refine op_assign (nxlf rfl) rfl rfl ?_
  refine At.opsNil ?_
  refine At.norm (hk_2 ?_)
  refine At.ret (?_)
  refine At.ret1 (L1 := [N4]) rfl (.tmp rfl .nil) (.refl _) (.refl _) ?_
  exact ⟨N4, a4, c4, rfl, rfl, r4⟩
end Go.Proofs.YtdplcfineaikjaaDoor
/- Cells of numbers: what is set and what is zero. No condition. -/
namespace Go.Proofs.YtdplcfineaikjaaDoor
set_option linter.unusedVariables false
set_option linter.unusedSimpArgs false
open Go Go.RowKit
theorem set_u64s (l : List UInt64) (i : Nat) (x : UInt64) : (u64s l).set i (.int .u64 (x.toNat : Int)) = u64s (l.set i x) := by simp [u64s, List.map_set, vl]
theorem set_u8s (l : List UInt8) (i : Nat) (x : UInt8) : (u8s l).set i (.int .u8 (x.toNat : Int)) = u8s (l.set i x) := by simp [u8s, List.map_set, vb]
theorem set_u32s (l : List UInt32) (i : Nat) (x : UInt32) : (u32s l).set i (.int .u32 (x.toNat : Int)) = u32s (l.set i x) := by simp [u32s, List.map_set, vd]
theorem zero_u64s (m : Nat) : List.replicate m (Value.int .u64 0) = u64s (List.replicate m 0) := by simp [u64s, vl]
theorem zero_u8s (m : Nat) : List.replicate m (Value.int .u8 0) = u8s (List.replicate m 0) := by simp [u8s, vb]
theorem zero_u32s (m : Nat) : List.replicate m (Value.int .u32 0) = u32s (List.replicate m 0) := by simp [u32s, vd]
theorem ofNat_shl (x : UInt8) (m : Nat) : shl64 (UInt64.ofNat x.toNat) m = UInt64.ofNat (x.toNat * 2 ^ m) := by
  unfold shl64
  rw [UInt64.toNat_ofNat', Nat.mod_eq_of_lt (by have := x.toNat_lt; omega)]
end Go.Proofs.YtdplcfineaikjaaDoor
/- hexa.Bytes. Condition: a text of at most 2^40 bytes. -/
namespace Go.Proofs.YtdplcfineaikjaaDoor
set_option linter.unusedVariables false
set_option linter.unusedSimpArgs false
open Go Go.RowKit
theorem readF_digits {ask : List UInt8 → Nat} : ∀ (t : List Nat) (k : Nat) (acc : List UInt8), (∀ x ∈ acc, x.toNat < 16) → ∀ x ∈ (readF ask k acc t).1, x.toNat < 16 := by
  intro t
  induction t with
  | nil =>
    intro k acc h x hx
    by_cases h2 : k < 2
    · rw [readF_end0 h2] at hx; cases hx
    · rw [readF_end1 h2] at hx; exact h x hx
  | cons r t ih =>
    intro k acc h x hx
    by_cases h2 : k < 2
    · by_cases h3 : r = ox k
      · rw [readF_ox h2 h3] at hx; exact ih _ _ h x hx
      · rw [readF_no h2 h3] at hx; cases hx
    · cases hv : hexV r with
      | none => rw [readF_none h2 hv] at hx; cases hx
      | some v =>
        by_cases ha : ask acc = 0
        · rw [readF_some h2 hv ha] at hx
          refine ih _ _ (fun y hy => ?_) x hx
          rcases List.mem_append.1 hy with hy | hy
          · exact h y hy
          · obtain rfl := List.mem_singleton.1 hy
            have := hexV_lt hv
            rw [UInt8.toNat_ofNat']; omega
        · rw [readF_ask h2 hv ha] at hx; cases hx
theorem readF_len {ask : List UInt8 → Nat} : ∀ (t : List Nat) (k : Nat) (acc : List UInt8), (readF ask k acc t).1.length ≤ acc.length + t.length ∧ (readF ask k acc t).2.1 ≤ k + t.length := by
  intro t
  induction t with
  | nil =>
    intro k acc
    by_cases h2 : k < 2
    · rw [readF_end0 h2]; exact ⟨Nat.zero_le _, Nat.le_refl _⟩
    · rw [readF_end1 h2]; exact ⟨Nat.le_refl _, Nat.le_refl _⟩
  | cons r t ih =>
    intro k acc
    rw [List.length_cons]
    by_cases h2 : k < 2
    · by_cases h3 : r = ox k
      · rw [readF_ox h2 h3]; have := ih (k + 1) acc; omega
      · rw [readF_no h2 h3]; exact ⟨Nat.zero_le _, Nat.le_add_right _ _⟩
    · cases hv : hexV r with
      | none => rw [readF_none h2 hv]; exact ⟨Nat.zero_le _, Nat.le_add_right _ _⟩
      | some v =>
        by_cases ha : ask acc = 0
        · rw [readF_some h2 hv ha]
          have := ih (k + 1) (acc ++ [UInt8.ofNat v])
          rw [List.length_append, List.length_singleton] at this
          omega
        · rw [readF_ask h2 hv ha]; exact ⟨Nat.zero_le _, Nat.le_add_right _ _⟩
/-- The byte of two digits. -/
def hexPr (d : List UInt8) (i : Nat) : UInt8 := UInt8.ofNat (16 * (d.getD (2 * i) 0).toNat + (d.getD (2 * i + 1) 0).toNat)
def hexPs (d : List UInt8) (m : Nat) : List UInt8 := (List.range m).map (hexPr d)
theorem hexPs_succ (d : List UInt8) (m : Nat) : hexPs d (m + 1) = hexPs d m ++ [hexPr d m] := by simp [hexPs, List.range_succ]
theorem hexPs_len (d : List UInt8) (m : Nat) : (hexPs d m).length = m := by simp [hexPs]
theorem or16 : ∀ a : Nat, a < 16 → ∀ b : Nat, b < 16 → bits .or .u8 (IntKind.u8.wrap ((a : Int) * 2 ^ (min (4 : Int).toNat IntKind.u8.bits))) (b : Int) = ((16 * a + b : Nat) : Int) := by decide +kernel
theorem digit_lt {d : List UInt8} (h : ∀ x ∈ d, x.toNat < 16) (i : Nat) : (d.getD i 0).toNat < 16 := by
  rw [List.getD_eq_getElem?_getD]
  cases e : d[i]? with
  | none => decide
  | some x => exact h x (List.mem_of_getElem? e)
theorem pair_nat {d : List UInt8} (h : ∀ i, (d.getD i 0).toNat < 16) (i : Nat) : (((hexPr d i).toNat : Nat) : Int) = ((16 * (d.getD (2 * i) 0).toNat + (d.getD (2 * i + 1) 0).toNat : Nat) : Int) := by
  have h1 := h (2 * i)
  have h2 := h (2 * i + 1)
  rw [hexPr, UInt8.toNat_ofNat', Nat.mod_eq_of_lt (by omega)]
theorem put_at {a : List UInt8} {x z : UInt8} {n i : Nat} (hi : a.length = i) (hn : 0 < n) : (a ++ List.replicate n z).set i x = a ++ [x] ++ List.replicate (n - 1) z := by
  subst hi
  obtain ⟨k, rfl⟩ : ∃ k, n = k + 1 := ⟨n - 1, by omega⟩
  rw [List.set_append_right _ _ (Nat.le_refl _), Nat.sub_self, List.replicate_succ, List.set_cons_zero]
  simp
/-- The bytes of a text; what is wrong (0: nothing), and where. -/
def bytesR (s : List UInt8) : List UInt8 × Nat × Nat :=
  let z := readF (fun _ => 0) 0 [] (runesOf s)
  if z.2.2 ≠ 0 then ([], z.2.2, z.2.1) else if z.1.length % 2 = 1 then ([], 2, z.2.1) else (hexPs z.1 (z.1.length / 2), 0, 0)
def BytP (z : List UInt8 × Nat × Nat) (v : Value) (L : List Heaplet) : Prop := ∃ M a c, v = .tuple #[.slice a z.1.length c, faultV (z.2.1 : Int) (z.2.2 : Int)] ∧ L = [M] ∧ Row M 5 1 a z.1.length c (u8s z.1)
theorem askB_f : AskP 67 (fun _ => 0) := by
  intro N a n c l hs hn
  refine Fn.enter (vs := [.slice a n c]) Tryd.func67 rfl rfl rfl ?_
  intro E R hR
  change At _ _ E [R] _
  refine At.seq fun K1 hk_1 => ?_
  refine At.region ?_
  refine op_assign (nxlf rfl) rfl rfl ?_
  refine At.opsNil ?_
  refine At.norm (hk_1 ?_)
  refine At.seq fun K2 hk_2 => ?_
  refine At.region ?_
  refine op_assign (nxlf rfl) rfl rfl ?_
  refine At.opsNil ?_
  refine At.norm (hk_2 ?_)
  refine At.ret (?_)
  refine At.ret1 (L1 := []) rfl (.tmp rfl .nil) (.refl _) (.refl _) ?_
  exact ⟨rfl, rfl⟩
set_option maxRecDepth 100000 in
set_option maxHeartbeats 2000000 in
theorem FBytes_f (s : List UInt8) (hs : s.length ≤ 1099511627776) : Fn Tryd.prog 58 #[str s] [] [] (BytP (bytesR s)) := by
  obtain ⟨z, hz⟩ : ∃ z, readF (fun _ => 0) 0 [] (runesOf s) = z := ⟨_, rfl⟩
  have hF := FRead_f Tryd.func67 rfl rfl askB_f s hs
  have hdl := readF_digits (ask := fun _ => 0) (runesOf s) 0 [] (fun x hx => by cases hx)
  have hln := readF_len (ask := fun _ => 0) (runesOf s) 0 []
  have hrl := runes_len s
  have hR : bytesR s = if z.2.2 ≠ 0 then ([], z.2.2, z.2.1) else if z.1.length % 2 = 1 then ([], 2, z.2.1) else (hexPs z.1 (z.1.length / 2), 0, 0) := by rw [← hz]; rfl
  rw [hz] at hF hdl hln
  rw [hR]
  obtain ⟨d, k, wy⟩ := z
  simp only at hdl hln ⊢
  replace hF : Fn Tryd.prog 66 #[str s, .func (.func 67) #[] #[]] [] [] (fun v L => ∃ M a c, v = .tuple #[.slice a d.length c, .int .i64 (k : Int), faultV (wy : Int) ((if wy = 0 then 0 else k : Nat) : Int)] ∧ L = [M] ∧ RSl M 1 a d.length c (u8s d)) := hF
  have hdd := digit_lt hdl
  simp only [List.length_nil] at hln
  refine Fn.enter (vs := [str s]) Tryd.func58 rfl rfl rfl ?_
  intro E R hR
  change At _ _ E [R] _
  refine At.seq fun K1 hk_1 => ?_
  refine At.region ?_
  refine op_assign (nxlf rfl) rfl rfl ?_
  refine op_alloc (nxla rfl) ze48 rfl (fun N3 b3 B3 => ?_)
  change Blk N3 b3 _ [.int .i64 0, .int .i64 0] at B3
  change Blk N3 b3 _ [.int .i64 0, .int .i64 0] at B3
  refine At.opsNil ?_
  refine At.norm (hk_1 ?_)
  refine At.seq fun K2 hk_2 => ?_
  refine At.region ?_
  refine op_move (nxlf rfl) rfl rfl ?_
  refine op_callA (nxla rfl) (.cons rfl (.cons rfl .nil)) (hF) Tryd.func66 rfl rfl (by simp) rfl ?_
  rintro v11 L11 ⟨N11, a11, c11, rfl, rfl, s11⟩
  change At _ _ _ [N11, N3, R] _
  refine op_move (nxlf rfl) rfl rfl ?_
  refine op_extract (nxlf rfl) rfl rfl rfl ?_
  refine op_extract (nxlf rfl) rfl rfl rfl ?_
  refine op_extract (nxlf rfl) rfl rfl rfl ?_
  refine op_alloc (nxla rfl) ze48 rfl (fun N6 b6 B6 => ?_)
  change Blk N6 b6 _ [.int .i64 0, .int .i64 0] at B6
  refine op_assign (nxlf rfl) rfl rfl ?_
  refine op_assign (nxlf rfl) rfl rfl ?_
  refine op_store (nxl rfl) sz48 rfl rfl rfl rfl rfl B6 (by simp) sel0 (fun N6 B6 => ?_)
  simp only [setL, List.set] at B6
  refine At.opsNil ?_
  refine At.norm (hk_2 ?_)
  refine At.seq fun K3 hk_3 => ?_
  refine At.block ?_
  refine At.seq fun K4 hk_4 => ?_
  refine At.region ?_
  refine op_fieldAddr (nxlf rfl) fl48_0 rfl rfl ?_
  refine op_loadB (nxlf rfl) sc46 rfl B6 (by first | rfl) mem0 rfl ?_
  refine op_neq (nxlf rfl) rfl rfl rfl ?_
  refine op_assign (nxlf rfl) rfl rfl ?_
  refine At.opsNil ?_
  refine At.norm (hk_4 ?_)
  refine At.condP rfl (fun c15 => ?_) (fun c15 => ?_)
  · refine At.knowT (d := 15) rfl c15 ?_
    refine At.seq fun K5 hk_5 => ?_
    refine At.drawn [2] [0,1,2] (by kernel_rfl) (by kernel_rfl) ?_
    refine op_loadAggB (ds := [_, _]) (nxof rfl rfl rfl (by kernel_rfl)) ag48 rfl B6 rfl rfl mem0 rfl ?_
    refine op_assign (nxof rfl rfl rfl (by kernel_rfl)) rfl rfl ?_
    refine op_store (nxos rfl rfl rfl rfl) sz48 rfl rfl rfl rfl rfl B3 (by simp) sel2 (fun N3 B3 => ?_)
    simp only [setL, List.set] at B3
    refine At.oneNil ?_
    refine At.norm (hk_5 ?_)
    refine At.ret (At.inRet (At.thenRet (?_)))
    refine At.empty ?_
    refine At.sub (L' := [nilH, N3, R]) (.cons_cons _ (.cons_cons _ (.cons _ (.cons _ (.cons_cons _ (.slnil)))))) ?_
    refine At.perm sel2 ?_
    refine At.perm sel1 ?_
    refine At.perm sel2 ?_
    refine At.retN (L1 := [nilH]) rfl (.tmp rfl (.cell rfl (res_agg (ds := [_, _]) ag48 B3 rfl rfl mem0) .nil)) rfl (.cons _ (.refl _)) (.refl _) ?_
    have hw : wy ≠ 0 := by omega
    exact ⟨nilH, none, 0, by rw [if_pos hw, if_neg hw]; rfl, rfl, by rw [if_pos hw]; exact Row.nil _ _ _⟩
  · refine At.knowF (d := 15) rfl c15 ?_
    refine At.seq fun K6 hk_6 => ?_
    refine At.region ?_
    refine op_move (nxlf rfl) rfl rfl ?_
    refine op_lenS (nxlf rfl) se22 rfl rfl ?_
    refine op_rem (nxlf rfl) rfl rfl (by omega) (by omega) rfl ?_
    refine op_eql (nxlf rfl) rfl rfl rfl ?_
    refine op_assign (nxlf rfl) rfl rfl ?_
    refine At.opsNil ?_
    refine At.norm (hk_6 ?_)
    refine At.condP rfl (fun c20 => ?_) (fun c20 => ?_)
    · refine At.knowT (d := 20) rfl c20 ?_
      refine At.seq fun K7 hk_7 => ?_
      refine At.region ?_
      refine op_move (nxlf rfl) rfl rfl ?_
      refine op_callA (nxla rfl) (.cons rfl (.cons rfl .nil)) (FFault_f 2 (k : Int)) Tryd.func68 rfl rfl (by simp) rfl ?_
      rintro v26 L26 ⟨rfl, rfl⟩
      change At _ _ _ [N6, N11, N3, R] _
      refine op_assign (nxlf rfl) rfl rfl ?_
      refine op_store (nxl rfl) sz48 rfl rfl rfl rfl rfl B3 (by simp) sel2 (fun N3 B3 => ?_)
      simp only [setL, List.set] at B3
      refine At.opsNil ?_
      refine At.norm (hk_7 ?_)
      refine At.ret (At.inRet (At.thenRet (?_)))
      refine At.empty ?_
      refine At.sub (L' := [nilH, N3, R]) (.cons_cons _ (.cons_cons _ (.cons _ (.cons _ (.cons_cons _ (.slnil)))))) ?_
      refine At.perm sel2 ?_
      refine At.perm sel1 ?_
      refine At.perm sel2 ?_
      refine At.retN (L1 := [nilH]) rfl (.tmp rfl (.cell rfl (res_agg (ds := [_, _]) ag48 B3 rfl rfl mem0) .nil)) rfl (.cons _ (.refl _)) (.refl _) ?_
      have hw : ¬ wy ≠ 0 := by omega
      have hodd : d.length % 2 = 1 := by omega
      exact ⟨nilH, none, 0, by rw [if_neg hw, if_pos hodd]; rfl, rfl, by rw [if_neg hw, if_pos hodd]; exact Row.nil _ _ _⟩
    · refine At.knowF (d := 20) rfl c20 ?_
      refine At.skip ?_
      refine At.inNorm ?_
      refine At.norm (hk_3 ?_)
      refine At.seq fun K8 hk_8 => ?_
      refine At.region ?_
      refine op_move (nxlf rfl) rfl rfl ?_
      refine op_lenS (nxlf rfl) se22 rfl rfl ?_
      refine op_quoI (nxlf rfl) rfl rfl (by omega) (by omega) (by omega) rfl ?_
      refine op_make (nxla rfl) Tryd.underlying22 te5 rfl rfl (show _ = (((d.length / 2 : Nat)) : Int) from by omega) (show _ = (((d.length / 2 : Nat)) : Int) from by omega) (by omega) (by unfold maxLen; omega) rfl (fun N30 a30 r30 => ?_)
      rw [made_one _ _ rfl, zero_u8s] at r30
      have s30 := r30.rsl
      refine op_assign (nxlf rfl) rfl rfl ?_
      refine At.opsNil ?_
      refine At.norm (hk_8 ?_)
      refine At.seq fun K9 hk_9 => ?_
      refine At.seq fun K10 hk_10 => ?_
      refine At.region ?_
      refine op_move (nxlf rfl) rfl rfl ?_
      refine op_lenS (nxlf rfl) se22 rfl rfl ?_
      refine op_move (nxlf rfl) rfl rfl ?_
      refine At.opsNil ?_
      refine At.norm (hk_10 ?_)
      refine At.block ?_
      obtain ⟨m, hm⟩ : ∃ m, d.length / 2 = m := ⟨_, rfl⟩
      rw [hm] at r30 ⊢
      refine At.sub (L' := [N30, N11, N3, R]) (.cons_cons _ (.cons _ (.cons_cons _ (.cons_cons _ (.cons_cons _ (.slnil)))))) ?_
      refine At.loop (fun fr_ hp_ ms_ => ∃ (i : Nat) (N30 : Heaplet), fr_ = [(3, .pointer (some ⟨b3, 0, none⟩)), (4, .slice a11 d.length c11), (7, .slice a30 m m), (32, .int .i64 (m : Int)), (33, .int .i64 (i : Int))] ∧ hp_ = [N30, N11, N3, R] ∧ m - i = ms_ ∧ (i ≤ m) ∧ (Row N30 5 1 a30 m m (u8s (hexPs d i ++ List.replicate (m - i) 0)))) ?_ (.refl _) ⟨0, N30, rfl, rfl, rfl, Nat.zero_le _, r30⟩ ?_
      · exact .cons (by first | exact lkI rfl (by omega) | rfl) (.cons (by first | exact lkI rfl (by omega) | rfl) (.cons (by first | exact lkI rfl (by omega) | rfl) (.cons (by first | exact lkI rfl (by omega) | rfl) (.cons (by first | exact lkI rfl (by omega) | rfl) .nil))))
      rintro _ _ _ ⟨i, N30, rfl, rfl, rfl, hi, r30⟩
      have s30 := r30.rsl
      refine At.seq fun K11 hk_11 => ?_
      refine At.region ?_
      refine op_lss (nxlf rfl) rfl rfl rfl ?_
      refine At.opsNil ?_
      refine At.norm (hk_11 ?_)
      refine At.seq fun K12 hk_12 => ?_
      refine At.condP rfl (fun c34 => ?_) (fun c34 => ?_)
      · refine At.knowT (d := 34) rfl c34 ?_
        refine At.skip ?_
        refine At.norm (hk_12 ?_)
        refine At.seq fun K13 hk_13 => ?_
        refine At.block ?_
        refine At.seq fun K14 hk_14 => ?_
        refine At.region ?_
        refine op_move (nxlf rfl) rfl rfl ?_
        refine op_assign (nxlf rfl) rfl rfl ?_
        refine At.opsNil ?_
        refine At.norm (hk_14 ?_)
        refine At.drawn [16] [0,1,2,3,4,5,6,7,8,9,10,11,12,13,14,15,16] (by kernel_rfl) (by kernel_rfl) ?_
        refine op_move (nxof rfl rfl rfl (by kernel_rfl)) rfl rfl ?_
        refine op_move (nxof rfl rfl rfl (by kernel_rfl)) rfl rfl ?_
        refine op_move (nxof rfl rfl rfl (by kernel_rfl)) rfl rfl ?_
        refine op_move (nxof rfl rfl rfl (by kernel_rfl)) rfl rfl ?_
        refine op_mulI (nxof rfl rfl rfl (by kernel_rfl)) rfl rfl (by omega) (by omega) rfl ?_
        refine op_idx1 (nxof rfl rfl rfl (by kernel_rfl)) se22 rfl rfl s11 (show _ = (((2 * i : Nat)) : Int) from by omega) (by omega) rfl ?_
        refine op_loadE (nxof rfl rfl rfl (by kernel_rfl)) sc5 rfl s11 (by first | exact get8 (by omega) | exact get64 (by omega) | exact get32 (by omega)) (by first | exact mem0 | exact mem1 | exact mem2 | exact mem3 | exact mem4 | exact mem5 | exact mem6 | exact mem7 | exact mem8 | exact mem9) rfl ?_
        refine op_shlW (nxof rfl rfl rfl (by kernel_rfl)) rfl rfl (by omega) rfl ?_
        refine op_move (nxof rfl rfl rfl (by kernel_rfl)) rfl rfl ?_
        refine op_move (nxof rfl rfl rfl (by kernel_rfl)) rfl rfl ?_
        refine op_mulI (nxof rfl rfl rfl (by kernel_rfl)) rfl rfl (by omega) (by omega) rfl ?_
        refine op_addI (nxof rfl rfl rfl (by kernel_rfl)) rfl rfl (by omega) (by omega) rfl ?_
        refine op_idx1 (nxof rfl rfl rfl (by kernel_rfl)) se22 rfl rfl s11 (show _ = (((2 * i + 1 : Nat)) : Int) from by omega) (by omega) rfl ?_
        refine op_loadE (nxof rfl rfl rfl (by kernel_rfl)) sc5 rfl s11 (by first | exact get8 (by omega) | exact get64 (by omega) | exact get32 (by omega)) (by first | exact mem0 | exact mem1 | exact mem2 | exact mem3 | exact mem4 | exact mem5 | exact mem6 | exact mem7 | exact mem8 | exact mem9) rfl ?_
        refine op_bits (by simp) (nxof rfl rfl rfl (by kernel_rfl)) rfl rfl rfl ?_
        rw [or16 _ (hdd _) _ (hdd _), ← pair_nat hdd i]
        refine op_idx1 (nxof rfl rfl rfl (by kernel_rfl)) se22 rfl rfl s30 (show _ = (((i : Nat)) : Int) from by omega) (by omega) rfl ?_
        refine op_storeE (nxos rfl rfl rfl rfl) sz5 rfl rfl rfl rfl rfl r30 (by (simp [hexPs_len]; omega)) (by simp) sel0 (fun N30 r30 => ?_)
        simp only [setL] at r30
        rw [set_u8s, put_at (by rw [hexPs_len]) (by omega), ← hexPs_succ, show m - i - 1 = m - (i + 1) by omega] at r30
        have s30 := r30.rsl
        refine At.oneNil ?_
        refine At.inNorm ?_
        refine At.norm (hk_13 ?_)
        refine At.region ?_
        refine op_addI (nxlf rfl) rfl rfl (by omega) (by omega) rfl ?_
        refine op_move (nxlf rfl) rfl rfl ?_
        refine At.opsNil ?_
        refine At.norm ?_
        refine At.back ?_ (.refl _) ⟨i + 1, N30, rfl, rfl, rfl, by omega, r30⟩ ?_
        · exact .cons (by first | exact lkI rfl (by omega) | rfl) (.cons (by first | exact lkI rfl (by omega) | rfl) (.cons (by first | exact lkI rfl (by omega) | rfl) (.cons (by first | exact lkI rfl (by omega) | rfl) (.cons (by first | exact lkI rfl (by omega) | rfl) .nil))))
        · omega
      · refine At.knowF (d := 34) rfl c34 ?_
        refine At.exit (At.thenExit (At.thenExit (At.inHit ?_)))
        refine At.norm (hk_9 ?_)
        refine At.seq fun K15 hk_15 => ?_
        refine At.region ?_
        refine op_move (nxlf rfl) rfl rfl ?_
        refine op_build (out := [.int .i64 0, .int .i64 0]) (nxlf rfl) ze48 pl48 .nil rfl rfl ?_
        refine op_assign (nxlf rfl) rfl rfl ?_
        refine op_store (nxl rfl) sz48 rfl rfl rfl rfl rfl B3 (by simp) sel2 (fun N3 B3 => ?_)
        simp only [setL, List.set] at B3
        refine At.opsNil ?_
        refine At.norm (hk_15 ?_)
        refine At.ret (?_)
        refine At.sub (L' := [N3, N30, R]) (.cons_cons _ (.cons_cons _ (.cons _ (.cons_cons _ (.slnil))))) ?_
        refine At.retN (L1 := [N30]) rfl (.tmp rfl (.cell rfl (res_agg (ds := [_, _]) ag48 B3 rfl rfl mem0) .nil)) rfl (.cons _ (.refl _)) (.refl _) ?_
        have hw : ¬ wy ≠ 0 := by omega
        have hodd : ¬ d.length % 2 = 1 := by omega
        have him : i = m := by omega
        subst him
        rw [Nat.sub_self, List.replicate_zero, List.append_nil] at r30
        exact ⟨N30, a30, i, by rw [if_neg hw, if_neg hodd, hm, hexPs_len]; rfl, rfl, by rw [if_neg hw, if_neg hodd, hm, hexPs_len]; exact r30⟩
end Go.Proofs.YtdplcfineaikjaaDoor
/- A number's digits, the reference's digits; what both say: plain laws. No condition. -/
namespace Go.Proofs.YtdplcfineaikjaaDoor
set_option linter.unusedVariables false
set_option linter.unusedSimpArgs false
open Go
/-- What Number asks of each digit. -/
def askN (l : List UInt8) : Nat := if l.length = 1 ∧ (l.getD 0 0).toNat = 0 then 2 else if l.length = 64 then 3 else 0
def numD (l : List UInt8) : Nat := l.foldl (fun a x => 16 * a + x.toNat) 0
theorem numD_snoc (l : List UInt8) (x : UInt8) : numD (l ++ [x]) = 16 * numD l + x.toNat := by simp [numD]
theorem numD_take {l : List UInt8} {i : Nat} (h : i < l.length) : numD (l.take (i + 1)) = 16 * numD (l.take i) + (l.getD i 0).toNat := by
  rw [List.take_add_one, List.getElem?_eq_getElem h, Option.toList_some, numD_snoc, List.getD_eq_getElem?_getD, List.getElem?_eq_getElem h, Option.getD_some]
theorem numD_lt : ∀ (l : List UInt8), (∀ i, (l.getD i 0).toNat < 16) → ∀ i, i ≤ l.length → numD (l.take i) < 16 ^ i := by
  intro l h i
  induction i with
  | zero => intro _; exact Nat.lt_of_lt_of_le Nat.zero_lt_one (Nat.le_refl _)
  | succ i ih =>
    intro hi
    have := ih (by omega)
    have := h i
    rw [numD_take (by omega), Nat.pow_succ]; omega
theorem hexPow64 {i : Nat} (h : i < 64) : 16 ^ i * 16 ≤ 2 ^ 256 := by
  have : 16 ^ (i + 1) ≤ 16 ^ 64 := Nat.pow_le_pow_right (by decide) (by omega)
  rw [Nat.pow_succ] at this
  exact Nat.le_trans this (by decide)
theorem or_digit (V : Nat) {x : Nat} (h : x < 16) : V * 16 ||| x = 16 * V + x := by
  have := Nat.two_pow_add_eq_or_of_lt (i := 4) (b := x) h V
  rw [show (2 : Nat) ^ 4 = 16 from rfl] at this
  rw [Nat.mul_comm V 16, ← this]
/-- The number of a text; what is wrong (0: nothing), and where. -/
def numR (s : List UInt8) : Nat × Nat × Nat :=
  let z := readF askN 0 [] (runesOf s)
  if z.2.2 ≠ 0 then (0, z.2.2, z.2.1) else if z.1.length = 0 then (0, 2, z.2.1) else (numD z.1, 0, 0)
theorem readF_asked : ∀ (t : List Nat) (k : Nat) (acc : List UInt8), acc.length ≤ 64 → (readF askN k acc t).1.length ≤ 64 := by
  intro t
  induction t with
  | nil =>
    intro k acc h
    by_cases h2 : k < 2
    · rw [readF_end0 h2]; exact Nat.zero_le _
    · rw [readF_end1 h2]; exact h
  | cons r t ih =>
    intro k acc h
    by_cases h2 : k < 2
    · by_cases h3 : r = ox k
      · rw [readF_ox h2 h3]; exact ih _ _ h
      · rw [readF_no h2 h3]; exact Nat.zero_le _
    · cases hv : hexV r with
      | none => rw [readF_none h2 hv]; exact Nat.zero_le _
      | some v =>
        by_cases ha : askN acc = 0
        · rw [readF_some h2 hv ha]
          refine ih _ _ ?_
          have : acc.length ≠ 64 := fun e => by
            rw [askN] at ha
            split at ha
            · cases ha
            · first | cases ha | (rw [if_pos e] at ha; cases ha)
          rw [List.length_append, List.length_singleton]; omega
        · rw [readF_ask h2 hv ha]; exact Nat.zero_le _
/-- The reference's digits, and the place of the first rune that is wrong (-1: none). -/
def dgF : Nat → List UInt8 → List Nat → List UInt8 × Int
  | _, acc, [] => (acc, -1)
  | k, acc, r :: t => if k < 2 then (if r = ox k then dgF (k + 1) acc t else (acc, (k : Int))) else match hexV r with
    | none => (acc, (k : Int))
    | some v => dgF (k + 1) (acc ++ [UInt8.ofNat v]) t
def dgR (s : List UInt8) : List UInt8 × Int :=
  let z := dgF 0 [] (runesOf s)
  if 0 ≤ z.2 then z else if (runesOf s).length < 2 then ([], ((runesOf s).length : Int)) else z
variable {k r v : Nat} {acc : List UInt8} {t : List Nat}
theorem dgF_ox (h : k < 2) (hr : r = ox k) : dgF k acc (r :: t) = dgF (k + 1) acc t := by rw [dgF, if_pos h, if_pos hr]
theorem dgF_no (h : k < 2) (hr : ¬ r = ox k) : dgF k acc (r :: t) = (acc, (k : Int)) := by rw [dgF, if_pos h, if_neg hr]
theorem dgF_none (h : ¬ k < 2) (hr : hexV r = none) : dgF k acc (r :: t) = (acc, (k : Int)) := by rw [dgF, if_neg h, hr]
theorem dgF_some (h : ¬ k < 2) (hr : hexV r = some v) : dgF k acc (r :: t) = dgF (k + 1) (acc ++ [UInt8.ofNat v]) t := by rw [dgF, if_neg h, hr]
theorem dgF_ext : ∀ (t : List Nat) (k : Nat) (acc : List UInt8), ∃ e, (dgF k acc t).1 = acc ++ e ∧ e.length ≤ t.length ∧ -1 ≤ (dgF k acc t).2 ∧ (dgF k acc t).2 < (k + t.length : Nat) := by
  intro t
  induction t with
  | nil => intro k acc; exact ⟨[], (List.append_nil _).symm, Nat.le_refl _, Int.le_refl _, by show (-1 : Int) < _; omega⟩
  | cons r t ih =>
    intro k acc
    rw [List.length_cons]
    by_cases h2 : k < 2
    · by_cases h3 : r = ox k
      · rw [dgF_ox h2 h3]
        obtain ⟨e, e1, e2, e3, e4⟩ := ih (k + 1) acc
        exact ⟨e, e1, by omega, e3, by omega⟩
      · rw [dgF_no h2 h3]; exact ⟨[], (List.append_nil _).symm, Nat.zero_le _, by show (-1 : Int) ≤ (k : Int); omega, by show (k : Int) < _; omega⟩
    · cases hv : hexV r with
      | none => rw [dgF_none h2 hv]; exact ⟨[], (List.append_nil _).symm, Nat.zero_le _, by show (-1 : Int) ≤ (k : Int); omega, by show (k : Int) < _; omega⟩
      | some v =>
        rw [dgF_some h2 hv]
        obtain ⟨e, e1, e2, e3, e4⟩ := ih (k + 1) (acc ++ [UInt8.ofNat v])
        exact ⟨UInt8.ofNat v :: e, by rw [e1, List.append_assoc]; rfl, by rw [List.length_cons]; omega, e3, by omega⟩
/-- Bytes: both read the same digits. -/
theorem read_dg : ∀ (t : List Nat) (k : Nat) (acc : List UInt8), (k < 2 → acc = []) → readF (fun _ => 0) k acc t = if 0 ≤ (dgF k acc t).2 then ([], (dgF k acc t).2.toNat, 2) else if k + t.length < 2 then ([], k + t.length, 2) else ((dgF k acc t).1, k + t.length, 0) := by
  intro t
  induction t with
  | nil =>
    intro k acc h
    rw [dgF, if_neg (show ¬ (0 : Int) ≤ (-1) by decide)]
    by_cases h2 : k < 2
    · rw [readF_end0 h2, if_pos (by simpa using h2)]; rfl
    · rw [readF_end1 h2, if_neg (by simpa using h2)]; rfl
  | cons r t ih =>
    intro k acc h
    rw [List.length_cons, show k + (t.length + 1) = k + 1 + t.length by omega]
    by_cases h2 : k < 2
    · by_cases h3 : r = ox k
      · rw [readF_ox h2 h3, dgF_ox h2 h3, ih _ _ (fun _ => h h2)]
      · rw [readF_no h2 h3, dgF_no h2 h3, if_pos (Int.natCast_nonneg k), Int.toNat_natCast]
    · cases hv : hexV r with
      | none => rw [readF_none h2 hv, dgF_none h2 hv, if_pos (Int.natCast_nonneg k), Int.toNat_natCast]
      | some v => rw [readF_some h2 hv rfl, dgF_some h2 hv, ih _ _ (fun h => absurd h (by omega))]
theorem dgF_len : ∀ (t : List Nat) (k : Nat) (acc : List UInt8), (k < 2 → acc = []) → (2 ≤ k → acc.length + 2 = k) → (dgF k acc t).2 < 0 → 2 ≤ k + t.length → (dgF k acc t).1.length + 2 = k + t.length := by
  intro t
  induction t with
  | nil =>
    intro k acc h0 h _ hk
    rw [List.length_nil] at hk ⊢
    exact h (by omega)
  | cons r t ih =>
    intro k acc h0 h hz hk
    rw [List.length_cons, show k + (t.length + 1) = k + 1 + t.length by omega] at *
    by_cases h2 : k < 2
    · by_cases h3 : r = ox k
      · rw [dgF_ox h2 h3] at hz ⊢
        refine ih _ _ (fun _ => h0 h2) (fun h3 => ?_) hz hk
        rw [h0 h2, List.length_nil]; omega
      · rw [dgF_no h2 h3] at hz; exact absurd hz (by show ¬ (k : Int) < 0; omega)
    · cases hv : hexV r with
      | none => rw [dgF_none h2 hv] at hz; exact absurd hz (by show ¬ (k : Int) < 0; omega)
      | some v =>
        rw [dgF_some h2 hv] at hz ⊢
        exact ih _ _ (fun h => absurd h (by omega)) (fun _ => by have := h (by omega); rw [List.length_append, List.length_singleton]; omega) hz hk
/-- What the reference says of a text's bytes. -/
def rBytesR (s : List UInt8) : List UInt8 × Nat × Nat :=
  if 0 ≤ (dgR s).2 then ([], 2, (dgR s).2.toNat) else if (dgR s).1.length % 2 = 1 then ([], 2, (dgR s).1.length + 2) else (hexPs (dgR s).1 ((dgR s).1.length / 2), 0, 0)
theorem bytes_same (s : List UInt8) : bytesR s = rBytesR s := by
  unfold bytesR rBytesR dgR
  have e := read_dg (runesOf s) 0 [] (fun _ => rfl)
  have el := dgF_len (runesOf s) 0 [] (fun _ => rfl) (fun h => absurd h (by omega))
  rw [Nat.zero_add] at e el
  generalize runesOf s = rs at *
  rw [e]
  generalize dgF 0 [] rs = z at *
  obtain ⟨d, a⟩ := z
  simp only at el ⊢
  by_cases h1 : 0 ≤ a
  · simp only [if_pos h1]
    rw [if_pos (by decide)]
  · simp only [if_neg h1]
    by_cases h2 : rs.length < 2
    · simp only [if_pos h2]
      rw [if_pos (by decide), if_pos (Int.natCast_nonneg _), Int.toNat_natCast]
    · simp only [if_neg h2]
      have := el (by omega) (by omega)
      rw [if_neg (by decide), if_neg h1, this]
/-- What the reference says of a text's number. -/
def rNumR (s : List UInt8) : Nat × Nat × Nat :=
  if 1 < (dgR s).1.length ∧ ((dgR s).1.getD 0 0).toNat = 0 then (0, 2, 3) else if 64 < (dgR s).1.length then (0, 3, 66) else if 0 ≤ (dgR s).2 then (0, 2, (dgR s).2.toNat) else if (dgR s).1.length = 0 then (0, 2, 2) else (numD (dgR s).1, 0, 0)
/-- No digit so far was refused. -/
def NumOk (l : List UInt8) : Prop := ¬ (1 < l.length ∧ (l.getD 0 0).toNat = 0) ∧ l.length ≤ 64
theorem getD0 {l e : List UInt8} (h : 0 < l.length) : (l ++ e).getD 0 0 = l.getD 0 0 := by
  cases l with
  | nil => cases h
  | cons x l => rfl
theorem read_num : ∀ (t : List Nat) (k : Nat) (acc : List UInt8), (k < 2 → acc = []) → (2 ≤ k → acc.length + 2 = k) → NumOk acc →
    readF askN k acc t = if 1 < (dgF k acc t).1.length ∧ ((dgF k acc t).1.getD 0 0).toNat = 0 then ([], 3, 2) else if 64 < (dgF k acc t).1.length then ([], 66, 3) else if 0 ≤ (dgF k acc t).2 then ([], (dgF k acc t).2.toNat, 2) else if k + t.length < 2 then ([], k + t.length, 2) else ((dgF k acc t).1, k + t.length, 0) := by
  intro t
  induction t with
  | nil =>
    intro k acc h0 h ok
    rw [dgF]
    simp only
    rw [if_neg ok.1, if_neg (by have := ok.2; omega), if_neg (show ¬ (0 : Int) ≤ (-1) by decide)]
    by_cases h2 : k < 2
    · rw [readF_end0 h2, if_pos (by simpa using h2)]; rfl
    · rw [readF_end1 h2, if_neg (by simpa using h2)]; rfl
  | cons r t ih =>
    intro k acc h0 h ok
    have no64 : ¬ 64 < acc.length := by have := ok.2; omega
    rw [List.length_cons, show k + (t.length + 1) = k + 1 + t.length by omega]
    by_cases h2 : k < 2
    · by_cases h3 : r = ox k
      · rw [readF_ox h2 h3, dgF_ox h2 h3, ih _ _ (fun _ => h0 h2) (fun h3 => by rw [h0 h2, List.length_nil]; omega) ok]
      · rw [readF_no h2 h3, dgF_no h2 h3]
        simp only
        rw [if_neg ok.1, if_neg no64, if_pos (Int.natCast_nonneg k), Int.toNat_natCast]
    · cases hv : hexV r with
      | none =>
        rw [readF_none h2 hv, dgF_none h2 hv]
        simp only
        rw [if_neg ok.1, if_neg no64, if_pos (Int.natCast_nonneg k), Int.toNat_natCast]
      | some v =>
        have hk := h (by omega)
        have hl : (acc ++ [UInt8.ofNat v]).length = acc.length + 1 := by rw [List.length_append, List.length_singleton]
        rw [dgF_some h2 hv]
        by_cases ha : askN acc = 0
        · rw [readF_some h2 hv ha]
          have h1 : ¬ (acc.length = 1 ∧ (acc.getD 0 0).toNat = 0) := fun e => by rw [askN, if_pos e] at ha; cases ha
          have h64 : ¬ acc.length = 64 := fun e => by rw [askN, if_neg h1, if_pos e] at ha; cases ha
          refine ih _ _ (fun h => absurd h (by omega)) (fun _ => by omega) ⟨fun e => ?_, by omega⟩
          have hp : 0 < acc.length := by omega
          rw [getD0 hp] at e
          by_cases e1 : acc.length = 1
          · exact h1 ⟨e1, e.2⟩
          · exact ok.1 ⟨by omega, e.2⟩
        · rw [readF_ask h2 hv ha]
          obtain ⟨e, e1, _⟩ := dgF_ext t (k + 1) (acc ++ [UInt8.ofNat v])
          rw [e1]
          by_cases h1 : acc.length = 1 ∧ (acc.getD 0 0).toNat = 0
          · rw [if_pos ⟨by rw [List.length_append, hl]; omega, by rw [List.append_assoc, getD0 (by omega)]; exact h1.2⟩, askN, if_pos h1, show k = 3 by omega]
          · have h64 : acc.length = 64 := Classical.byContradiction fun e => ha (by rw [askN, if_neg h1, if_neg e])
            rw [if_neg (fun e => by
              have e2 := e.2
              rw [List.append_assoc, getD0 (by omega)] at e2
              exact ok.1 ⟨by omega, e2⟩), if_pos (by rw [List.length_append, hl]; omega), askN, if_neg h1, if_pos h64, show k = 66 by omega]
theorem num_same (s : List UInt8) : numR s = rNumR s := by
  unfold numR rNumR dgR
  have e := read_num (runesOf s) 0 [] (fun _ => rfl) (fun h => absurd h (by omega)) ⟨fun h => absurd h.1 (by decide), by decide⟩
  have el := dgF_len (runesOf s) 0 [] (fun _ => rfl) (fun h => absurd h (by omega))
  obtain ⟨x, ex, _⟩ := dgF_ext (runesOf s) 0 []
  have e2 : (runesOf s).length < 2 → (dgF 0 [] (runesOf s)).1.length ≤ (runesOf s).length - 2 ∨ (dgF 0 [] (runesOf s)).1 = [] := by
    intro h
    right
    generalize runesOf s = rs at h ⊢
    match rs, h with
    | [], _ => rfl
    | [r], _ =>
      by_cases h3 : r = ox 0
      · rw [dgF_ox (by decide) h3]; rfl
      · rw [dgF_no (by decide) h3]
  rw [Nat.zero_add] at e el
  generalize runesOf s = rs at *
  rw [e]
  generalize dgF 0 [] rs = z at *
  obtain ⟨d, a⟩ := z
  simp only at el e2 ⊢
  by_cases h1 : 0 ≤ a
  · simp only [if_pos h1]
    by_cases h3 : 1 < d.length ∧ (d.getD 0 0).toNat = 0
    · simp only [if_pos h3]; rw [if_pos (by decide)]
    · simp only [if_neg h3]
      by_cases h4 : 64 < d.length
      · simp only [if_pos h4]; rw [if_pos (by decide)]
      · simp only [if_neg h4]; rw [if_pos (by decide)]
  · simp only [if_neg h1]
    by_cases h2 : rs.length < 2
    · have hd : d = [] := by
        rcases e2 h2 with h | h
        · exact List.eq_nil_of_length_eq_zero (by omega)
        · exact h
      subst hd
      have h3 : ¬ (1 < ([] : List UInt8).length ∧ (([] : List UInt8).getD 0 0).toNat = 0) := fun h => absurd h.1 (by decide)
      have h4 : ¬ 64 < ([] : List UInt8).length := by decide
      simp only [if_neg h3, if_neg h4, if_pos h2]
      rw [if_pos (by decide), if_pos (Int.natCast_nonneg _), Int.toNat_natCast]
    · simp only [if_neg h2]
      have := el (by omega) (by omega)
      by_cases h3 : 1 < d.length ∧ (d.getD 0 0).toNat = 0
      · simp only [if_pos h3]; rw [if_pos (by decide)]
      · simp only [if_neg h3]
        by_cases h4 : 64 < d.length
        · simp only [if_pos h4]; rw [if_pos (by decide)]
        · simp only [if_neg h4]
          rw [if_neg (by decide), if_neg h1]
          by_cases h5 : d.length = 0
          · rw [if_pos h5, if_pos h5, show rs.length = 2 by omega]
          · rw [if_neg h5, if_neg h5]
end Go.Proofs.YtdplcfineaikjaaDoor
