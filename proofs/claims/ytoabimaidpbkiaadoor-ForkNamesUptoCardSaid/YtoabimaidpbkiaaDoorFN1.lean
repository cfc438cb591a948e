/- Texts in small letters: rune by rune and byte by byte. No condition. -/
import Derived.Lib.MapLaws
namespace Go.Proofs.YtoabimaidpbkiaaDoor
set_option linter.unusedVariables false
set_option linter.unusedSimpArgs false
open Go Go.Lib
/-- A rune, a byte in small letters. -/
def lowI (x : Int) : Int := if 65 ≤ x ∧ x ≤ 90 then x + 32 else x
def lowB (b : UInt8) : UInt8 := if 65 ≤ b.toNat ∧ b.toNat ≤ 90 then b + 32 else b
theorem lowB_nat (b : UInt8) : (lowB b).toNat = if 65 ≤ b.toNat ∧ b.toNat ≤ 90 then b.toNat + 32 else b.toNat := by
  unfold lowB
  split
  · rw [UInt8.toNat_add, show (32 : UInt8).toNat = 32 from rfl]; omega
  · rfl
theorem enc_high {r : Int} (h : 128 ≤ r) : ∃ x ∈ encodeRuneZ r, 128 ≤ x ∧ x < 256 := by
  by_cases h1 : r ≤ 2047
  · rw [encodeRuneZ_two h h1]; exact ⟨128 + r % 64, by simp, by omega, by omega⟩
  by_cases h2 : (2048 ≤ r ∧ r < 55296) ∨ (57343 < r ∧ r ≤ 65535)
  · rw [encodeRuneZ_three h2]; exact ⟨128 + r % 64, by simp, by omega, by omega⟩
  by_cases h3 : 65536 ≤ r ∧ r ≤ 1114111
  · rw [encodeRuneZ_four h3.1 h3.2]; exact ⟨128 + r % 64, by simp, by omega, by omega⟩
  · rw [encodeRuneZ_bad (by omega)]; exact ⟨189, by simp, by omega, by omega⟩
theorem encB_high {r : Int} (h : 128 ≤ r) : ∃ b ∈ encodeRune r, 128 ≤ b.toNat := by
  obtain ⟨x, hx, h1, h2⟩ := enc_high h
  refine ⟨x.toNat.toUInt8, List.mem_map.2 ⟨x, hx, rfl⟩, ?_⟩
  rw [show x.toNat.toUInt8 = UInt8.ofNat x.toNat from rfl, UInt8.toNat_ofNat']
  omega
theorem encB_low {b : UInt8} (h : b.toNat < 128) : encodeRune (lowI b.toNat) = [lowB b] := by
  have e : lowI (b.toNat : Int) = ((lowB b).toNat : Int) := by
    rw [lowB_nat]; unfold lowI
    by_cases hc : 65 ≤ b.toNat ∧ b.toNat ≤ 90
    · rw [if_pos hc, if_pos (by omega)]; omega
    · rw [if_neg hc, if_neg (by omega)]
  have hl : (lowB b).toNat < 128 := by rw [lowB_nat]; split <;> omega
  rw [e, encodeRune, encodeRuneZ_one (by omega) (by omega)]
  simp
theorem decode_low {b : UInt8} {t : List UInt8} (h : b.toNat < 128) : decodeL (b :: t) = (b.toNat, 1) := by
  rw [decodeL_N]
  unfold decodeN
  rw [if_pos (by simpa using h)]
  simp
theorem decode_high {b : UInt8} {t : List UInt8} (h : 128 ≤ b.toNat) : 128 ≤ (decodeL (b :: t)).1 := by
  rw [decodeL_N]
  rcases decodeN_shape (b :: t).length ((b :: t).getD 0 0).toNat ((b :: t).getD 1 0).toNat ((b :: t).getD 2 0).toNat ((b :: t).getD 3 0).toNat with ⟨c, e⟩ | ⟨c1, c2, c3, cv, e⟩ | ⟨c1, c2, c3, c4, cv, cs, e⟩ | ⟨c1, c2, c3, c4, c5, cv, cw, e⟩ | e
  · exfalso
    have : ((b :: t).getD 0 0).toNat = b.toNat := by simp
    omega
  all_goals (rw [e]; dsimp only; omega)
theorem map_ascii : ∀ l : List UInt8, (∀ b ∈ l, b.toNat < 128) → mapD lowI l = l.map lowB
  | [], _ => rfl
  | b :: t, h => by
    have hb := h b (List.mem_cons_self ..)
    have hp : 0 ≤ lowI (b.toNat : Int) := by unfold lowI; split <;> omega
    rw [mapD_step _ _ (List.cons_ne_nil _ _), decode_low hb]
    dsimp only
    rw [if_pos hp, encB_low hb, List.drop_succ_cons, List.drop_zero, map_ascii t (fun c hc => h c (List.mem_cons_of_mem _ hc))]
    rfl
theorem map_high : ∀ l : List UInt8, (∃ b ∈ l, 128 ≤ b.toNat) → ∃ b ∈ mapD lowI l, 128 ≤ b.toNat
  | [], h => absurd h.choose_spec.1 List.not_mem_nil
  | b :: t, h => by
    rw [mapD_step _ _ (List.cons_ne_nil _ _)]
    by_cases hb : 128 ≤ b.toNat
    · have hd := decode_high (t := t) hb
      have e : lowI ((decodeL (b :: t)).1 : Int) = ((decodeL (b :: t)).1 : Int) := by unfold lowI; rw [if_neg (by omega)]
      rw [e, if_pos (by omega)]
      obtain ⟨c, hc, h1⟩ := encB_high (r := ((decodeL (b :: t)).1 : Int)) (by omega)
      exact ⟨c, List.mem_append_left _ hc, h1⟩
    · have hb' : b.toNat < 128 := by omega
      obtain ⟨c, hc, h1⟩ := h
      have hct : c ∈ t := by
        rcases List.mem_cons.1 hc with rfl | h2
        · exact absurd h1 hb
        · exact h2
      obtain ⟨d, hd, h2⟩ := map_high t ⟨c, hct, h1⟩
      refine ⟨d, List.mem_append_right _ ?_, h2⟩
      rw [decode_low hb']
      exact hd
/-- A text of small letters alone is met alike, rune by rune and byte by byte. -/
theorem small_iff {l L : List UInt8} (hL : ∀ b ∈ L, b.toNat < 128) : mapD lowI l = L ↔ l.map lowB = L := by
  by_cases h : ∀ b ∈ l, b.toNat < 128
  · rw [map_ascii l h]
  · have hh : ∃ b ∈ l, 128 ≤ b.toNat := by
      apply Classical.byContradiction
      intro hn
      exact h fun b hb => Nat.lt_of_not_le fun hc => hn ⟨b, hb, hc⟩
    constructor
    · intro e
      obtain ⟨b, hb, h1⟩ := map_high l hh
      rw [e] at hb
      exact absurd (hL b hb) (by omega)
    · intro e
      obtain ⟨b, hb, h1⟩ := hh
      have h2 : lowB b ∈ L := by rw [← e]; exact List.mem_map.2 ⟨b, hb, rfl⟩
      have h3 := hL _ h2
      rw [lowB_nat] at h3
      split at h3 <;> omega
end Go.Proofs.YtoabimaidpbkiaaDoor
