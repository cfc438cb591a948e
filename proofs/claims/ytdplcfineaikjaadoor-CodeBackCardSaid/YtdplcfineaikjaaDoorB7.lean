/- Several texts in one: see the remarks ahead of each part. No condition but those told there. -/
import Derived.Test.YtdplcfineaikjaaDoorB6
import Derived.Test.YtdplcfineaikjaaDoorB5
import Derived.Lib.SplitLaws
import Derived.Test.YtdplcfineaikjaaDoorProg
import Derived.Test.YtdplcfineaikjaaDoorB1
import Derived.WalkKit
import Derived.WalkSpells
import Derived.WalkLawsBesides
import Derived.Lib.Hide
import Derived.Deep.DeepCutAuto
import Derived.Shelf.Strings.Fields
import Derived.Test.YtdplcfineaikjaaDoorB4
import Derived.Lib.ItoaNum
import Derived.Shelf.Strconv.Itoa3
import Derived.Shelf.Slices.SearchI
import Derived.Shelf.Slices.Empties
/- A text of digits and then a rune that is none: plain laws. No condition. -/
namespace Go.Proofs.YtdplcfineaikjaaDoor
set_option linter.unusedVariables false
set_option linter.unusedSimpArgs false
open Go
theorem decode_low {b : UInt8} {t : List UInt8} (h : b.toNat < 128) : Lib.decodeL (b :: t) = (b.toNat, 1) := by
  rw [Lib.decodeL_N]
  rcases Lib.decodeN_shape (b :: t).length ((b :: t).getD 0 0).toNat ((b :: t).getD 1 0).toNat ((b :: t).getD 2 0).toNat ((b :: t).getD 3 0).toNat with ⟨c, e⟩ | ⟨c1, c2, c3, cv, e⟩ | ⟨c1, c2, c3, c4, cv, cs, e⟩ | ⟨c1, c2, c3, c4, c5, cv, cw, e⟩ | e
  · rw [e]; rfl
  · exfalso; change b.toNat / 32 = 6 at c1; omega
  · exfalso; change b.toNat / 16 = 14 at c1; omega
  · exfalso; change b.toNat / 8 = 30 at c1; omega
  · have h2 : Lib.decodeN (b :: t).length b.toNat ((b :: t).getD 1 0).toNat ((b :: t).getD 2 0).toNat ((b :: t).getD 3 0).toNat = (b.toNat, 1) := by
      unfold Lib.decodeN
      rw [if_pos h]
    exact h2
theorem decode_high {b : UInt8} {t : List UInt8} (h : 128 ≤ b.toNat) : 128 ≤ (Lib.decodeL (b :: t)).1 := by
  rw [Lib.decodeL_N]
  rcases Lib.decodeN_shape (b :: t).length ((b :: t).getD 0 0).toNat ((b :: t).getD 1 0).toNat ((b :: t).getD 2 0).toNat ((b :: t).getD 3 0).toNat with ⟨c, e⟩ | ⟨c1, c2, c3, cv, e⟩ | ⟨c1, c2, c3, c4, cv, cs, e⟩ | ⟨c1, c2, c3, c4, c5, cv, cw, e⟩ | e
  · exfalso; change b.toNat < 128 at c; omega
  all_goals
    rw [e]
    simp only
    omega
theorem runes_low {b : UInt8} {t : List UInt8} (h : b.toNat < 128) : runesOf (b :: t) = b.toNat :: runesOf t := by
  rw [runes_step (List.cons_ne_nil _ _), decode_low h]; rfl
theorem runes_lows : ∀ (l t : List UInt8), (∀ b ∈ l, b.toNat < 128) → runesOf (l ++ t) = l.map (·.toNat) ++ runesOf t := by
  intro l
  induction l with
  | nil => intro t _; rfl
  | cons b l ih =>
    intro t h
    rw [List.cons_append, runes_low (h b (List.mem_cons_self ..)), ih t (fun x hx => h x (List.mem_cons_of_mem _ hx))]; rfl
/-- A byte that is a hex digit, and its value. -/
def hexOk (b : UInt8) : Prop := b.toNat < 128 ∧ (hexV b.toNat).isSome = true
def hexVal (b : UInt8) : UInt8 := UInt8.ofNat ((hexV b.toNat).getD 0)
theorem read_hexs {ask : List UInt8 → Nat} : ∀ (l : List UInt8) (k : Nat) (acc : List UInt8) (t : List Nat), (∀ b ∈ l, hexOk b) → 2 ≤ k → (∀ i, i < l.length → ask (acc ++ (l.take i).map hexVal) = 0) → readF ask k acc (l.map (·.toNat) ++ t) = readF ask (k + l.length) (acc ++ l.map hexVal) t := by
  intro l
  induction l with
  | nil => intro k acc t _ _ _; simp
  | cons b l ih =>
    intro k acc t h hk ha
    obtain ⟨_, hb⟩ := h b (List.mem_cons_self ..)
    obtain ⟨v, hv⟩ := Option.isSome_iff_exists.1 hb
    have e : UInt8.ofNat v = hexVal b := by rw [hexVal, hv]; rfl
    have h0 := ha 0 (by simp)
    rw [List.take_zero, List.map_nil, List.append_nil] at h0
    rw [List.map_cons, List.cons_append, readF_some (by omega) hv h0, e, ih (k + 1) (acc ++ [hexVal b]) t (fun x hx => h x (List.mem_cons_of_mem _ hx)) (by omega) (fun i hi => ?_)]
    · rw [List.length_cons, List.map_cons, List.append_assoc, show k + 1 + l.length = k + (l.length + 1) by omega]; rfl
    · have := ha (i + 1) (by rw [List.length_cons]; omega)
      rw [List.take_succ_cons, List.map_cons] at this
      rw [List.append_assoc]; exact this
theorem hexD_ok : ∀ q, q < 16 → hexOk (hexD.getD q 0) ∧ (hexVal (hexD.getD q 0)).toNat = q := by
  have h : ∀ q, q < 16 → ((hexD.getD q 0).toNat < 128 ∧ (hexV (hexD.getD q 0).toNat).isSome = true) ∧ (hexVal (hexD.getD q 0)).toNat = q := by decide +kernel
  exact h
theorem hexL_ok : ∀ (l : List UInt8), ∀ b ∈ hexL l, hexOk b := by
  intro l b hb
  obtain ⟨x, _, hx⟩ := List.mem_flatMap.1 hb
  have hx8 := x.toNat_lt
  rcases List.mem_cons.1 hx with rfl | hx
  · exact (hexD_ok _ (by omega)).1
  · obtain rfl := List.mem_singleton.1 hx
    exact (hexD_ok _ (by omega)).1
theorem lows_of {l : List UInt8} (h : ∀ b ∈ l, hexOk b) : ∀ b ∈ (48 :: 120 :: l : List UInt8), b.toNat < 128 := by
  intro b hb
  rcases List.mem_cons.1 hb with rfl | hb
  · decide
  · rcases List.mem_cons.1 hb with rfl | hb
    · decide
    · exact (h b hb).1
/-- What is read of 0x, digits, and what comes behind them. -/
theorem read_text {ask : List UInt8 → Nat} {l t : List UInt8} (h : ∀ b ∈ l, hexOk b) (ha : ∀ i, i < l.length → ask ((l.take i).map hexVal) = 0) : readF ask 0 [] (runesOf (48 :: 120 :: l ++ t)) = readF ask (2 + l.length) (l.map hexVal) (runesOf t) := by
  rw [runes_lows _ _ (lows_of h), List.map_cons, List.map_cons, List.cons_append, List.cons_append]
  change readF ask 0 [] (ox 0 :: ox 1 :: (l.map (·.toNat) ++ runesOf t)) = _
  rw [readF_ox (by decide) rfl, readF_ox (by decide) rfl, read_hexs l 2 [] _ h (by decide) (fun i hi => ha i hi)]
  rfl
/-- Digits, and then a rune that is none: what is wrong stands just there. -/
theorem bytes_wrong {l t : List UInt8} (h : ∀ b ∈ l, hexOk b) (ht : t ≠ []) (hn : hexV (Lib.decodeL t).1 = none) : bytesR (48 :: 120 :: l ++ t) = ([], 2, 2 + l.length) := by
  unfold bytesR
  rw [read_text h (fun _ _ => rfl), runes_step ht, readF_none (by omega) hn]
  rfl
/-- Digits alone. -/
theorem bytes_text {l : List UInt8} (h : ∀ b ∈ l, hexOk b) (he : l.length % 2 = 0) : bytesR (48 :: 120 :: l) = (hexPs (l.map hexVal) (l.length / 2), 0, 0) := by
  unfold bytesR
  have := read_text (ask := fun _ => 0) (t := []) h (fun _ _ => rfl)
  rw [List.append_nil, runes_nil, readF_end1 (by omega)] at this
  rw [this]
  simp only [List.length_map]
  rw [if_neg (by decide), if_neg (by omega)]
/-- The first rune of a rune's bytes. -/
theorem enc_first (r : Int) : ∃ b t, encL r = b :: t ∧ (b.toNat < 128 → t = []) := by
  have hc : (if Utf8.valid r then r.toNat else Utf8.runeError) ≤ 1114111 := by
    split
    · rename_i h
      unfold Utf8.valid at h
      simp at h
      omega
    · decide
  unfold encL Utf8.encode
  generalize (if Utf8.valid r then r.toNat else Utf8.runeError) = c at hc ⊢
  simp only
  by_cases h1 : c < 128
  · rw [if_pos h1]; exact ⟨_, [], rfl, fun _ => rfl⟩
  · rw [if_neg h1]
    by_cases h2 : c < 2048
    · rw [if_pos h2]
      refine ⟨_, _, rfl, fun hb => ?_⟩
      rw [UInt8.toNat_ofNat'] at hb; omega
    · rw [if_neg h2]
      by_cases h3 : c < 65536
      · rw [if_pos h3]
        refine ⟨_, _, rfl, fun hb => ?_⟩
        rw [UInt8.toNat_ofNat'] at hb; omega
      · rw [if_neg h3]
        refine ⟨_, _, rfl, fun hb => ?_⟩
        rw [UInt8.toNat_ofNat'] at hb; omega
theorem first_same {r : Int} (t : List UInt8) (h : hexV (Lib.decodeL (encL r)).1 = none) : hexV (Lib.decodeL (encL r ++ t)).1 = none := by
  obtain ⟨b, u, e, hu⟩ := enc_first r
  rw [e] at h ⊢
  by_cases hb : b.toNat < 128
  · rw [hu hb] at h ⊢
    rw [decode_low hb] at h
    rw [List.cons_append, decode_low hb]; exact h
  · rw [List.cons_append]
    exact hexV_high (decode_high (by omega))
end Go.Proofs.YtdplcfineaikjaaDoor
/- What is written reads back: bytes as digits. No condition. -/
namespace Go.Proofs.YtdplcfineaikjaaDoor
set_option linter.unusedVariables false
set_option linter.unusedSimpArgs false
open Go
def pairD (b : UInt8) : List UInt8 := [UInt8.ofNat (b.toNat / 16), UInt8.ofNat (b.toNat % 16)]
theorem hexVal_B (b : UInt8) : (hexB b).map hexVal = pairD b := by
  have h8 := b.toNat_lt
  have e : ∀ q, q < 16 → hexVal (hexD.getD q 0) = UInt8.ofNat q := fun q h => by
    apply UInt8.toNat_inj.1
    rw [(hexD_ok q h).2, UInt8.toNat_ofNat']; omega
  rw [hexB, List.map_cons, List.map_cons, List.map_nil, e _ (by omega), e _ (by omega)]; rfl
theorem hexVal_L (l : List UInt8) : (hexL l).map hexVal = l.flatMap pairD := by
  induction l with
  | nil => rfl
  | cons b l ih => rw [hexL, List.flatMap_cons, List.map_append, hexVal_B, List.flatMap_cons, ← ih]; rfl
theorem hexPs_cons (x y : UInt8) (d : List UInt8) (m : Nat) : hexPs (x :: y :: d) (m + 1) = UInt8.ofNat (16 * x.toNat + y.toNat) :: hexPs d m := by
  rw [hexPs, List.range_succ_eq_map, List.map_cons, List.map_map]
  refine congrArg (List.cons (UInt8.ofNat (16 * x.toNat + y.toNat))) (List.map_congr_left fun i _ => ?_)
  show hexPr (x :: y :: d) (i + 1) = hexPr d i
  unfold hexPr
  rw [show 2 * (i + 1) = 2 * i + 1 + 1 by omega, show 2 * i + 1 + 1 + 1 = (2 * i + 1) + 1 + 1 by omega]
  simp only [List.getD_cons_succ]
theorem hexPs_pairs (l : List UInt8) : hexPs (l.flatMap pairD) l.length = l := by
  induction l with
  | nil => rfl
  | cons b l ih =>
    have h8 := b.toNat_lt
    rw [List.flatMap_cons, List.length_cons]
    show hexPs (_ :: _ :: (l.flatMap pairD)) _ = _
    rw [hexPs_cons, ih]
    refine congrArg (· :: l) ?_
    apply UInt8.toNat_inj.1
    rw [UInt8.toNat_ofNat', UInt8.toNat_ofNat', UInt8.toNat_ofNat']; omega
theorem bytes_back {t l : List UInt8} (h : ∀ b ∈ t, hexOk b) (ht : t.length = 2 * l.length) (hv : t.map hexVal = l.flatMap pairD) : bytesR (48 :: 120 :: t) = (l, 0, 0) := by
  rw [bytes_text h (by omega), hv, show t.length / 2 = l.length by omega, hexPs_pairs]
theorem bytes_hexT (l : List UInt8) : bytesR (hexT l) = (l, 0, 0) := bytes_back (hexL_ok l) (hexL_len l) (hexVal_L l)
end Go.Proofs.YtdplcfineaikjaaDoor
/- Lines joined and parted; the pieces of a line: plain laws. No condition. -/
namespace Go.Proofs.YtdplcfineaikjaaDoor
set_option linter.unusedVariables false
set_option linter.unusedSimpArgs false
open Go Go.RowKit
/-- Lines joined by line feeds. -/
def joinN : List (List UInt8) → List UInt8
  | [] => []
  | [x] => x
  | x :: y :: t => x ++ 10 :: joinN (y :: t)
theorem joinN_snoc : ∀ (xs : List (List UInt8)) (x : List UInt8), joinN (xs ++ [x]) = if xs = [] then x else joinN xs ++ [10] ++ x
  | [], x => rfl
  | [y], x => by simp [joinN]
  | y :: z :: t, x => by
    have ih := joinN_snoc (z :: t) x
    rw [if_neg (by simp)] at ih
    rw [if_neg (by simp), List.cons_append, List.cons_append, joinN, ← List.cons_append, ih, joinN]
    simp
theorem joinN_len : ∀ (xs : List (List UInt8)) (k : Nat), (∀ x ∈ xs, x.length ≤ k) → (joinN xs).length ≤ xs.length * (k + 1)
  | [], k, _ => Nat.zero_le _
  | [x], k, h => by have := h x (by simp); rw [joinN, List.length_singleton]; omega
  | x :: y :: t, k, h => by
    have h1 := h x (by simp)
    have ih := joinN_len (y :: t) k (fun z hz => h z (List.mem_cons_of_mem _ hz))
    rw [joinN, List.length_append, List.length_cons, List.length_cons (a := x), Nat.succ_mul]
    omega
theorem occ_one {s : List UInt8} {c : UInt8} {i : Nat} : Lib.occAt s [c] i = true ↔ s[i]? = some c := by
  constructor
  · intro h; exact Lib.occAt_head rfl h
  · intro h
    obtain ⟨hlt, rfl⟩ := List.getElem?_eq_some_iff.1 h
    rw [Lib.occAt, List.isPrefixOf_iff_prefix]
    exact ⟨_, (List.drop_eq_getElem_cons hlt).symm⟩
theorem occ_no {s : List UInt8} {c : UInt8} {i : Nat} (h : s[i]? ≠ some c) : Lib.occAt s [c] i = false := by
  cases e : Lib.occAt s [c] i with
  | false => rfl
  | true => exact absurd (occ_one.1 e) h
theorem index_feed {x t : List UInt8} {c : UInt8} (h : c ∉ x) : Lib.index (x ++ c :: t) [c] = (x.length : Int) := by
  refine Lib.index_first (by simp) (occ_one.2 (by simp)) fun j hj => occ_no ?_
  rw [List.getElem?_append_left hj]
  intro e
  exact h (List.mem_of_getElem? e)
theorem index_nofeed {x : List UInt8} {c : UInt8} (h : c ∉ x) : Lib.index x [c] = -1 := by
  refine Lib.index_none fun j hj => occ_no ?_
  intro e
  exact h (List.mem_of_getElem? e)
theorem count_no {x : List UInt8} {c : UInt8} (h : c ∉ x) : Lib.count x [c] = 0 := by rw [Lib.count_one]; exact List.count_eq_zero.2 h
theorem count_join : ∀ (xs : List (List UInt8)), (∀ x ∈ xs, (10 : UInt8) ∉ x) → Lib.count (joinN xs) [10] = xs.length - 1
  | [], _ => by rw [Lib.count_one]; rfl
  | [x], h => count_no (h x (by simp))
  | x :: y :: t, h => by
    have ih := count_join (y :: t) (fun z hz => h z (List.mem_cons_of_mem _ hz))
    rw [Lib.count_one] at ih ⊢
    rw [joinN, List.count_append, List.count_cons_self, ih, List.count_eq_zero.2 (h x (by simp))]
    simp
theorem split_join : ∀ (xs : List (List UInt8)), xs ≠ [] → (∀ x ∈ xs, (10 : UInt8) ∉ x) → Lib.splitK [10] 0 (xs.length - 1) (joinN xs) = xs
  | [], h, _ => absurd rfl h
  | [x], _, _ => rfl
  | x :: y :: t, _, h => by
    have ih := split_join (y :: t) (by simp) (fun z hz => h z (List.mem_cons_of_mem _ hz))
    have hi : Lib.index (joinN (x :: y :: t)) [10] = (x.length : Int) := index_feed (h x (by simp))
    show Lib.splitK [10] 0 ((y :: t).length - 1 + 1) _ = _
    rw [Lib.splitK, hi, if_neg (by simp <;> omega)]
    rw [show ((x.length : Nat) : Int).toNat + 0 = x.length by omega, show ((x.length : Nat) : Int).toNat + ([10] : List UInt8).length = x.length + 1 by simp]
    rw [joinN, List.take_left', List.drop_append, List.drop_eq_nil_of_le (by omega)]
    · rw [show x.length + 1 - x.length = 1 by omega, List.drop_succ_cons, List.drop_zero, List.nil_append, ih]
    rfl
/-- What a text is parted to. -/
def rowsOf (xs : List (List UInt8)) : List (List UInt8) := if xs = [] then [[]] else xs
theorem split_rows {xs : List (List UInt8)} (h : ∀ x ∈ xs, (10 : UInt8) ∉ x) : Lib.splitK [10] 0 (Lib.count (joinN xs) [10]) (joinN xs) = rowsOf xs ∧ (rowsOf xs).length = Lib.count (joinN xs) [10] + 1 := by
  rw [count_join xs h, rowsOf]
  by_cases h0 : xs = []
  · subst h0; exact ⟨rfl, rfl⟩
  · rw [if_neg h0]
    refine ⟨split_join xs h0 h, ?_⟩
    have : 0 < xs.length := List.length_pos_iff.2 h0
    omega
/-! The pieces of a line. -/
/-- A text without white space. -/
def okW (w : List UInt8) : Prop := 0 < w.length ∧ ∀ b ∈ w, 33 ≤ b.toNat ∧ b.toNat < 127
theorem okW_at {s w : List UInt8} {q i : Nat} (hw : okW w) (hs : (s.drop q).take w.length = w) (hi : i < w.length) : q + i < s.length ∧ 33 ≤ (s.getD (q + i) 0).toNat ∧ (s.getD (q + i) 0).toNat < 127 := by
  have hl := congrArg List.length hs
  rw [List.length_take, List.length_drop] at hl
  have hlt : q + i < s.length := by omega
  have he : s[q + i]? = w[i]? := by
    conv => rhs; rw [← hs]
    rw [List.getElem?_take, if_pos hi, List.getElem?_drop]
  rw [List.getElem?_eq_getElem hi] at he
  rw [List.getD_eq_getElem?_getD, he, Option.getD_some]
  exact ⟨hlt, hw.2 _ (List.getElem_mem hi)⟩
theorem dec_low {t : List UInt8} {q : Nat} (hq : q < t.length) (h : (t.getD q 0).toNat < 128) : (Lib.decodeL (t.drop q)) = ((t.getD q 0).toNat, 1) := by
  have e : t.drop q = t.getD q 0 :: t.drop (q + 1) := by
    rw [List.drop_eq_getElem_cons hq, List.getD_eq_getElem?_getD, List.getElem?_eq_getElem hq, Option.getD_some]
  rw [e]
  exact decode_low h
section
variable {s : List UInt8} {f q x : Nat} {st : Option Nat} {acc : List (Nat × Nat)}
theorem spn_no (h : q < s.length) (h1 : 33 ≤ (s.getD q 0).toNat) (h2 : (s.getD q 0).toNat < 127) : Lib.spansFromP blankN ⟨s.toArray⟩ (f + 1) q st acc = Lib.spansFromP blankN ⟨s.toArray⟩ f (q + 1) (some (st.getD q)) acc := by
  have e : (⟨s.toArray⟩ : ByteArray).size = s.length := rfl
  have hb : ¬ blankN (s.getD q 0).toNat = true := fun e => by have := of_decide_eq_true e; omega
  cases st with
  | none => rw [Lib.spansFromP, e, if_pos h, decode_at, dec_low h (by omega), if_neg hb]; rfl
  | some x => rw [Lib.spansFromP, e, if_pos h, decode_at, dec_low h (by omega), if_neg hb]; rfl
theorem spn_yes (h : q < s.length) (h1 : (s.getD q 0).toNat = 32) : Lib.spansFromP blankN ⟨s.toArray⟩ (f + 1) q (some x) acc = Lib.spansFromP blankN ⟨s.toArray⟩ f (q + 1) none (acc ++ [(x, q)]) := by
  have e : (⟨s.toArray⟩ : ByteArray).size = s.length := rfl
  have hb : blankN (s.getD q 0).toNat = true := decide_eq_true (by omega)
  rw [Lib.spansFromP, e, if_pos h, decode_at, dec_low h (by omega), if_pos hb]
theorem spn_word {w : List UInt8} (hw : okW w) (hs : (s.drop q).take w.length = w) : ∀ i f, i ≤ w.length → Lib.spansFromP blankN ⟨s.toArray⟩ (f + i) q none acc = Lib.spansFromP blankN ⟨s.toArray⟩ f (q + i) (if i = 0 then none else some q) acc := by
  intro i
  induction i with
  | zero => intro f _; rfl
  | succ i ih =>
    intro f hi
    obtain ⟨h1, h2, h3⟩ := okW_at hw hs (show i < w.length by omega)
    rw [show f + (i + 1) = (f + 1) + i by omega, ih (f + 1) (by omega), spn_no h1 h2 h3, if_neg (show ¬ i + 1 = 0 by omega)]
    by_cases h0 : i = 0
    · subst h0; rfl
    · simp only [if_neg h0]; rfl
/-- A word and a space; a word at the end. -/
theorem spn_sp {w : List UInt8} (hw : okW w) (hs : (s.drop q).take (w.length + 1) = w ++ [32]) (f : Nat) : Lib.spansFromP blankN ⟨s.toArray⟩ (f + (w.length + 1)) q none acc = Lib.spansFromP blankN ⟨s.toArray⟩ f (q + w.length + 1) none (acc ++ [(q, q + w.length)]) := by
  have hl := congrArg List.length hs
  rw [List.length_take, List.length_drop, List.length_append, List.length_singleton] at hl
  have hs1 : (s.drop q).take w.length = w := by
    have := congrArg (List.take w.length) hs
    rwa [List.take_take, Nat.min_eq_left (by omega), List.take_left'] at this
    rfl
  have hsp : (s.getD (q + w.length) 0) = 32 := by
    have : ((s.drop q).take (w.length + 1))[w.length]? = some 32 := by rw [hs]; simp
    rw [List.getElem?_take, if_pos (by omega), List.getElem?_drop] at this
    rw [List.getD_eq_getElem?_getD, this]; rfl
  rw [show f + (w.length + 1) = (f + 1) + w.length by omega, spn_word hw hs1 w.length (f + 1) (Nat.le_refl _), if_neg (by have := hw.1; omega), spn_yes (by omega) (by rw [hsp]; rfl)]
theorem spn_end {w : List UInt8} (hw : okW w) (hs : s.drop q = w) (f : Nat) : Lib.spansFromP blankN ⟨s.toArray⟩ (f + w.length) q none acc = (acc, some q) := by
  have hl := congrArg List.length hs
  rw [List.length_drop] at hl
  have hs1 : (s.drop q).take w.length = w := by rw [hs, List.take_length]
  have h0 := hw.1
  rw [spn_word hw hs1 w.length f (Nat.le_refl _), if_neg (by omega), Lib.spansFromP_end]
  show ¬ q + w.length < s.length
  omega
end
theorem fields_two {a b : List UInt8} (ha : okW a) (hb : okW b) : fieldsB (a ++ [32] ++ b) = [a, b] := by
  have e1 : Lib.spansFromP blankN ⟨(a ++ [32] ++ b).toArray⟩ (b.length + (a.length + 1)) 0 none [] = ([(0, a.length)], some (a.length + 1)) := by
    rw [spn_sp ha (by rw [List.drop_zero, List.take_left' (by simp)]) b.length]
    have := spn_end (s := a ++ [32] ++ b) (q := 0 + a.length + 1) (acc := [] ++ [(0, 0 + a.length)]) hb (by rw [List.drop_left' (by simp <;> omega)]) 0
    rw [Nat.zero_add] at this
    rw [this]
    simp
  have e2 : Lib.spansOfP blankN ⟨(a ++ [32] ++ b).toArray⟩ = [(0, a.length), (a.length + 1, (a ++ [32] ++ b).length)] := by
    unfold Lib.spansOfP
    have hz : (ByteArray.mk (a ++ [32] ++ b).toArray).size = b.length + (a.length + 1) := by
      show (a ++ [32] ++ b).length = _
      simp only [List.length_append, List.length_singleton]; omega
    rw [hz, e1]
    rfl
  unfold fieldsB
  rw [e2]
  simp [piecesB, pieceB]
  rw [List.take_of_length_le (by omega)]
theorem fields_three {a b c : List UInt8} (ha : okW a) (hb : okW b) (hc : okW c) : fieldsB (a ++ [32] ++ b ++ [32] ++ c) = [a, b, c] := by
  have e1 : Lib.spansFromP blankN ⟨(a ++ [32] ++ b ++ [32] ++ c).toArray⟩ (c.length + (b.length + 1) + (a.length + 1)) 0 none [] = ([(0, a.length), (a.length + 1, a.length + 1 + b.length)], some (a.length + 1 + b.length + 1)) := by
    rw [spn_sp ha (by rw [List.drop_zero, List.append_assoc, List.append_assoc, List.take_left' (by simp)]) _]
    rw [spn_sp hb (by rw [show a ++ [32] ++ b ++ [32] ++ c = (a ++ [32]) ++ ((b ++ [32]) ++ c) by simp, List.drop_left' (by simp), List.take_left' (by simp)]) _]
    have := spn_end (s := a ++ [32] ++ b ++ [32] ++ c) (q := 0 + a.length + 1 + b.length + 1) (acc := [] ++ [(0, 0 + a.length)] ++ [(0 + a.length + 1, 0 + a.length + 1 + b.length)]) hc (by rw [List.drop_left' (by simp <;> omega)]) 0
    rw [Nat.zero_add] at this
    rw [this]
    simp
  have e2 : Lib.spansOfP blankN ⟨(a ++ [32] ++ b ++ [32] ++ c).toArray⟩ = [(0, a.length), (a.length + 1, a.length + 1 + b.length), (a.length + 1 + b.length + 1, (a ++ [32] ++ b ++ [32] ++ c).length)] := by
    unfold Lib.spansOfP
    have hz : (ByteArray.mk (a ++ [32] ++ b ++ [32] ++ c).toArray).size = c.length + (b.length + 1) + (a.length + 1) := by
      show (a ++ [32] ++ b ++ [32] ++ c).length = _
      simp only [List.length_append, List.length_singleton]; omega
    rw [hz, e1]
    rfl
  unfold fieldsB
  rw [e2]
  have d1 : ((a ++ [32] ++ b ++ [32] ++ c).drop 0).take (a.length - 0) = a := by rw [List.drop_zero, Nat.sub_zero, List.append_assoc, List.append_assoc, List.append_assoc, List.take_left' rfl]
  have d2 : ((a ++ [32] ++ b ++ [32] ++ c).drop (a.length + 1)).take (a.length + 1 + b.length - (a.length + 1)) = b := by
    rw [show a ++ [32] ++ b ++ [32] ++ c = (a ++ [32]) ++ (b ++ ([32] ++ c)) by simp, List.drop_left' (by simp), List.take_left' (by omega)]
  have d3 : ((a ++ [32] ++ b ++ [32] ++ c).drop (a.length + 1 + b.length + 1)).take ((a ++ [32] ++ b ++ [32] ++ c).length - (a.length + 1 + b.length + 1)) = c := by
    rw [List.drop_left' (by simp <;> omega), List.take_of_length_le (by simp <;> omega)]
  simp only [piecesB, List.map_cons, List.map_nil, pieceB]
  rw [d1, d2, d3]
theorem fields_nil : fieldsB [] = [] := rfl
end Go.Proofs.YtdplcfineaikjaaDoor
/- Layer 13: fork.since and helps for the walks over forks. No condition but those told below. -/
namespace Go.Proofs.YtdplcfineaikjaaDoor
set_option linter.unusedVariables false
set_option linter.unusedSimpArgs false
open Go.RowKit

theorem ret_of {w w' : World} {R : Value → World → Prop} {v : Value} (hR : R v w') (hb : Below w.heap.size w w') : Ret w R (.returned v) w' := ⟨v, rfl, hR, hb⟩

/-- The fork from which on there is an operation; 99: there is none. -/
def firstM (op : Int) : Int :=
  if (0 ≤ op ∧ op ≤ 11) ∨ (16 ≤ op ∧ op ≤ 26) ∨ op = 32 ∨ (48 ≤ op ∧ op ≤ 60) ∨ (64 ≤ op ∧ op ≤ 69) ∨ (80 ≤ op ∧ op ≤ 91) ∨ (96 ≤ op ∧ op ≤ 164) ∨ (240 ≤ op ∧ op ≤ 243) ∨ op = 255 then 0
  else if op = 244 then 1
  else if op = 61 ∨ op = 62 ∨ op = 250 ∨ op = 253 then 4
  else if (27 ≤ op ∧ op ≤ 29) ∨ op = 63 ∨ op = 245 then 5
  else if op = 70 ∨ op = 71 then 7
  else if op = 72 then 10
  else if op = 95 then 14
  else if op = 73 ∨ op = 74 ∨ (92 ≤ op ∧ op ≤ 94) then 15
  else 99
def sinceM (op : Int) : Int := if firstM op = 99 then -1 else firstM op

set_option maxRecDepth 100000 in
set_option maxHeartbeats 4000000 in
theorem since_c (w : World) (op : Int) : Calls Tryd.prog 52 #[.int .i64 op] w fun e w' => e = .returned (.int .i64 (sinceM op)) ∧ w' = w := by
  go_enter Tryd.func52, Tryd.ntmps52
  go_wp2
  all_goals go_ret
  all_goals
    refine ⟨?_, rfl⟩
    simp only [beq_eq_false_iff_ne, ne_eq, beq_iff_eq] at *
    refine congrArg (fun x => Ending.returned (Value.int IntKind.i64 x)) ?_
    unfold sinceM firstM
    repeat' split
    all_goals omega

def opM (f op : Int) : Bool := decide (0 ≤ f ∧ f ≤ 15 ∧ firstM op ≤ f)
end Go.Proofs.YtdplcfineaikjaaDoor
/- Layer 13: fork.Op. No condition but those told below. -/
namespace Go.Proofs.YtdplcfineaikjaaDoor
set_option linter.unusedVariables false
set_option linter.unusedSimpArgs false
open Go.RowKit

set_option maxRecDepth 100000 in
set_option maxHeartbeats 4000000 in
theorem op_c (w : World) (f op : Int) : Calls Tryd.prog 38 #[.int .i64 f, .int .i64 op] w fun e w' => e = .returned (.bool (opM f op)) ∧ w' = w := by
  have hs := fun w => since_c w op
  have hm : sinceM op = if firstM op = 99 then -1 else firstM op := rfl
  have h0 : 0 ≤ firstM op := by unfold firstM; repeat' split; all_goals omega
  have ho : opM f op = decide (0 ≤ f ∧ f ≤ 15 ∧ firstM op ≤ f) := rfl
  generalize firstM op = k at *
  generalize sinceM op = m at *
  generalize opM f op = o at *
  subst ho
  go_enter Tryd.func38, Tryd.ntmps38
  go_wp2_with (go_at_call 52; refine (hs _).mono ?_; rintro e w' ⟨rfl, rfl⟩)
  all_goals go_ret
  all_goals
    refine ⟨?_, rfl⟩
    refine congrArg (fun x => Ending.returned (Value.bool x)) ?_
    split at hm
    all_goals first | (simp; omega) | (rw [Bool.eq_iff_iff]; simp; omega)
end Go.Proofs.YtdplcfineaikjaaDoor
/- Layer 13: the reference Op. No condition but those told below. -/
namespace Go.Proofs.YtdplcfineaikjaaDoor
set_option linter.unusedVariables false
set_option linter.unusedSimpArgs false
open Go.RowKit

set_option maxRecDepth 100000 in
set_option maxHeartbeats 4000000 in
theorem refop_c (w : World) (f op : Int) : Calls Tryd.prog 36 #[.int .i64 f, .int .i64 op] w fun e w' => e = .returned (.bool (opM f op)) ∧ w' = w := by
  go_enter Tryd.func36, Tryd.ntmps36
  go_wp2
  all_goals go_ret
  all_goals
    refine ⟨?_, rfl⟩
    simp only [beq_eq_false_iff_ne, ne_eq, beq_iff_eq] at *
    refine congrArg (fun x => Ending.returned (Value.bool x)) ?_
    unfold opM firstM
    rw [Bool.eq_iff_iff]
    repeat' split
    all_goals simp
    all_goals omega
end Go.Proofs.YtdplcfineaikjaaDoor
/- Helps for the walks over codes: contracts out of the kit's form, strings joined, quarrykeep.Twin, both Small. No condition. -/
namespace Go.Proofs.YtdplcfineaikjaaDoor
set_option linter.unusedVariables false
set_option linter.unusedSimpArgs false
open Go Go.RowKit
/-- The table of white space, in this part of the memory. -/
def TabH (N : Heaplet) : Prop := ∀ w, N.le (whole w) → Lib.TabIs Tryd.prog w "strings.asciiSpace" .u8 Lib.asciiSpaceTab
theorem TabH.le {N M : Heaplet} (h : TabH N) (hl : N.le M) : TabH M := fun w hw => h w (Heaplet.le_trans hl hw)
theorem FOp_f (f op : Int) : Fn Tryd.prog 38 #[.int .i64 f, .int .i64 op] [] [] (fun v L => v = .bool (opM f op) ∧ L = []) := Fn.of_same0 fun w => op_c w f op
theorem rOp_f (f op : Int) : Fn Tryd.prog 36 #[.int .i64 f, .int .i64 op] [] [] (fun v L => v = .bool (opM f op) ∧ L = []) := Fn.of_same0 fun w => refop_c w f op
theorem few_f {N : Heaplet} {ao : Option Addr} {n cap : Nat} {l : List UInt8} (h : RSl N 1 ao n cap (u8s l)) :
    Fn Tryd.prog 8 #[.slice ao n cap] [] [N] (fun v L => ∃ M a c, v = .slice a (l.take 3000).length c ∧ L = [M] ∧ Row M 5 1 a (l.take 3000).length c (u8s (l.take 3000))) := by
  refine Fn.enter (vs := [.slice ao n cap]) Tryd.func8 rfl rfl rfl ?_
  intro E R hR
  have h := h.le (hR N (by simp))
  change At _ _ E [R] _
  refine At.seq fun K1 hk_1 => ?_
  refine At.region ?_
  refine op_assign (nxlf rfl) rfl rfl ?_
  refine At.opsNil ?_
  refine At.norm (hk_1 ?_)
  refine At.seq fun K2 hk_2 => ?_
  refine At.region ?_
  refine op_move (nxlf rfl) rfl rfl ?_
  refine op_callA (nxla rfl) (.cons rfl (.cons rfl .nil)) (KTwin_f h 3000 3000 rfl (by decide)) Tryd.func25 rfl rfl (by simp) rfl ?_
  rintro v4 L4 ⟨N4, p4, c4, rfl, rfl, r4⟩
  change At _ _ _ [N4, R] _
  refine op_assign (nxlf rfl) rfl rfl ?_
  refine At.opsNil ?_
  refine At.norm (hk_2 ?_)
  refine At.ret (?_)
  refine At.ret1 (L1 := [N4]) rfl (.tmp rfl .nil) (.refl _) (.refl _) ?_
  exact ⟨N4, p4, c4, rfl, rfl, r4⟩
theorem few_all {N : Heaplet} {ao : Option Addr} {n cap : Nat} {l : List UInt8} (h : RSl N 1 ao n cap (u8s l)) (hl : l.length ≤ 3000) :
    Fn Tryd.prog 8 #[.slice ao n cap] [] [N] (fun v L => ∃ M a c, v = .slice a l.length c ∧ L = [M] ∧ Row M 5 1 a l.length c (u8s l)) :=
  (few_f h).mono fun v L hp => by rwa [List.take_of_length_le hl] at hp
/-- A word of four limbs. -/
def w4 (a b c d : UInt64) : Value := .agg #[.int .u64 (a.toNat : Int), .int .u64 (b.toNat : Int), .int .u64 (c.toNat : Int), .int .u64 (d.toNat : Int)]
def small4 (a b c d : UInt64) : UInt64 × Bool := if b.toNat = 0 ∧ c.toNat = 0 ∧ d.toNat = 0 then (a, true) else (0, false)
theorem or_zero3 (b c d : UInt64) : (b ||| c ||| d).toNat = 0 ↔ b.toNat = 0 ∧ c.toNat = 0 ∧ d.toNat = 0 := by
  rw [UInt64.toNat_or, UInt64.toNat_or, Nat.or_eq_zero_iff, Nat.or_eq_zero_iff, and_assoc]
theorem WSmall4_f (a b c d : UInt64) : Fn Tryd.prog 28 #[w4 a b c d] [] [] (fun v L => v = .tuple #[.int .u64 ((small4 a b c d).1.toNat : Int), .bool (small4 a b c d).2] ∧ L = []) := by
  have hz := or_zero3 b c d
  refine Fn.enter (vs := [w4 a b c d]) Tryd.func28 rfl rfl rfl ?_
  intro E R hR
  change At _ _ E [R] _
  refine At.seq fun K1 hk_1 => ?_
  refine At.region ?_
  refine op_box (nxla rfl) rfl rfl rfl (fun N1 b1 B1 => ?_)
  change Blk N1 b1 _ [.int .u64 (a.toNat : Int), .int .u64 (b.toNat : Int), .int .u64 (c.toNat : Int), .int .u64 (d.toNat : Int)] at B1
  refine op_assign (nxlf rfl) rfl rfl ?_
  refine op_assign (nxlf rfl) rfl rfl ?_
  refine At.opsNil ?_
  refine At.norm (hk_1 ?_)
  refine At.seq fun K2 hk_2 => ?_
  refine At.seq fun K3 hk_3 => ?_
  refine At.region ?_
  refine op_idxA (nxlf rfl) ae25 rfl rfl (show _ = ((1 : Nat) : Int) from rfl) (by omega) rfl ?_
  refine op_loadB (nxlf rfl) sc23 rfl B1 (by first | rfl) mem0 rfl ?_
  refine op_idxA (nxlf rfl) ae25 rfl rfl (show _ = ((2 : Nat) : Int) from rfl) (by omega) rfl ?_
  refine op_loadB (nxlf rfl) sc23 rfl B1 (by first | rfl) mem0 rfl ?_
  refine op_orU (nxlf rfl) rfl rfl rfl ?_
  refine op_idxA (nxlf rfl) ae25 rfl rfl (show _ = ((3 : Nat) : Int) from rfl) (by omega) rfl ?_
  refine op_loadB (nxlf rfl) sc23 rfl B1 (by first | rfl) mem0 rfl ?_
  refine op_orU (nxlf rfl) rfl rfl rfl ?_
  refine op_neq (nxlf rfl) rfl rfl rfl ?_
  refine At.opsNil ?_
  refine At.norm (hk_3 ?_)
  refine At.condP rfl (fun c12 => ?_) (fun c12 => ?_)
  · refine At.seq fun K4 hk_4 => ?_
    refine At.region ?_
    refine op_assign (nxlf rfl) rfl rfl ?_
    refine op_assign (nxlf rfl) rfl rfl ?_
    refine At.opsNil ?_
    refine At.norm (hk_4 ?_)
    refine At.ret (At.thenRet (?_))
    refine At.sub (L' := [R]) (.cons _ (.cons_cons _ (.slnil))) ?_
    refine At.retN (L1 := []) rfl (.tmp rfl (.tmp rfl .nil)) rfl (.refl _) (.refl _) ?_
    have e : small4 a b c d = (0, false) := if_neg (fun h => by have := hz.2 h; omega)
    exact ⟨by rw [e]; rfl, rfl⟩
  · refine At.skip ?_
    refine At.norm (hk_2 ?_)
    refine At.seq fun K5 hk_5 => ?_
    refine At.region ?_
    refine op_idxA (nxlf rfl) ae25 rfl rfl (show _ = ((0 : Nat) : Int) from rfl) (by omega) rfl ?_
    refine op_loadB (nxlf rfl) sc23 rfl B1 (by first | rfl) mem0 rfl ?_
    refine op_assign (nxlf rfl) rfl rfl ?_
    refine op_assign (nxlf rfl) rfl rfl ?_
    refine At.opsNil ?_
    refine At.norm (hk_5 ?_)
    refine At.ret (?_)
    refine At.sub (L' := [R]) (.cons _ (.cons_cons _ (.slnil))) ?_
    refine At.retN (L1 := []) rfl (.tmp rfl (.tmp rfl .nil)) rfl (.refl _) (.refl _) ?_
    have e : small4 a b c d = (a, true) := if_pos (hz.1 (by omega))
    exact ⟨by rw [e], rfl⟩
theorem rSmall4_f (a b c d : UInt64) : Fn Tryd.prog 30 #[w4 a b c d] [] [] (fun v L => v = .tuple #[.int .u64 ((small4 a b c d).1.toNat : Int), .bool (small4 a b c d).2] ∧ L = []) := by
  refine Fn.enter (vs := [w4 a b c d]) Tryd.func30 rfl rfl rfl ?_
  intro E R hR
  change At _ _ E [R] _
  refine At.seq fun K1 hk_1 => ?_
  refine At.region ?_
  refine op_box (nxla rfl) rfl rfl rfl (fun N1 b1 B1 => ?_)
  change Blk N1 b1 _ [.int .u64 (a.toNat : Int), .int .u64 (b.toNat : Int), .int .u64 (c.toNat : Int), .int .u64 (d.toNat : Int)] at B1
  refine op_assign (nxlf rfl) rfl rfl ?_
  refine op_assign (nxlf rfl) rfl rfl ?_
  refine At.opsNil ?_
  refine At.norm (hk_1 ?_)
  refine At.seq fun K2 hk_2 => ?_
  refine At.seq fun K3 hk_3 => ?_
  refine At.region ?_
  refine op_idxA (nxlf rfl) ae25 rfl rfl (show _ = ((1 : Nat) : Int) from rfl) (by omega) rfl ?_
  refine op_loadB (nxlf rfl) sc23 rfl B1 (by first | rfl) mem0 rfl ?_
  refine op_neq (nxlf rfl) rfl rfl rfl ?_
  refine op_move (nxlf rfl) rfl rfl ?_
  refine At.partP (d := 7) rfl (fun g7 => ?_) (fun g7 => ?_)
  · refine op_skip rfl rfl rfl rfl rfl rfl rfl ?_
    refine op_skip rfl rfl rfl rfl rfl rfl rfl ?_
    refine op_skip rfl rfl rfl rfl rfl rfl rfl ?_
    refine op_pickT (nxlf rfl) rfl rfl rfl ?_
    refine op_move (nxlf rfl) rfl rfl ?_
    refine op_skip rfl rfl rfl rfl rfl rfl rfl ?_
    refine op_skip rfl rfl rfl rfl rfl rfl rfl ?_
    refine op_skip rfl rfl rfl rfl rfl rfl rfl ?_
    refine op_pickT (nxlf rfl) rfl rfl rfl ?_
    refine At.opsNil ?_
    refine At.norm (hk_3 ?_)
    refine At.condT rfl ?_
    refine At.seq fun K4 hk_4 => ?_
    refine At.region ?_
    refine op_assign (nxlf rfl) rfl rfl ?_
    refine op_assign (nxlf rfl) rfl rfl ?_
    refine At.opsNil ?_
    refine At.norm (hk_4 ?_)
    refine At.ret (At.thenRet (?_))
    refine At.sub (L' := [R]) (.cons _ (.cons_cons _ (.slnil))) ?_
    refine At.retN (L1 := []) rfl (.tmp rfl (.tmp rfl .nil)) rfl (.refl _) (.refl _) ?_
    first
      | (have e : small4 a b c d = (a, true) := if_pos (by omega)
         exact ⟨by rw [e], rfl⟩)
      | (have e : small4 a b c d = (0, false) := if_neg (by omega)
         exact ⟨by rw [e]; rfl, rfl⟩)
  · refine op_idxA (nxgf rfl rfl rfl rfl) ae25 rfl rfl (show _ = ((2 : Nat) : Int) from rfl) (by omega) rfl ?_
    refine op_loadB (nxgf rfl rfl rfl rfl) sc23 rfl B1 (by first | rfl) mem0 rfl ?_
    refine op_neq (nxgf rfl rfl rfl rfl) rfl rfl rfl ?_
    refine op_pickF (nxlf rfl) rfl rfl rfl ?_
    refine op_move (nxlf rfl) rfl rfl ?_
    refine At.partP (d := 12) rfl (fun g12 => ?_) (fun g12 => ?_)
    · refine op_skip rfl rfl rfl rfl rfl rfl rfl ?_
      refine op_skip rfl rfl rfl rfl rfl rfl rfl ?_
      refine op_skip rfl rfl rfl rfl rfl rfl rfl ?_
      refine op_pickT (nxlf rfl) rfl rfl rfl ?_
      refine At.opsNil ?_
      refine At.norm (hk_3 ?_)
      refine At.condT rfl ?_
      refine At.seq fun K5 hk_5 => ?_
      refine At.region ?_
      refine op_assign (nxlf rfl) rfl rfl ?_
      refine op_assign (nxlf rfl) rfl rfl ?_
      refine At.opsNil ?_
      refine At.norm (hk_5 ?_)
      refine At.ret (At.thenRet (?_))
      refine At.sub (L' := [R]) (.cons _ (.cons_cons _ (.slnil))) ?_
      refine At.retN (L1 := []) rfl (.tmp rfl (.tmp rfl .nil)) rfl (.refl _) (.refl _) ?_
      first
        | (have e : small4 a b c d = (a, true) := if_pos (by omega)
           exact ⟨by rw [e], rfl⟩)
        | (have e : small4 a b c d = (0, false) := if_neg (by omega)
           exact ⟨by rw [e]; rfl, rfl⟩)
    · refine op_idxA (nxgf rfl rfl rfl rfl) ae25 rfl rfl (show _ = ((3 : Nat) : Int) from rfl) (by omega) rfl ?_
      refine op_loadB (nxgf rfl rfl rfl rfl) sc23 rfl B1 (by first | rfl) mem0 rfl ?_
      refine op_neq (nxgf rfl rfl rfl rfl) rfl rfl rfl ?_
      refine op_pickF (nxlf rfl) rfl rfl rfl ?_
      refine At.opsNil ?_
      refine At.norm (hk_3 ?_)
      refine At.condP rfl (fun c16 => ?_) (fun c16 => ?_)
      · refine At.seq fun K6 hk_6 => ?_
        refine At.region ?_
        refine op_assign (nxlf rfl) rfl rfl ?_
        refine op_assign (nxlf rfl) rfl rfl ?_
        refine At.opsNil ?_
        refine At.norm (hk_6 ?_)
        refine At.ret (At.thenRet (?_))
        refine At.sub (L' := [R]) (.cons _ (.cons_cons _ (.slnil))) ?_
        refine At.retN (L1 := []) rfl (.tmp rfl (.tmp rfl .nil)) rfl (.refl _) (.refl _) ?_
        first
          | (have e : small4 a b c d = (a, true) := if_pos (by omega)
             exact ⟨by rw [e], rfl⟩)
          | (have e : small4 a b c d = (0, false) := if_neg (by omega)
             exact ⟨by rw [e]; rfl, rfl⟩)
      · refine At.skip ?_
        refine At.norm (hk_2 ?_)
        refine At.seq fun K7 hk_7 => ?_
        refine At.region ?_
        refine op_idxA (nxlf rfl) ae25 rfl rfl (show _ = ((0 : Nat) : Int) from rfl) (by omega) rfl ?_
        refine op_loadB (nxlf rfl) sc23 rfl B1 (by first | rfl) mem0 rfl ?_
        refine op_assign (nxlf rfl) rfl rfl ?_
        refine op_assign (nxlf rfl) rfl rfl ?_
        refine At.opsNil ?_
        refine At.norm (hk_7 ?_)
        refine At.ret (?_)
        refine At.sub (L' := [R]) (.cons _ (.cons_cons _ (.slnil))) ?_
        refine At.retN (L1 := []) rfl (.tmp rfl (.tmp rfl .nil)) rfl (.refl _) (.refl _) ?_
        first
          | (have e : small4 a b c d = (a, true) := if_pos (by omega)
             exact ⟨by rw [e], rfl⟩)
          | (have e : small4 a b c d = (0, false) := if_neg (by omega)
             exact ⟨by rw [e]; rfl, rfl⟩)
end Go.Proofs.YtdplcfineaikjaaDoor
/- Codes: where they may be entered, in plain words. No condition. -/
namespace Go.Proofs.YtdplcfineaikjaaDoor
set_option linter.unusedVariables false
set_option linter.unusedSimpArgs false
open Go Go.RowKit
def ownB (b : UInt8) : Nat := if 96 ≤ b.toNat ∧ b.toNat ≤ 127 then b.toNat - 95 else 0
theorem ownB_le (b : UInt8) : ownB b ≤ 32 := by unfold ownB; split <;> omega
def jmpF : Nat → List UInt8 → Nat → List Nat
  | 0, _, _ => []
  | k + 1, l, p => if p < l.length then (if (l.getD p 0).toNat = 91 then [p] else []) ++ jmpF k l (p + 1 + ownB (l.getD p 0)) else []
theorem jmpF_end {k : Nat} {l : List UInt8} {p : Nat} (h : l.length ≤ p) : jmpF k l p = [] := by
  cases k with
  | zero => rfl
  | succ k => rw [jmpF, if_neg (by omega)]
theorem jmpF_fuel : ∀ (k m : Nat) (l : List UInt8) (p : Nat), l.length ≤ p + k → l.length ≤ p + m → jmpF k l p = jmpF m l p := by
  intro k
  induction k with
  | zero => intro m l p h1 h2; rw [jmpF_end (by omega), jmpF_end (by omega)]
  | succ k ih =>
    intro m l p h1 h2
    cases m with
    | zero => rw [jmpF_end (by omega), jmpF_end (by omega)]
    | succ m =>
      rw [jmpF, jmpF, ih m l (p + 1 + ownB (l.getD p 0)) (by omega) (by omega)]
/-- The places from p on that may be entered. -/
def jmpAt (l : List UInt8) (p : Nat) : List Nat := jmpF l.length l p
def jumpsOf (l : List UInt8) : List Nat := jmpAt l 0
theorem jmpAt_end {l : List UInt8} {p : Nat} (h : l.length ≤ p) : jmpAt l p = [] := jmpF_end h
theorem jmpAt_y {l : List UInt8} {p : Nat} (h : p < l.length) (hb : (l.getD p 0).toNat = 91) : jmpAt l p = p :: jmpAt l (p + 1 + ownB (l.getD p 0)) := by
  rw [jmpAt, jmpF_fuel l.length (l.length + 1) l p (by omega) (by omega), jmpF, if_pos h, if_pos hb]; rfl
theorem jmpAt_n {l : List UInt8} {p : Nat} (h : p < l.length) (hb : ¬ (l.getD p 0).toNat = 91) : jmpAt l p = jmpAt l (p + 1 + ownB (l.getD p 0)) := by
  rw [jmpAt, jmpF_fuel l.length (l.length + 1) l p (by omega) (by omega), jmpF, if_pos h, if_neg hb]; rfl
theorem jmpF_mem {x : Nat} : ∀ (k : Nat) (l : List UInt8) (p : Nat), x ∈ jmpF k l p → p ≤ x ∧ x < l.length ∧ (l.getD x 0).toNat = 91 := by
  intro k
  induction k with
  | zero => intro l p h; cases h
  | succ k ih =>
    intro l p h
    rw [jmpF] at h
    split at h
    · rcases List.mem_append.1 h with h | h
      · by_cases hb : (l.getD p 0).toNat = 91
        · rw [if_pos hb] at h
          obtain rfl := List.mem_singleton.1 h
          exact ⟨Nat.le_refl _, by assumption, hb⟩
        · rw [if_neg hb] at h; cases h
      · have := ih l _ h
        exact ⟨by omega, this.2⟩
    · cases h
theorem jmpF_sorted : ∀ (k : Nat) (l : List UInt8) (p : Nat), (jmpF k l p).Pairwise (· < ·) := by
  intro k
  induction k with
  | zero => intro l p; exact .nil
  | succ k ih =>
    intro l p
    rw [jmpF]
    split
    · rw [List.pairwise_append]
      refine ⟨?_, ih .., fun a ha b hb => ?_⟩
      · split
        · exact List.pairwise_singleton ..
        · exact .nil
      · split at ha
        · obtain rfl := List.mem_singleton.1 ha
          have := jmpF_mem _ _ _ hb
          omega
        · cases ha
    · exact .nil
theorem jmpF_len : ∀ (k : Nat) (l : List UInt8) (p : Nat), (jmpF k l p).length ≤ l.length - p := by
  intro k
  induction k with
  | zero => intro l p; exact Nat.zero_le _
  | succ k ih =>
    intro l p
    rw [jmpF]
    split
    · have := ih l (p + 1 + ownB (l.getD p 0))
      rw [List.length_append]
      split
      · rw [List.length_singleton]; omega
      · rw [List.length_nil]; omega
    · exact Nat.zero_le _
theorem jumps_mem {x : Nat} {l : List UInt8} (h : x ∈ jumpsOf l) : x < l.length ∧ (l.getD x 0).toNat = 91 := (jmpF_mem _ _ _ h).2
theorem jumps_sorted (l : List UInt8) : (jumpsOf l).Pairwise (· < ·) := jmpF_sorted ..
theorem jumps_len (l : List UInt8) : (jumpsOf l).length ≤ l.length := by
  have := jmpF_len l.length l 0
  exact this
/-- Numbers as cells. -/
def ints (l : List Nat) : List Value := l.map fun (x : Nat) => Value.int .i64 (x : Int)
theorem ints_len (l : List Nat) : (ints l).length = l.length := by simp [ints]
theorem ints_app (a b : List Nat) : ints (a ++ b) = ints a ++ ints b := by simp [ints]
theorem ints_get {l : List Nat} {j : Nat} (h : j < l.length) : (ints l)[j]? = some (.int .i64 ((l.getD j 0 : Nat) : Int)) := by
  simp [ints, List.getD_eq_getElem?_getD, List.getElem?_eq_getElem h]
theorem one_ints (l : List Nat) : ∀ u ∈ ints l, u.oneCell' = true := by
  intro u hu
  obtain ⟨x, _, rfl⟩ := List.mem_map.1 hu
  rfl
theorem getD_mem {l : List Nat} {j : Nat} (h : j < l.length) : l.getD j 0 ∈ l := by
  rw [List.getD_eq_getElem?_getD, List.getElem?_eq_getElem h]
  exact List.getElem_mem h
end Go.Proofs.YtdplcfineaikjaaDoor
/- Codes: where they may be entered, by the program and by the reference. Condition: at most 2^40 bytes. -/
namespace Go.Proofs.YtdplcfineaikjaaDoor
set_option linter.unusedVariables false
set_option linter.unusedSimpArgs false
open Go Go.RowKit
theorem u8_lt (b : UInt8) : b.toNat < 256 := b.toNat_lt
theorem FOwn_f (b : UInt8) : Fn Tryd.prog 26 #[.int .u8 (b.toNat : Int)] [] [] (fun v L => v = .int .i64 (ownB b : Int) ∧ L = []) := by
  have hb := u8_lt b
  refine Fn.enter (vs := [.int .u8 (b.toNat : Int)]) Tryd.func26 rfl rfl rfl ?_
  intro E R hR
  change At _ _ E [R] _
  refine At.seq fun K1 hk_1 => ?_
  refine At.region ?_
  refine op_assign (nxlf rfl) rfl rfl ?_
  refine At.opsNil ?_
  refine At.norm (hk_1 ?_)
  refine At.seq fun K2 hk_2 => ?_
  refine At.seq fun K3 hk_3 => ?_
  refine At.region ?_
  refine op_move (nxlf rfl) rfl rfl ?_
  refine op_gtr (nxlf rfl) rfl rfl rfl ?_
  refine op_move (nxlf rfl) rfl rfl ?_
  refine At.partP (d := 5) rfl (fun g5 => ?_) (fun g5 => ?_)
  · refine op_move (nxgf rfl rfl rfl rfl) rfl rfl ?_
    refine op_leq (nxgf rfl rfl rfl rfl) rfl rfl rfl ?_
    refine op_pickT (nxlf rfl) rfl rfl rfl ?_
    refine At.opsNil ?_
    refine At.norm (hk_3 ?_)
    refine At.condP rfl (fun c8 => ?_) (fun c8 => ?_)
    · refine At.seq fun K4 hk_4 => ?_
      refine At.region ?_
      refine op_move (nxlf rfl) rfl rfl ?_
      refine op_convI (nxlf rfl) (und_some Tryd.underlying5) Tryd.underlying3 rfl (by omega) (by omega) rfl ?_
      refine op_subI (nxlf rfl) rfl rfl (by omega) (by omega) rfl ?_
      refine op_assign (nxlf rfl) rfl rfl ?_
      refine At.opsNil ?_
      refine At.norm (hk_4 ?_)
      refine At.ret (At.thenRet (?_))
      refine At.ret1 (L1 := []) rfl (.tmp rfl .nil) (.refl _) (.refl _) ?_
      exact ⟨congrArg (Value.int .i64) (by rw [ownB, if_pos ⟨by omega, by omega⟩]; omega), rfl⟩
    · refine At.skip ?_
      refine At.norm (hk_2 ?_)
      refine At.seq fun K5 hk_5 => ?_
      refine At.region ?_
      refine op_assign (nxlf rfl) rfl rfl ?_
      refine At.opsNil ?_
      refine At.norm (hk_5 ?_)
      refine At.ret (?_)
      refine At.ret1 (L1 := []) rfl (.tmp rfl .nil) (.refl _) (.refl _) ?_
      exact ⟨congrArg (Value.int .i64) (by rw [ownB, if_neg (by omega)]; rfl), rfl⟩
  · refine op_skip rfl rfl rfl rfl rfl rfl rfl ?_
    refine op_skip rfl rfl rfl rfl rfl rfl rfl ?_
    refine op_pickF (nxlf rfl) rfl rfl rfl ?_
    refine At.opsNil ?_
    refine At.norm (hk_3 ?_)
    refine At.condF rfl ?_
    refine At.skip ?_
    refine At.norm (hk_2 ?_)
    refine At.seq fun K6 hk_6 => ?_
    refine At.region ?_
    refine op_assign (nxlf rfl) rfl rfl ?_
    refine At.opsNil ?_
    refine At.norm (hk_6 ?_)
    refine At.ret (?_)
    refine At.ret1 (L1 := []) rfl (.tmp rfl .nil) (.refl _) (.refl _) ?_
    exact ⟨congrArg (Value.int .i64) (by rw [ownB, if_neg (by omega)]; rfl), rfl⟩
theorem rOwn_f (b : UInt8) : Fn Tryd.prog 27 #[.int .u8 (b.toNat : Int)] [] [] (fun v L => v = .int .i64 (ownB b : Int) ∧ L = []) := by
  have hb := u8_lt b
  refine Fn.enter (vs := [.int .u8 (b.toNat : Int)]) Tryd.func27 rfl rfl rfl ?_
  intro E R hR
  change At _ _ E [R] _
  refine At.seq fun K1 hk_1 => ?_
  refine At.region ?_
  refine op_assign (nxlf rfl) rfl rfl ?_
  refine At.opsNil ?_
  refine At.norm (hk_1 ?_)
  refine At.seq fun K2 hk_2 => ?_
  refine At.seq fun K3 hk_3 => ?_
  refine At.region ?_
  refine op_move (nxlf rfl) rfl rfl ?_
  refine op_geq (nxlf rfl) rfl rfl rfl ?_
  refine op_move (nxlf rfl) rfl rfl ?_
  refine At.partP (d := 5) rfl (fun g5 => ?_) (fun g5 => ?_)
  · refine op_move (nxgf rfl rfl rfl rfl) rfl rfl ?_
    refine op_leq (nxgf rfl rfl rfl rfl) rfl rfl rfl ?_
    refine op_pickT (nxlf rfl) rfl rfl rfl ?_
    refine At.opsNil ?_
    refine At.norm (hk_3 ?_)
    refine At.condP rfl (fun c8 => ?_) (fun c8 => ?_)
    · refine At.seq fun K4 hk_4 => ?_
      refine At.region ?_
      refine op_move (nxlf rfl) rfl rfl ?_
      refine op_convI (nxlf rfl) (und_some Tryd.underlying5) Tryd.underlying3 rfl (by omega) (by omega) rfl ?_
      refine op_subI (nxlf rfl) rfl rfl (by omega) (by omega) rfl ?_
      refine op_assign (nxlf rfl) rfl rfl ?_
      refine At.opsNil ?_
      refine At.norm (hk_4 ?_)
      refine At.ret (At.thenRet (?_))
      refine At.ret1 (L1 := []) rfl (.tmp rfl .nil) (.refl _) (.refl _) ?_
      exact ⟨congrArg (Value.int .i64) (by rw [ownB, if_pos ⟨by omega, by omega⟩]; omega), rfl⟩
    · refine At.skip ?_
      refine At.norm (hk_2 ?_)
      refine At.seq fun K5 hk_5 => ?_
      refine At.region ?_
      refine op_assign (nxlf rfl) rfl rfl ?_
      refine At.opsNil ?_
      refine At.norm (hk_5 ?_)
      refine At.ret (?_)
      refine At.ret1 (L1 := []) rfl (.tmp rfl .nil) (.refl _) (.refl _) ?_
      exact ⟨congrArg (Value.int .i64) (by rw [ownB, if_neg (by omega)]; rfl), rfl⟩
  · refine op_skip rfl rfl rfl rfl rfl rfl rfl ?_
    refine op_skip rfl rfl rfl rfl rfl rfl rfl ?_
    refine op_pickF (nxlf rfl) rfl rfl rfl ?_
    refine At.opsNil ?_
    refine At.norm (hk_3 ?_)
    refine At.condF rfl ?_
    refine At.skip ?_
    refine At.norm (hk_2 ?_)
    refine At.seq fun K6 hk_6 => ?_
    refine At.region ?_
    refine op_assign (nxlf rfl) rfl rfl ?_
    refine At.opsNil ?_
    refine At.norm (hk_6 ?_)
    refine At.ret (?_)
    refine At.ret1 (L1 := []) rfl (.tmp rfl .nil) (.refl _) (.refl _) ?_
    exact ⟨congrArg (Value.int .i64) (by rw [ownB, if_neg (by omega)]; rfl), rfl⟩
/-- The places, in new memory. -/
def JmpP (l : List UInt8) (v : Value) (L : List Heaplet) : Prop := ∃ M a c, v = .slice a (jumpsOf l).length c ∧ L = [M] ∧ Row M 3 1 a (jumpsOf l).length c (ints (jumpsOf l))
section
variable {N : Heaplet} {ao : Option Addr} {n cap : Nat} {l : List UInt8}
set_option maxRecDepth 100000 in
theorem FJumps_f (h : RSl N 1 ao n cap (u8s l)) (hn : n ≤ 1099511627776) : Fn Tryd.prog 9 #[.slice ao n cap] [] [N] (JmpP l) := by
  have hlen := h.len8
  refine Fn.enter (vs := [.slice ao n cap]) Tryd.func9 rfl rfl rfl ?_
  intro E R hR
  have h := h.le (hR N (by simp))
  change At _ _ E [R] _
  refine At.seq fun K1 hk_1 => ?_
  refine At.region ?_
  refine op_assign (nxlf rfl) rfl rfl ?_
  refine At.opsNil ?_
  refine At.norm (hk_1 ?_)
  refine At.seq fun K2 hk_2 => ?_
  refine At.region ?_
  refine op_assign (nxlf rfl) rfl rfl ?_
  refine At.opsNil ?_
  refine At.norm (hk_2 ?_)
  refine At.seq fun K3 hk_3 => ?_
  refine At.seq fun K4 hk_4 => ?_
  refine At.region ?_
  refine op_assign (nxlf rfl) rfl rfl ?_
  refine At.opsNil ?_
  refine At.norm (hk_4 ?_)
  refine At.block ?_
  refine At.empty ?_
  refine At.loop (fun fr_ hp_ ms_ => ∃ (p : Nat) (done : List Nat) (a : Option Addr) (dn c : Nat) (Na : Heaplet), fr_ = [(0, .slice ao n cap), (3, .slice a dn c), (4, .int .i64 (p : Int))] ∧ hp_ = [Na, R] ∧ n - p = ms_ ∧ (p ≤ n + 33) ∧ (dn = done.length) ∧ (dn ≤ p) ∧ (done ++ jmpAt l p = jumpsOf l) ∧ (Row Na 3 1 a dn c (ints done))) ?_ (.refl _) ⟨0, [], none, 0, 0, nilH, rfl, rfl, rfl, by omega, rfl, by omega, rfl, Row.nil _ _ _⟩ ?_
  · exact .cons (by first | exact lkI rfl (by omega) | rfl) (.cons (by first | exact lkI rfl (by omega) | rfl) (.cons (by first | exact lkI rfl (by omega) | rfl) .nil))
  rintro _ _ _ ⟨p, done, a, dn, c, Na, rfl, rfl, rfl, hp, hdn, hdp, hd, ra⟩
  refine At.seq fun K5 hk_5 => ?_
  refine At.seq fun K6 hk_6 => ?_
  refine At.region ?_
  refine op_move (nxlf rfl) rfl rfl ?_
  refine op_move (nxlf rfl) rfl rfl ?_
  refine op_lenS (nxlf rfl) se22 rfl rfl ?_
  refine op_lss (nxlf rfl) rfl rfl rfl ?_
  refine At.opsNil ?_
  refine At.norm (hk_6 ?_)
  refine At.condP rfl (fun c8 => ?_) (fun c8 => ?_)
  · have ho := ownB_le (l.getD p 0)
    refine At.skip ?_
    refine At.norm (hk_5 ?_)
    refine At.seq fun K7 hk_7 => ?_
    refine At.block ?_
    refine At.seq fun K8 hk_8 => ?_
    refine At.region ?_
    refine op_move (nxlf rfl) rfl rfl ?_
    refine op_move (nxlf rfl) rfl rfl ?_
    refine op_idx1 (nxlf rfl) se22 rfl rfl h (show _ = (((p : Nat)) : Int) from by omega) (by omega) rfl ?_
    refine op_loadE (nxlf rfl) sc5 rfl h (by first | exact get8 (by omega) | exact get64 (by omega) | exact get32 (by omega)) (by first | exact mem0 | exact mem1 | exact mem2 | exact mem3 | exact mem4 | exact mem5 | exact mem6 | exact mem7 | exact mem8 | exact mem9) rfl ?_
    refine op_eql (nxlf rfl) rfl rfl rfl ?_
    refine At.opsNil ?_
    refine At.norm (hk_8 ?_)
    refine At.condP rfl (fun c21 => ?_) (fun c21 => ?_)
    · refine At.region ?_
      refine op_move (nxlf rfl) rfl rfl ?_
      refine op_move (nxlf rfl) rfl rfl ?_
      refine op_lit (nxla rfl) Tryd.underlying27 ze3 sz3 (.cons rfl .nil) rfl rfl (by simp [Value.cells]) rfl rfl rfl (fun N24 a24 r24 => ?_)
      simp only [flatV, List.flatMap_cons, List.flatMap_nil, Value.cells, List.append_nil, List.cons_append, List.nil_append] at r24
      have s24 := r24.rsl
      change Row N24 _ 1 a24 1 1 [.int .i64 (p : Int)] at r24
      have s24 := r24.rsl
      refine op_append (nxl rfl) Tryd.underlying27 Tryd.underlying27 te3 rfl rfl ra s24 (by first | exact mem0 | exact mem1 | exact mem2 | exact mem3 | exact mem4 | exact mem5 | exact mem6 | exact mem7 | exact mem8 | exact mem9) (by first | exact one_u8s _ | exact one_u64s _ | exact one_u32s _ | (intro u hu; simp at hu; subst hu; rfl)) (by omega) (by omega) sel1 rfl (fun N25 a25 p25 r25 => ?_)
      have s25 := r25.rsl
      have r25 : Row N25 3 1 a25 (dn + 1) p25 (ints (done ++ [p])) := by
        rw [ints_app]
        exact r25
      refine op_assign (nxlf rfl) rfl rfl ?_
      refine At.opsNil ?_
      refine At.inNorm ?_
      refine At.norm (hk_7 ?_)
      refine At.region ?_
      refine op_move (nxlf rfl) rfl rfl ?_
      refine op_move (nxlf rfl) rfl rfl ?_
      refine op_move (nxlf rfl) rfl rfl ?_
      refine op_idx1 (nxlf rfl) se22 rfl rfl h (show _ = (((p : Nat)) : Int) from by omega) (by omega) rfl ?_
      refine op_loadE (nxlf rfl) sc5 rfl h (by first | exact get8 (by omega) | exact get64 (by omega) | exact get32 (by omega)) (by first | exact mem0 | exact mem1 | exact mem2 | exact mem3 | exact mem4 | exact mem5 | exact mem6 | exact mem7 | exact mem8 | exact mem9) rfl ?_
      refine op_callA (nxla rfl) (.cons rfl .nil) (FOwn_f (l.getD p 0)) Tryd.func26 rfl rfl (by simp) rfl ?_
      rintro v14 L14 ⟨rfl, rfl⟩
      change At _ _ _ [N25, N24, R] _
      refine op_addI (nxlf rfl) rfl rfl (by omega) (by omega) rfl ?_
      refine op_addI (nxlf rfl) rfl rfl (by omega) (by omega) rfl ?_
      refine op_assign (nxlf rfl) rfl rfl ?_
      refine At.opsNil ?_
      refine At.norm ?_
      refine At.sub (L' := [N25, R]) (.cons_cons _ (.cons _ (.cons_cons _ (.slnil)))) ?_
      refine At.back ?_ (.refl _) ⟨p + 1 + ownB (l.getD p 0), done ++ [p], a25, dn + 1, p25, N25, rfl, rfl, rfl, by omega, by rw [List.length_append, hdn]; rfl, by omega, by rw [List.append_assoc, List.singleton_append, ← jmpAt_y (by omega) (by omega)]; exact hd, r25⟩ ?_
      · exact .cons (by first | exact lkI rfl (by omega) | rfl) (.cons (by first | exact lkI rfl (by omega) | rfl) (.cons (by first | exact lkI rfl (by omega) | rfl) .nil))
      · omega
    · refine At.skip ?_
      refine At.inNorm ?_
      refine At.norm (hk_7 ?_)
      refine At.region ?_
      refine op_move (nxlf rfl) rfl rfl ?_
      refine op_move (nxlf rfl) rfl rfl ?_
      refine op_move (nxlf rfl) rfl rfl ?_
      refine op_idx1 (nxlf rfl) se22 rfl rfl h (show _ = (((p : Nat)) : Int) from by omega) (by omega) rfl ?_
      refine op_loadE (nxlf rfl) sc5 rfl h (by first | exact get8 (by omega) | exact get64 (by omega) | exact get32 (by omega)) (by first | exact mem0 | exact mem1 | exact mem2 | exact mem3 | exact mem4 | exact mem5 | exact mem6 | exact mem7 | exact mem8 | exact mem9) rfl ?_
      refine op_callA (nxla rfl) (.cons rfl .nil) (FOwn_f (l.getD p 0)) Tryd.func26 rfl rfl (by simp) rfl ?_
      rintro v14 L14 ⟨rfl, rfl⟩
      change At _ _ _ [Na, R] _
      refine op_addI (nxlf rfl) rfl rfl (by omega) (by omega) rfl ?_
      refine op_addI (nxlf rfl) rfl rfl (by omega) (by omega) rfl ?_
      refine op_assign (nxlf rfl) rfl rfl ?_
      refine At.opsNil ?_
      refine At.norm ?_
      refine At.back ?_ (.refl _) ⟨p + 1 + ownB (l.getD p 0), done, a, dn, c, Na, rfl, rfl, rfl, by omega, hdn, by omega, by rw [← jmpAt_n (by omega) (by omega)]; exact hd, ra⟩ ?_
      · exact .cons (by first | exact lkI rfl (by omega) | rfl) (.cons (by first | exact lkI rfl (by omega) | rfl) (.cons (by first | exact lkI rfl (by omega) | rfl) .nil))
      · omega
  · have hfin : done = jumpsOf l := by rw [← hd, jmpAt_end (by omega), List.append_nil]
    refine At.exit (At.thenExit (At.thenExit (At.inHit ?_)))
    refine At.norm (hk_3 ?_)
    refine At.seq fun K9 hk_9 => ?_
    refine At.region ?_
    refine op_move (nxlf rfl) rfl rfl ?_
    refine op_assign (nxlf rfl) rfl rfl ?_
    refine At.opsNil ?_
    refine At.norm (hk_9 ?_)
    refine At.ret (?_)
    refine At.ret1 (L1 := [Na]) rfl (.tmp rfl .nil) (.refl _) (.refl _) ?_
    exact ⟨Na, a, c, by rw [← hfin, hdn], rfl, by rw [← hfin, ← hdn]; exact ra⟩
set_option maxRecDepth 100000 in
theorem rJumps_f (h : RSl N 1 ao n cap (u8s l)) (hn : n ≤ 1099511627776) : Fn Tryd.prog 10 #[.slice ao n cap] [] [N] (JmpP l) := by
  have hlen := h.len8
  refine Fn.enter (vs := [.slice ao n cap]) Tryd.func10 rfl rfl rfl ?_
  intro E R hR
  have h := h.le (hR N (by simp))
  change At _ _ E [R] _
  refine At.seq fun K1 hk_1 => ?_
  refine At.region ?_
  refine op_assign (nxlf rfl) rfl rfl ?_
  refine At.opsNil ?_
  refine At.norm (hk_1 ?_)
  refine At.seq fun K2 hk_2 => ?_
  refine At.region ?_
  refine op_assign (nxlf rfl) rfl rfl ?_
  refine At.opsNil ?_
  refine At.norm (hk_2 ?_)
  refine At.seq fun K3 hk_3 => ?_
  refine At.seq fun K4 hk_4 => ?_
  refine At.region ?_
  refine op_assign (nxlf rfl) rfl rfl ?_
  refine At.opsNil ?_
  refine At.norm (hk_4 ?_)
  refine At.block ?_
  refine At.empty ?_
  refine At.loop (fun fr_ hp_ ms_ => ∃ (p : Nat) (done : List Nat) (a : Option Addr) (dn c : Nat) (Na : Heaplet), fr_ = [(0, .slice ao n cap), (3, .slice a dn c), (4, .int .i64 (p : Int))] ∧ hp_ = [Na, R] ∧ n - p = ms_ ∧ (p ≤ n + 33) ∧ (dn = done.length) ∧ (dn ≤ p) ∧ (done ++ jmpAt l p = jumpsOf l) ∧ (Row Na 3 1 a dn c (ints done))) ?_ (.refl _) ⟨0, [], none, 0, 0, nilH, rfl, rfl, rfl, by omega, rfl, by omega, rfl, Row.nil _ _ _⟩ ?_
  · exact .cons (by first | exact lkI rfl (by omega) | rfl) (.cons (by first | exact lkI rfl (by omega) | rfl) (.cons (by first | exact lkI rfl (by omega) | rfl) .nil))
  rintro _ _ _ ⟨p, done, a, dn, c, Na, rfl, rfl, rfl, hp, hdn, hdp, hd, ra⟩
  refine At.seq fun K5 hk_5 => ?_
  refine At.seq fun K6 hk_6 => ?_
  refine At.region ?_
  refine op_move (nxlf rfl) rfl rfl ?_
  refine op_move (nxlf rfl) rfl rfl ?_
  refine op_lenS (nxlf rfl) se22 rfl rfl ?_
  refine op_lss (nxlf rfl) rfl rfl rfl ?_
  refine At.opsNil ?_
  refine At.norm (hk_6 ?_)
  refine At.condP rfl (fun c8 => ?_) (fun c8 => ?_)
  · have ho := ownB_le (l.getD p 0)
    refine At.skip ?_
    refine At.norm (hk_5 ?_)
    refine At.seq fun K7 hk_7 => ?_
    refine At.block ?_
    refine At.seq fun K8 hk_8 => ?_
    refine At.region ?_
    refine op_move (nxlf rfl) rfl rfl ?_
    refine op_move (nxlf rfl) rfl rfl ?_
    refine op_idx1 (nxlf rfl) se22 rfl rfl h (show _ = (((p : Nat)) : Int) from by omega) (by omega) rfl ?_
    refine op_loadE (nxlf rfl) sc5 rfl h (by first | exact get8 (by omega) | exact get64 (by omega) | exact get32 (by omega)) (by first | exact mem0 | exact mem1 | exact mem2 | exact mem3 | exact mem4 | exact mem5 | exact mem6 | exact mem7 | exact mem8 | exact mem9) rfl ?_
    refine op_eql (nxlf rfl) rfl rfl rfl ?_
    refine At.opsNil ?_
    refine At.norm (hk_8 ?_)
    refine At.condP rfl (fun c21 => ?_) (fun c21 => ?_)
    · refine At.region ?_
      refine op_move (nxlf rfl) rfl rfl ?_
      refine op_move (nxlf rfl) rfl rfl ?_
      refine op_lit (nxla rfl) Tryd.underlying27 ze3 sz3 (.cons rfl .nil) rfl rfl (by simp [Value.cells]) rfl rfl rfl (fun N24 a24 r24 => ?_)
      simp only [flatV, List.flatMap_cons, List.flatMap_nil, Value.cells, List.append_nil, List.cons_append, List.nil_append] at r24
      have s24 := r24.rsl
      change Row N24 _ 1 a24 1 1 [.int .i64 (p : Int)] at r24
      have s24 := r24.rsl
      refine op_append (nxl rfl) Tryd.underlying27 Tryd.underlying27 te3 rfl rfl ra s24 (by first | exact mem0 | exact mem1 | exact mem2 | exact mem3 | exact mem4 | exact mem5 | exact mem6 | exact mem7 | exact mem8 | exact mem9) (by first | exact one_u8s _ | exact one_u64s _ | exact one_u32s _ | (intro u hu; simp at hu; subst hu; rfl)) (by omega) (by omega) sel1 rfl (fun N25 a25 p25 r25 => ?_)
      have s25 := r25.rsl
      have r25 : Row N25 3 1 a25 (dn + 1) p25 (ints (done ++ [p])) := by
        rw [ints_app]
        exact r25
      refine op_assign (nxlf rfl) rfl rfl ?_
      refine At.opsNil ?_
      refine At.inNorm ?_
      refine At.norm (hk_7 ?_)
      refine At.region ?_
      refine op_move (nxlf rfl) rfl rfl ?_
      refine op_addI (nxlf rfl) rfl rfl (by omega) (by omega) rfl ?_
      refine op_move (nxlf rfl) rfl rfl ?_
      refine op_move (nxlf rfl) rfl rfl ?_
      refine op_idx1 (nxlf rfl) se22 rfl rfl h (show _ = (((p : Nat)) : Int) from by omega) (by omega) rfl ?_
      refine op_loadE (nxlf rfl) sc5 rfl h (by first | exact get8 (by omega) | exact get64 (by omega) | exact get32 (by omega)) (by first | exact mem0 | exact mem1 | exact mem2 | exact mem3 | exact mem4 | exact mem5 | exact mem6 | exact mem7 | exact mem8 | exact mem9) rfl ?_
      refine op_callA (nxla rfl) (.cons rfl .nil) (rOwn_f (l.getD p 0)) Tryd.func27 rfl rfl (by simp) rfl ?_
      rintro v15 L15 ⟨rfl, rfl⟩
      change At _ _ _ [N25, N24, R] _
      refine op_addI (nxlf rfl) rfl rfl (by omega) (by omega) rfl ?_
      refine op_assign (nxlf rfl) rfl rfl ?_
      refine At.opsNil ?_
      refine At.norm ?_
      refine At.sub (L' := [N25, R]) (.cons_cons _ (.cons _ (.cons_cons _ (.slnil)))) ?_
      refine At.back ?_ (.refl _) ⟨p + 1 + ownB (l.getD p 0), done ++ [p], a25, dn + 1, p25, N25, rfl, rfl, rfl, by omega, by rw [List.length_append, hdn]; rfl, by omega, by rw [List.append_assoc, List.singleton_append, ← jmpAt_y (by omega) (by omega)]; exact hd, r25⟩ ?_
      · exact .cons (by first | exact lkI rfl (by omega) | rfl) (.cons (by first | exact lkI rfl (by omega) | rfl) (.cons (by first | exact lkI rfl (by omega) | rfl) .nil))
      · omega
    · refine At.skip ?_
      refine At.inNorm ?_
      refine At.norm (hk_7 ?_)
      refine At.region ?_
      refine op_move (nxlf rfl) rfl rfl ?_
      refine op_addI (nxlf rfl) rfl rfl (by omega) (by omega) rfl ?_
      refine op_move (nxlf rfl) rfl rfl ?_
      refine op_move (nxlf rfl) rfl rfl ?_
      refine op_idx1 (nxlf rfl) se22 rfl rfl h (show _ = (((p : Nat)) : Int) from by omega) (by omega) rfl ?_
      refine op_loadE (nxlf rfl) sc5 rfl h (by first | exact get8 (by omega) | exact get64 (by omega) | exact get32 (by omega)) (by first | exact mem0 | exact mem1 | exact mem2 | exact mem3 | exact mem4 | exact mem5 | exact mem6 | exact mem7 | exact mem8 | exact mem9) rfl ?_
      refine op_callA (nxla rfl) (.cons rfl .nil) (rOwn_f (l.getD p 0)) Tryd.func27 rfl rfl (by simp) rfl ?_
      rintro v15 L15 ⟨rfl, rfl⟩
      change At _ _ _ [Na, R] _
      refine op_addI (nxlf rfl) rfl rfl (by omega) (by omega) rfl ?_
      refine op_assign (nxlf rfl) rfl rfl ?_
      refine At.opsNil ?_
      refine At.norm ?_
      refine At.back ?_ (.refl _) ⟨p + 1 + ownB (l.getD p 0), done, a, dn, c, Na, rfl, rfl, rfl, by omega, hdn, by omega, by rw [← jmpAt_n (by omega) (by omega)]; exact hd, ra⟩ ?_
      · exact .cons (by first | exact lkI rfl (by omega) | rfl) (.cons (by first | exact lkI rfl (by omega) | rfl) (.cons (by first | exact lkI rfl (by omega) | rfl) .nil))
      · omega
  · have hfin : done = jumpsOf l := by rw [← hd, jmpAt_end (by omega), List.append_nil]
    refine At.exit (At.thenExit (At.thenExit (At.inHit ?_)))
    refine At.norm (hk_3 ?_)
    refine At.seq fun K9 hk_9 => ?_
    refine At.region ?_
    refine op_move (nxlf rfl) rfl rfl ?_
    refine op_assign (nxlf rfl) rfl rfl ?_
    refine At.opsNil ?_
    refine At.norm (hk_9 ?_)
    refine At.ret (?_)
    refine At.ret1 (L1 := [Na]) rfl (.tmp rfl .nil) (.refl _) (.refl _) ?_
    exact ⟨Na, a, c, by rw [← hfin, hdn], rfl, by rw [← hfin, ← hdn]; exact ra⟩
end
end Go.Proofs.YtdplcfineaikjaaDoor
/- The names of the operations, row by row; decimal digits. No condition. -/
namespace Go.Proofs.YtdplcfineaikjaaDoor
set_option linter.unusedVariables false
set_option linter.unusedSimpArgs false
open Go Go.RowKit
/-- STOP ADD MUL SUB DIV SDIV MOD SMOD ADDMOD MULMOD EXP SIGNEXTEND -/
def rowT0 : List UInt8 := [83, 84, 79, 80, 32, 65, 68, 68, 32, 77, 85, 76, 32, 83, 85, 66, 32, 68, 73, 86, 32, 83, 68, 73, 86, 32, 77, 79, 68, 32, 83, 77, 79, 68, 32, 65, 68, 68, 77, 79, 68, 32, 77, 85, 76, 77, 79, 68, 32, 69, 88, 80, 32, 83, 73, 71, 78, 69, 88, 84, 69, 78, 68]
def rowN0 : List (List UInt8) := [[83, 84, 79, 80], [65, 68, 68], [77, 85, 76], [83, 85, 66], [68, 73, 86], [83, 68, 73, 86], [77, 79, 68], [83, 77, 79, 68], [65, 68, 68, 77, 79, 68], [77, 85, 76, 77, 79, 68], [69, 88, 80], [83, 73, 71, 78, 69, 88, 84, 69, 78, 68]]
theorem rowF0 : Lib.fields rowT0 = rowN0 := by decide +kernel
/-- LT GT SLT SGT EQ ISZERO AND OR XOR NOT BYTE SHL SHR SAR -/
def rowT1 : List UInt8 := [76, 84, 32, 71, 84, 32, 83, 76, 84, 32, 83, 71, 84, 32, 69, 81, 32, 73, 83, 90, 69, 82, 79, 32, 65, 78, 68, 32, 79, 82, 32, 88, 79, 82, 32, 78, 79, 84, 32, 66, 89, 84, 69, 32, 83, 72, 76, 32, 83, 72, 82, 32, 83, 65, 82]
def rowN1 : List (List UInt8) := [[76, 84], [71, 84], [83, 76, 84], [83, 71, 84], [69, 81], [73, 83, 90, 69, 82, 79], [65, 78, 68], [79, 82], [88, 79, 82], [78, 79, 84], [66, 89, 84, 69], [83, 72, 76], [83, 72, 82], [83, 65, 82]]
theorem rowF1 : Lib.fields rowT1 = rowN1 := by decide +kernel
/-- KECCAK256 -/
def rowT2 : List UInt8 := [75, 69, 67, 67, 65, 75, 50, 53, 54]
def rowN2 : List (List UInt8) := [[75, 69, 67, 67, 65, 75, 50, 53, 54]]
theorem rowF2 : Lib.fields rowT2 = rowN2 := by decide +kernel
/-- ADDRESS BALANCE ORIGIN CALLER CALLVALUE CALLDATALOAD CALLDATASIZE CALLDATACOPY CODESIZE CODECOPY GASPRICE EXTCODESIZE EXTCODECOPY RETURNDATASIZE RETURNDATACOPY EXTCODEHASH -/
def rowT3 : List UInt8 := [65, 68, 68, 82, 69, 83, 83, 32, 66, 65, 76, 65, 78, 67, 69, 32, 79, 82, 73, 71, 73, 78, 32, 67, 65, 76, 76, 69, 82, 32, 67, 65, 76, 76, 86, 65, 76, 85, 69, 32, 67, 65, 76, 76, 68, 65, 84, 65, 76, 79, 65, 68, 32, 67, 65, 76, 76, 68, 65, 84, 65, 83, 73, 90, 69, 32, 67, 65, 76, 76, 68, 65, 84, 65, 67, 79, 80, 89, 32, 67, 79, 68, 69, 83, 73, 90, 69, 32, 67, 79, 68, 69, 67, 79, 80, 89, 32, 71, 65, 83, 80, 82, 73, 67, 69, 32, 69, 88, 84, 67, 79, 68, 69, 83, 73, 90, 69, 32, 69, 88, 84, 67, 79, 68, 69, 67, 79, 80, 89, 32, 82, 69, 84, 85, 82, 78, 68, 65, 84, 65, 83, 73, 90, 69, 32, 82, 69, 84, 85, 82, 78, 68, 65, 84, 65, 67, 79, 80, 89, 32, 69, 88, 84, 67, 79, 68, 69, 72, 65, 83, 72]
def rowN3 : List (List UInt8) := [[65, 68, 68, 82, 69, 83, 83], [66, 65, 76, 65, 78, 67, 69], [79, 82, 73, 71, 73, 78], [67, 65, 76, 76, 69, 82], [67, 65, 76, 76, 86, 65, 76, 85, 69], [67, 65, 76, 76, 68, 65, 84, 65, 76, 79, 65, 68], [67, 65, 76, 76, 68, 65, 84, 65, 83, 73, 90, 69], [67, 65, 76, 76, 68, 65, 84, 65, 67, 79, 80, 89], [67, 79, 68, 69, 83, 73, 90, 69], [67, 79, 68, 69, 67, 79, 80, 89], [71, 65, 83, 80, 82, 73, 67, 69], [69, 88, 84, 67, 79, 68, 69, 83, 73, 90, 69], [69, 88, 84, 67, 79, 68, 69, 67, 79, 80, 89], [82, 69, 84, 85, 82, 78, 68, 65, 84, 65, 83, 73, 90, 69], [82, 69, 84, 85, 82, 78, 68, 65, 84, 65, 67, 79, 80, 89], [69, 88, 84, 67, 79, 68, 69, 72, 65, 83, 72]]
theorem rowF3 : Lib.fields rowT3 = rowN3 := by decide +kernel
/-- BLOCKHASH COINBASE TIMESTAMP NUMBER DIFFICULTY GASLIMIT CHAINID SELFBALANCE BASEFEE BLOBHASH BLOBBASEFEE -/
def rowT4 : List UInt8 := [66, 76, 79, 67, 75, 72, 65, 83, 72, 32, 67, 79, 73, 78, 66, 65, 83, 69, 32, 84, 73, 77, 69, 83, 84, 65, 77, 80, 32, 78, 85, 77, 66, 69, 82, 32, 68, 73, 70, 70, 73, 67, 85, 76, 84, 89, 32, 71, 65, 83, 76, 73, 77, 73, 84, 32, 67, 72, 65, 73, 78, 73, 68, 32, 83, 69, 76, 70, 66, 65, 76, 65, 78, 67, 69, 32, 66, 65, 83, 69, 70, 69, 69, 32, 66, 76, 79, 66, 72, 65, 83, 72, 32, 66, 76, 79, 66, 66, 65, 83, 69, 70, 69, 69]
def rowN4 : List (List UInt8) := [[66, 76, 79, 67, 75, 72, 65, 83, 72], [67, 79, 73, 78, 66, 65, 83, 69], [84, 73, 77, 69, 83, 84, 65, 77, 80], [78, 85, 77, 66, 69, 82], [68, 73, 70, 70, 73, 67, 85, 76, 84, 89], [71, 65, 83, 76, 73, 77, 73, 84], [67, 72, 65, 73, 78, 73, 68], [83, 69, 76, 70, 66, 65, 76, 65, 78, 67, 69], [66, 65, 83, 69, 70, 69, 69], [66, 76, 79, 66, 72, 65, 83, 72], [66, 76, 79, 66, 66, 65, 83, 69, 70, 69, 69]]
theorem rowF4 : Lib.fields rowT4 = rowN4 := by decide +kernel
/-- POP MLOAD MSTORE MSTORE8 SLOAD SSTORE JUMP JUMPI PC MSIZE GAS JUMPDEST TLOAD TSTORE MCOPY PUSH0 -/
def rowT5 : List UInt8 := [80, 79, 80, 32, 77, 76, 79, 65, 68, 32, 77, 83, 84, 79, 82, 69, 32, 77, 83, 84, 79, 82, 69, 56, 32, 83, 76, 79, 65, 68, 32, 83, 83, 84, 79, 82, 69, 32, 74, 85, 77, 80, 32, 74, 85, 77, 80, 73, 32, 80, 67, 32, 77, 83, 73, 90, 69, 32, 71, 65, 83, 32, 74, 85, 77, 80, 68, 69, 83, 84, 32, 84, 76, 79, 65, 68, 32, 84, 83, 84, 79, 82, 69, 32, 77, 67, 79, 80, 89, 32, 80, 85, 83, 72, 48]
def rowN5 : List (List UInt8) := [[80, 79, 80], [77, 76, 79, 65, 68], [77, 83, 84, 79, 82, 69], [77, 83, 84, 79, 82, 69, 56], [83, 76, 79, 65, 68], [83, 83, 84, 79, 82, 69], [74, 85, 77, 80], [74, 85, 77, 80, 73], [80, 67], [77, 83, 73, 90, 69], [71, 65, 83], [74, 85, 77, 80, 68, 69, 83, 84], [84, 76, 79, 65, 68], [84, 83, 84, 79, 82, 69], [77, 67, 79, 80, 89], [80, 85, 83, 72, 48]]
theorem rowF5 : Lib.fields rowT5 = rowN5 := by decide +kernel
/-- CREATE CALL CALLCODE RETURN DELEGATECALL CREATE2 none none none none STATICCALL none none REVERT none SELFDESTRUCT -/
def rowT15 : List UInt8 := [67, 82, 69, 65, 84, 69, 32, 67, 65, 76, 76, 32, 67, 65, 76, 76, 67, 79, 68, 69, 32, 82, 69, 84, 85, 82, 78, 32, 68, 69, 76, 69, 71, 65, 84, 69, 67, 65, 76, 76, 32, 67, 82, 69, 65, 84, 69, 50, 32, 45, 32, 45, 32, 45, 32, 45, 32, 83, 84, 65, 84, 73, 67, 67, 65, 76, 76, 32, 45, 32, 45, 32, 82, 69, 86, 69, 82, 84, 32, 45, 32, 83, 69, 76, 70, 68, 69, 83, 84, 82, 85, 67, 84]
def rowN15 : List (List UInt8) := [[67, 82, 69, 65, 84, 69], [67, 65, 76, 76], [67, 65, 76, 76, 67, 79, 68, 69], [82, 69, 84, 85, 82, 78], [68, 69, 76, 69, 71, 65, 84, 69, 67, 65, 76, 76], [67, 82, 69, 65, 84, 69, 50], [45], [45], [45], [45], [83, 84, 65, 84, 73, 67, 67, 65, 76, 76], [45], [45], [82, 69, 86, 69, 82, 84], [45], [83, 69, 76, 70, 68, 69, 83, 84, 82, 85, 67, 84]]
theorem rowF15 : Lib.fields rowT15 = rowN15 := by decide +kernel
def rowT (i : Int) : List UInt8 := if i = 0 then rowT0 else if i = 16 then rowT1 else if i = 32 then rowT2 else if i = 48 then rowT3 else if i = 64 then rowT4 else if i = 80 then rowT5 else if i = 240 then rowT15 else []
def rowN (i : Nat) : List (List UInt8) := if i = 0 then rowN0 else if i = 1 then rowN1 else if i = 2 then rowN2 else if i = 3 then rowN3 else if i = 4 then rowN4 else if i = 5 then rowN5 else if i = 15 then rowN15 else []
def wPREV : List UInt8 := [80, 82, 69, 86, 82, 65, 78, 68, 65, 79]
def wPUSH : List UInt8 := [80, 85, 83, 72]
def wDUP : List UInt8 := [68, 85, 80]
def wSWAP : List UInt8 := [83, 87, 65, 80]
def wLOG : List UInt8 := [76, 79, 71]
def dec2 (n : Nat) : List UInt8 := if n < 10 then [UInt8.ofNat (48 + n)] else [UInt8.ofNat (48 + n / 10), UInt8.ofNat (48 + n % 10)]
theorem dec2_eq {n : Nat} (h : n < 100) : Lib.decDigits n = dec2 n := by
  unfold dec2
  split
  · exact Lib.decDigits_one (by omega)
  · exact Lib.decDigits_two (by omega) h
def nameN (late : Bool) (op : Nat) : List UInt8 :=
  if op = 68 ∧ late = true then wPREV
  else if 95 < op ∧ op ≤ 127 then wPUSH ++ dec2 (op - 95)
  else if 128 ≤ op ∧ op < 144 then wDUP ++ dec2 (op - 127)
  else if 144 ≤ op ∧ op < 160 then wSWAP ++ dec2 (op - 143)
  else if 160 ≤ op ∧ op ≤ 164 then wLOG ++ dec2 (op - 160)
  else (rowN (op / 16)).getD (op % 16) []
/-- An operation's name at a fork. -/
def nameC (f op : Int) : List UInt8 := if opM f op = true then nameN (decide (13 ≤ f)) op.toNat else []
def isOp (n : Nat) : Bool := decide (firstM (n : Int) ≠ 99)
theorem op_range {f op : Int} (h : opM f op = true) : ∃ n : Nat, op = (n : Int) ∧ n < 256 ∧ isOp n = true := by
  have h2 := of_decide_eq_true h
  have hr : 0 ≤ op ∧ op ≤ 255 ∧ firstM op ≠ 99 := by
    obtain ⟨h0, h15, hf⟩ := h2
    refine ⟨?_, ?_, fun e => by omega⟩
    · unfold firstM at hf; repeat' split at hf
      all_goals omega
    · unfold firstM at hf; repeat' split at hf
      all_goals omega
  refine ⟨op.toNat, by omega, by omega, ?_⟩
  rw [isOp, decide_eq_true_iff, Int.toNat_of_nonneg hr.1]
  exact hr.2.2
/-- The row of an operation that has no row of its own kind. -/
def inRow (n : Nat) : Bool := isOp n && !(decide (95 < n ∧ n ≤ 164))
theorem in_rows : ∀ n, n < 256 → inRow n = true → n % 16 < (rowN (n / 16)).length ∧ (n / 16 = 0 ∨ n / 16 = 1 ∨ n / 16 = 2 ∨ n / 16 = 3 ∨ n / 16 = 4 ∨ n / 16 = 5 ∨ n / 16 = 15) := by decide +kernel
theorem row_fields {k : Nat} (h : k = 0 ∨ k = 1 ∨ k = 2 ∨ k = 3 ∨ k = 4 ∨ k = 5 ∨ k = 15) : Lib.fields (rowT (16 * k : Nat)) = rowN k ∧ (rowT (16 * k : Nat)).length < 4294967281 ∧ (rowT (16 * k : Nat)).all (fun b => decide (b.toNat < 128)) = true ∧ (rowN k).length ≤ 16 := by
  rcases h with rfl | rfl | rfl | rfl | rfl | rfl | rfl
  · exact ⟨rowF0, by decide +kernel, by decide +kernel, by decide +kernel⟩
  · exact ⟨rowF1, by decide +kernel, by decide +kernel, by decide +kernel⟩
  · exact ⟨rowF2, by decide +kernel, by decide +kernel, by decide +kernel⟩
  · exact ⟨rowF3, by decide +kernel, by decide +kernel, by decide +kernel⟩
  · exact ⟨rowF4, by decide +kernel, by decide +kernel, by decide +kernel⟩
  · exact ⟨rowF5, by decide +kernel, by decide +kernel, by decide +kernel⟩
  · exact ⟨rowF15, by decide +kernel, by decide +kernel, by decide +kernel⟩
end Go.Proofs.YtdplcfineaikjaaDoor
/- Contracts of Go's library at this program, in plain words (written by the kit's tool lay-plain). No condition. -/
namespace Go.Proofs
set_option linter.unusedVariables false
set_option linter.unusedSimpArgs false
open Go.Shelf
def Tryd.lays171_ren : Go.Shelf.Ren := ⟨fun | 171 => 32 | 243 => 50 | 246 => 61 | 283 => 70 | 284 => 71 | 285 => 72 | 286 => 73 | 129 => 82 | 317 => 81 | 318 => 83 | 319 => 84 | 320 => 85 | 337 => 93 | 338 => 94 | n => n, fun | 3 => 3 | 9 => 9 | 2 => 2 | 4 => 4 | 171 => 103 | 0 => 0 | 53 => 23 | 37 => 22 | 5 => 5 | 173 => 106 | 212 => 126 | 51 => 92 | 20 => 20 | 213 => 127 | 46 => 69 | 232 => 140 | 233 => 141 | n => n, fun | 17 => 2 | 18 => 6 | 19 => 7 | n => n⟩
theorem Tryd.lays171 : Go.Proofs.Lays.n171 Tryd.prog Tryd.lays171_ren := {
  mixed := by kernel_rfl
  f129 := Tryd.func82.trans (congrArg some (by kernel_rfl))
  f171 := Tryd.func32.trans (congrArg some (by kernel_rfl))
  f243 := Tryd.func50.trans (congrArg some (by kernel_rfl))
  f246 := Tryd.func61.trans (congrArg some (by kernel_rfl))
  f283 := Tryd.func70.trans (congrArg some (by kernel_rfl))
  f284 := Tryd.func71.trans (congrArg some (by kernel_rfl))
  f285 := Tryd.func72.trans (congrArg some (by kernel_rfl))
  f286 := Tryd.func73.trans (congrArg some (by kernel_rfl))
  f317 := Tryd.func81.trans (congrArg some (by kernel_rfl))
  f318 := Tryd.func83.trans (congrArg some (by kernel_rfl))
  f319 := Tryd.func84.trans (congrArg some (by kernel_rfl))
  f320 := Tryd.func85.trans (congrArg some (by kernel_rfl))
  f337 := Tryd.func93.trans (congrArg some (by kernel_rfl))
  f338 := Tryd.func94.trans (congrArg some (by kernel_rfl))
  t0 := Tryd.underlying0
  a0 := Tryd.isAgg0
  z0 := Tryd.sizeOf0
  v0 := Tryd.zeroValue0
  t2 := Tryd.underlying2
  a2 := Tryd.isAgg2
  z2 := Tryd.sizeOf2
  v2 := Tryd.zeroValue2
  t3 := Tryd.underlying3
  a3 := Tryd.isAgg3
  z3 := Tryd.sizeOf3
  v3 := Tryd.zeroValue3
  t4 := Tryd.underlying4
  a4 := Tryd.isAgg4
  z4 := Tryd.sizeOf4
  v4 := Tryd.zeroValue4
  t5 := Tryd.underlying5
  a5 := Tryd.isAgg5
  z5 := Tryd.sizeOf5
  v5 := Tryd.zeroValue5
  t9 := Tryd.underlying9
  a9 := Tryd.isAgg9
  z9 := Tryd.sizeOf9
  v9 := Tryd.zeroValue9
  t20 := Tryd.underlying20
  a20 := Tryd.isAgg20
  z20 := Tryd.sizeOf20
  v20 := Tryd.zeroValue20
  t37 := Tryd.underlying22
  a37 := Tryd.isAgg22
  z37 := Tryd.sizeOf22
  v37 := Tryd.zeroValue22
  t46 := Tryd.underlying69
  a46 := Tryd.isAgg69
  z46 := Tryd.sizeOf69
  v46 := Tryd.zeroValue69
  t51 := Tryd.underlying92
  a51 := Tryd.isAgg92
  z51 := Tryd.sizeOf92
  v51 := Tryd.zeroValue92
  t53 := Tryd.underlying23
  a53 := Tryd.isAgg23
  z53 := Tryd.sizeOf23
  v53 := Tryd.zeroValue23
  t171 := Tryd.underlying103
  a171 := Tryd.isAgg103
  z171 := Tryd.sizeOf103
  v171 := Tryd.zeroValue103
  t173 := Tryd.underlying106
  a173 := Tryd.isAgg106
  z173 := Tryd.sizeOf106
  v173 := Tryd.zeroValue106
  t212 := Tryd.underlying126
  a212 := Tryd.isAgg126
  z212 := Tryd.sizeOf126
  v212 := Tryd.zeroValue126
  t213 := Tryd.underlying127
  a213 := Tryd.isAgg127
  z213 := Tryd.sizeOf127
  t232 := Tryd.underlying140
  a232 := Tryd.isAgg140
  z232 := Tryd.sizeOf140
  v232 := Tryd.zeroValue140
  t233 := Tryd.underlying141
  a233 := Tryd.isAgg141
  z233 := Tryd.sizeOf141
  v233 := Tryd.zeroValue141
  g17 := by kernel_rfl
  g18 := by kernel_rfl
  g19 := by kernel_rfl }
open Go.RowKit Go.Sort Go.Lib in
theorem Tryd.strconv_Itoa_small (i : Nat) (hi : i < 100) (w : World) :
    Calls Tryd.prog 32 #[.int .i64 i] w fun e w' => e = .returned (.string ⟨(Lib.decDigits i).toArray⟩) ∧ w' = w := Any.strconv_Itoa_small Tryd.lays171 i hi w
def Tryd.lays157_ren : Go.Shelf.Ren := ⟨fun | 157 => 40 | 229 => 53 | 199 => 54 | 261 => 62 | 311 => 74 | 312 => 75 | n => n, fun | 9 => 9 | 31 => 31 | 3 => 3 | 5 => 5 | 4 => 4 | 119 => 81 | 0 => 0 | 40 => 83 | 152 => 89 | 21 => 21 | 154 => 91 | 51 => 92 | 141 => 94 | 196 => 111 | 193 => 108 | 198 => 114 | 49 => 112 | 194 => 109 | 201 => 117 | 226 => 129 | 46 => 69 | 227 => 130 | n => n, fun | 0 => 0 | 6 => 1 | n => n⟩
theorem Tryd.lays157 : Go.Proofs.Lays.n157 Tryd.prog Tryd.lays157_ren := {
  mixed := by kernel_rfl
  f157 := Tryd.func40.trans (congrArg some (by kernel_rfl))
  f199 := Tryd.func54.trans (congrArg some (by kernel_rfl))
  f229 := Tryd.func53.trans (congrArg some (by kernel_rfl))
  f261 := Tryd.func62.trans (congrArg some (by kernel_rfl))
  f311 := Tryd.func74.trans (congrArg some (by kernel_rfl))
  f312 := Tryd.func75.trans (congrArg some (by kernel_rfl))
  t0 := Tryd.underlying0
  a0 := Tryd.isAgg0
  z0 := Tryd.sizeOf0
  v0 := Tryd.zeroValue0
  t3 := Tryd.underlying3
  a3 := Tryd.isAgg3
  z3 := Tryd.sizeOf3
  v3 := Tryd.zeroValue3
  t4 := Tryd.underlying4
  a4 := Tryd.isAgg4
  z4 := Tryd.sizeOf4
  v4 := Tryd.zeroValue4
  t5 := Tryd.underlying5
  a5 := Tryd.isAgg5
  z5 := Tryd.sizeOf5
  v5 := Tryd.zeroValue5
  t9 := Tryd.underlying9
  a9 := Tryd.isAgg9
  z9 := Tryd.sizeOf9
  v9 := Tryd.zeroValue9
  t21 := Tryd.underlying21
  a21 := Tryd.isAgg21
  z21 := Tryd.sizeOf21
  v21 := Tryd.zeroValue21
  t31 := Tryd.underlying31
  a31 := Tryd.isAgg31
  z31 := Tryd.sizeOf31
  v31 := Tryd.zeroValue31
  t40 := Tryd.underlying83
  a40 := Tryd.isAgg83
  z40 := Tryd.sizeOf83
  v40 := Tryd.zeroValue83
  t46 := Tryd.underlying69
  a46 := Tryd.isAgg69
  z46 := Tryd.sizeOf69
  v46 := Tryd.zeroValue69
  t49 := Tryd.underlying112
  a49 := Tryd.isAgg112
  z49 := Tryd.sizeOf112
  v49 := Tryd.zeroValue112
  t51 := Tryd.underlying92
  a51 := Tryd.isAgg92
  z51 := Tryd.sizeOf92
  v51 := Tryd.zeroValue92
  t119 := Tryd.underlying81
  a119 := Tryd.isAgg81
  z119 := Tryd.sizeOf81
  t141 := Tryd.underlying94
  a141 := Tryd.isAgg94
  z141 := Tryd.sizeOf94
  v141 := Tryd.zeroValue94
  t152 := Tryd.underlying89
  a152 := Tryd.isAgg89
  z152 := Tryd.sizeOf89
  v152 := Tryd.zeroValue89
  t154 := Tryd.underlying91
  a154 := Tryd.isAgg91
  z154 := Tryd.sizeOf91
  v154 := Tryd.zeroValue91
  t193 := Tryd.underlying108
  a193 := Tryd.isAgg108
  z193 := Tryd.sizeOf108
  v193 := Tryd.zeroValue108
  t194 := Tryd.underlying109
  a194 := Tryd.isAgg109
  z194 := Tryd.sizeOf109
  v194 := Tryd.zeroValue109
  t196 := Tryd.underlying111
  a196 := Tryd.isAgg111
  z196 := Tryd.sizeOf111
  v196 := Tryd.zeroValue111
  t198 := Tryd.underlying114
  a198 := Tryd.isAgg114
  z198 := Tryd.sizeOf114
  v198 := Tryd.zeroValue114
  t201 := Tryd.underlying117
  a201 := Tryd.isAgg117
  z201 := Tryd.sizeOf117
  v201 := Tryd.zeroValue117
  t226 := Tryd.underlying129
  a226 := Tryd.isAgg129
  z226 := Tryd.sizeOf129
  v226 := Tryd.zeroValue129
  t227 := Tryd.underlying130
  a227 := Tryd.isAgg130
  z227 := Tryd.sizeOf130
  v227 := Tryd.zeroValue130
  g0 := by kernel_rfl
  g6 := by kernel_rfl }
open Go.RowKit Go.Lib in
theorem Tryd.strings_Fields (s : ByteArray) (w : World) (hs : s.size < 4294967281) (hascii : ∀ (j : Nat) b, s.data.toList[j]? = some b → b.toNat < 128) (htab : Lib.TabIs Tryd.prog w "strings.asciiSpace" .u8 Lib.asciiSpaceTab) :
    Calls Tryd.prog 40 #[.string s] w fun e w' =>
      e = .returned (.slice (some ⟨w.heap.size, 0, none⟩) (Lib.fields s.data.toList).length (Lib.fields s.data.toList).length) ∧ w' = w.alloc (.cells ((Lib.fields s.data.toList).map fun l => Value.string ⟨l.toArray⟩).toArray 9) := Any.strings_Fields Tryd.lays157 (by kernel_rfl) (by kernel_rfl) s w hs hascii htab
def Tryd.laysNm225_ren : Go.Shelf.Ren := ⟨fun | 25 => 29 | 31 => 45 | 32 => 46 | 37 => 59 | n => n, fun | 22 => 27 | 3 => 3 | 4 => 4 | 40 => 69 | 0 => 0 | n => n, fun | n => n⟩
theorem Tryd.laysNm225 : Go.Proofs.Lays2.n25 Tryd.prog Tryd.laysNm225_ren := {
  mixed := by kernel_rfl
  f25 := Tryd.func29.trans (congrArg some (by kernel_rfl))
  f31 := Tryd.func45.trans (congrArg some (by kernel_rfl))
  f32 := Tryd.func46.trans (congrArg some (by kernel_rfl))
  f37 := Tryd.func59.trans (congrArg some (by kernel_rfl))
  t0 := Tryd.underlying0
  a0 := Tryd.isAgg0
  z0 := Tryd.sizeOf0
  v0 := Tryd.zeroValue0
  t3 := Tryd.underlying3
  a3 := Tryd.isAgg3
  z3 := Tryd.sizeOf3
  v3 := Tryd.zeroValue3
  t4 := Tryd.underlying4
  a4 := Tryd.isAgg4
  z4 := Tryd.sizeOf4
  v4 := Tryd.zeroValue4
  t22 := Tryd.underlying27
  a22 := Tryd.isAgg27
  z22 := Tryd.sizeOf27
  v22 := Tryd.zeroValue27
  t40 := Tryd.underlying69
  a40 := Tryd.isAgg69
  z40 := Tryd.sizeOf69
  v40 := Tryd.zeroValue69 }
open Go.RowKit Go.Lib in
theorem Tryd.slices_BinarySearch_int (b off n c : Nat) (zs : List Int) (x : Int) (w : World) (hz : n ≤ zs.length) (hbig : n < 4611686018427387904) (hc : ∀ j, j < zs.length → w.cell? ⟨b, off + j, none⟩ = some (.int .i64 (zs.getD j 0))) (hs : (zs.take n).Pairwise (· ≤ ·)) :
    Calls Tryd.prog 29 #[.slice (some ⟨b, off, none⟩) n c, .int .i64 x] w fun e w' => e = .returned (.tuple #[.int .i64 ((zs.take n).countP (· < x) : Nat), .bool ((zs.take n).contains x)]) ∧ ∃ q, w' = w.drewN q := Any.slices_BinarySearch_int Tryd.laysNm225 b off n c zs x w hz hbig hc hs
open Go.RowKit Go.Lib in
theorem Tryd.slices_BinarySearch_int_empty (a : Option Addr) (c : Nat) (x : Int) (w : World) :
    Calls Tryd.prog 29 #[.slice a 0 c, .int .i64 x] w fun e w' => e = .returned (.tuple #[.int .i64 0, .bool false]) ∧ w' = w := Any.slices_BinarySearch_int_empty Tryd.laysNm225 a c x w
end Go.Proofs
