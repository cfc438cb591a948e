/- Plain laws: what is written is read again, and what is read is written again. No condition but that forms are not longer than a length tells. -/
import Derived.Test.YtohmmgggaegbbaaC3
import Derived.Test.YtohmmgggaegbbaaM1
namespace Go.Proofs.Ytohmmgggaegbbaa
set_option linter.unusedVariables false
set_option linter.unusedSimpArgs false
theorem ofNat8 {n : Nat} (h : n < 256) : (UInt8.ofNat n).toNat = n := by rw [UInt8.toNat_ofNat']; exact Nat.mod_eq_of_lt h
theorem bytesOf_ne {n : Nat} (h : n ≠ 0) : ∃ x t, bytesOf n = x :: t ∧ x.toNat ≠ 0 := by
  have h1 := head_bytesOf n
  cases hb : bytesOf n with
  | nil =>
    have e := be_bytesOf n
    rw [hb, be_nil] at e
    exact absurd e.symm h
  | cons x t =>
    rw [hb] at h1
    exact ⟨x, t, rfl, fun e => h1 (by simp only [List.head?_cons, Option.some.injEq]; rw [← UInt8.toNat_inj]; exact e)⟩
/-- The first item of head, payload and rest. -/
theorem cut_head {base : Nat} {p rest : List UInt8} (hb : base = 128 ∨ base = 192) (hn : p.length < 2 ^ 64) (hs : base = 128 → small p = false) :
    cutF (rlpHead base p.length ++ (p ++ rest)) = some (decide (base = 192), p, rest) := by
  by_cases h55 : p.length ≤ 55
  · have hx := ofNat8 (n := base + p.length) (by omega)
    have e : rlpHead base p.length ++ (p ++ rest) = UInt8.ofNat (base + p.length) :: (p ++ rest) := by rw [rlpHead, if_pos h55, List.singleton_append]
    rw [e]
    generalize hxx : UInt8.ofNat (base + p.length) = x at hx
    have hd : hdr (x :: (p ++ rest)) = p.length := by
      show (x.toNat - 128) % 64 = p.length
      rw [hx]; omega
    have h0 : ((x :: (p ++ rest)).getD 0 0).toNat = base + p.length := hx
    rw [cutF, if_neg (by simp), if_neg (by rw [h0]; omega), if_pos (by rw [hd]; exact h55), hd, cutAt, if_neg (by simp <;> omega)]
    have e1 : ((x :: (p ++ rest)).drop 1).take p.length = p := by simp
    have e2 : (x :: (p ++ rest)).drop (1 + p.length) = rest := by rw [Nat.add_comm, List.drop_succ_cons]; simp
    rw [e1, e2, h0]
    rcases hb with rfl | rfl
    · rw [if_neg (by omega), if_neg]
      · rfl
      · intro ⟨h1, h2⟩
        have := hs rfl
        rw [← Bool.not_eq_true, small_iff] at this
        apply this
        refine ⟨h1, ?_⟩
        match p, h1 with
        | [y], _ => exact h2
    · rw [if_pos (by omega)]; rfl
  · obtain ⟨y, t, hB, hy⟩ := bytesOf_ne (n := p.length) (by omega)
    have hk := byteLen8 hn
    have hbe := be_bytesOf p.length
    have e : rlpHead base p.length ++ (p ++ rest) = UInt8.ofNat (base + 55 + (bytesOf p.length).length) :: (bytesOf p.length ++ (p ++ rest)) := by rw [rlpHead, if_neg h55]; rfl
    rw [e]
    generalize hBB : bytesOf p.length = B at *
    have hk1 : 1 ≤ B.length := by rw [hB]; simp
    have hx := ofNat8 (n := base + 55 + B.length) (by omega)
    generalize hxx : UInt8.ofNat (base + 55 + B.length) = x at hx
    have hd : hdr (x :: (B ++ (p ++ rest))) = 55 + B.length := by
      show (x.toNat - 128) % 64 = 55 + B.length
      rw [hx]; omega
    have h0 : ((x :: (B ++ (p ++ rest))).getD 0 0).toNat = base + 55 + B.length := hx
    have h1 : ((x :: (B ++ (p ++ rest))).getD 1 0).toNat ≠ 0 := by rw [hB]; exact hy
    have hl : lng (x :: (B ++ (p ++ rest))) = p.length := by
      rw [lng, hd, show 55 + B.length - 54 - 1 = B.length by omega]
      have : ((x :: (B ++ (p ++ rest))).drop 1).take B.length = B := by simp
      rw [this, hbe]
    rw [cutF, if_neg (by simp), if_neg (by rw [h0]; omega), if_neg (by rw [hd]; omega), if_neg (by rw [hd]; intro h; rcases h with h | h; (simp at h; omega); exact h1 h), if_neg (by rw [hl]; simp; omega), hl, hd, cutAt, if_neg (by simp <;> omega), h0]
    have e1 : ((x :: (B ++ (p ++ rest))).drop (55 + B.length - 54)).take p.length = p := by
      rw [show 55 + B.length - 54 = B.length + 1 by omega, List.drop_succ_cons]; simp
    have e2 : (x :: (B ++ (p ++ rest))).drop (55 + B.length - 54 + p.length) = rest := by
      rw [show 55 + B.length - 54 + p.length = (B.length + p.length) + 1 by omega, List.drop_succ_cons, ← List.drop_drop]; simp
    rw [e1, e2]
    rcases hb with rfl | rfl
    · rw [if_neg (by omega), if_neg (by omega)]; rfl
    · rw [if_pos (by omega)]; rfl
theorem cut_small {x : UInt8} {rest : List UInt8} (h : x.toNat < 128) : cutF (x :: rest) = some (false, [x], rest) := by
  rw [cutF, if_neg (by simp), if_pos (by exact h)]; rfl
mutual
/-- The item without what is not looked at. -/
def It.plain : It → It
  | .mk false bs _ => .mk false bs []
  | .mk true _ its => .mk true [] (It.plains its)
def It.plains : List It → List It
  | [] => []
  | t :: ts => It.plain t :: It.plains ts
end
theorem form_pos (t : It) : 0 < t.form.length := by
  obtain ⟨l, bs, its⟩ := t
  cases l with
  | false =>
    rw [form_false]
    split
    · rename_i h
      have := (small_iff.1 h).1
      omega
    · rw [List.length_append]
      have : 0 < (rlpHead 128 bs.length).length := by unfold rlpHead; split <;> simp
      omega
  | true =>
    rw [form_true, List.length_append]
    have : 0 < (rlpHead 192 (It.forms its).length).length := by unfold rlpHead; split <;> simp
    omega
theorem cut_text {bs : List UInt8} {its : List It} {rest : List UInt8} (h : (It.mk false bs its).form.length < 2 ^ 64) : cutF ((It.mk false bs its).form ++ rest) = some (false, bs, rest) := by
  rw [form_false] at h ⊢
  split at h
  · rename_i hsm
    rw [if_pos hsm]
    obtain ⟨h1, h2⟩ := small_iff.1 hsm
    match bs, h1 with
    | [x], _ => exact cut_small h2
  · rename_i hsm
    rw [if_neg hsm, List.append_assoc]
    rw [List.length_append] at h
    rw [cut_head (.inl rfl) (by omega) (fun _ => by simpa using hsm)]
    rfl
theorem cut_list {bs : List UInt8} {its : List It} {rest : List UInt8} (h : (It.mk true bs its).form.length < 2 ^ 64) : cutF ((It.mk true bs its).form ++ rest) = some (true, It.forms its, rest) := by
  rw [form_true] at h ⊢
  rw [List.length_append] at h
  rw [List.append_assoc, cut_head (.inr rfl) (by omega) (fun h => absurd h (by decide))]
  rfl
mutual
theorem dec_form : ∀ (t : It) (k : Nat) (rest : List UInt8), t.form.length < 2 ^ 64 → t.depth ≤ k → decF k (t.form ++ rest) = .ok (t.plain, rest)
  | .mk false bs its, k, rest, h, hd => by
    cases k <;> simp [decF, cut_text h, It.plain]
  | .mk true bs its, k, rest, h, hd => by
    simp only [It.depth] at hd
    obtain ⟨k, rfl⟩ : ∃ j, k = j + 1 := ⟨k - 1, by omega⟩
    have hl : (It.forms its).length < 2 ^ 64 := by rw [form_true, List.length_append] at h; omega
    simp only [decF, cut_list h, It.plain]
    rw [itF, dec_forms its k _ hl (by omega) (Nat.le_refl _)]
theorem dec_forms : ∀ (ts : List It) (k f : Nat), (It.forms ts).length < 2 ^ 64 → It.depths ts ≤ k → (It.forms ts).length ≤ f → itemsF (decF k) f (It.forms ts) = .ok (It.plains ts)
  | [], k, f, _, _, _ => by cases f <;> simp [It.forms, itemsF, It.plains]
  | t :: ts, k, f, h, hd, hf => by
    have hp := form_pos t
    simp only [It.forms, List.length_append] at h hf ⊢
    simp only [It.depths] at hd
    have e := dec_form t k (It.forms ts) (by omega) (by omega)
    obtain ⟨f, rfl⟩ : ∃ j, f = j + 1 := ⟨f - 1, by omega⟩
    have e2 := dec_forms ts k f (by omega) (by omega) (by omega)
    cases hc : t.form ++ It.forms ts with
    | nil =>
      have := congrArg List.length hc
      simp at this
      rw [this.1] at hp
      simp at hp
    | cons c b =>
      rw [itemsF, ← hc, e]
      simp only [e2, exMap, It.plains]
end
end Go.Proofs.Ytohmmgggaegbbaa
