/- Several texts in one: see the remarks ahead of each part. No condition but those told there. -/
import Derived.Test.YtbmlhdecnfplaaaK1
/- The engine, part 1: heaplets, frames by slots, code in small lemmas. For whatever program. No condition. -/
namespace Go.Proofs.Ytbmlhdecnfplaaa
set_option linter.unusedVariables false
set_option linter.unusedSimpArgs false
open Go Go.RowKit

/-! Heaplets: a part of the memory, block by block. -/
abbrev Heaplet := Nat → Option Obj
def Heaplet.le (N M : Heaplet) : Prop := ∀ k o, N k = some o → M k = some o
def whole (w : World) : Heaplet := fun k => w.heap[k]?
def single (b : Nat) (o : Obj) : Heaplet := fun k => if k = b then some o else none
def upd (N : Heaplet) (b : Nat) (o : Obj) : Heaplet := fun k => if k = b then some o else N k
def join2 (A B : Heaplet) : Heaplet := fun k => (A k).or (B k)
def cellOf (N : Heaplet) (b i : Nat) : Option Value := match N b with
  | some (.cells c _ _) => c[i]?
  | _ => none
theorem Heaplet.le_refl (N : Heaplet) : N.le N := fun _ _ h => h
theorem Heaplet.le_trans {A B C : Heaplet} (h : A.le B) (k : B.le C) : A.le C := fun x o e => k x o (h x o e)
theorem cellOf_le {N M : Heaplet} (h : N.le M) {b i : Nat} {v : Value} (hc : cellOf N b i = some v) : cellOf M b i = some v := by
  unfold cellOf at hc ⊢
  split at hc
  · rename_i c t f e; rw [h _ _ e]; exact hc
  · cases hc

def Apart (A B : Heaplet) : Prop := ∀ k, A k = none ∨ B k = none
/-- The world holds these heaplets, apart from each other; what lies outside of memory is as in E. -/
structure Hp (E : World) (L : List Heaplet) (w : World) : Prop where
  os : w.os = E.os
  tape : w.tape = E.tape
  output : w.output = E.output
  sub : ∀ N ∈ L, N.le (whole w)
  sep : L.Pairwise Apart
theorem Apart.symm {A B : Heaplet} (h : Apart A B) : Apart B A := fun k => (h k).symm
theorem Apart.le {A B A' B' : Heaplet} (h : Apart A B) (ha : A'.le A) (hb : B'.le B) : Apart A' B' := fun k => by
  cases hA : A' k with
  | none => exact .inl rfl
  | some o =>
    cases hB : B' k with
    | none => exact .inr rfl
    | some o' =>
      have h1 := ha _ _ hA
      have h2 := hb _ _ hB
      rcases h k with h | h <;> simp_all

section
variable {E : World} {L L' : List Heaplet} {w : World} {N A B : Heaplet}
theorem Hp.perm (h : Hp E L w) (p : L.Perm L') : Hp E L' w :=
  ⟨h.os, h.tape, h.output, fun N hN => h.sub N (p.mem_iff.2 hN), (p.pairwise_iff fun h => h.symm).1 h.sep⟩
theorem Hp.drop (h : Hp E L w) (p : L'.Sublist L) : Hp E L' w :=
  ⟨h.os, h.tape, h.output, fun N hN => h.sub N (p.subset hN), h.sep.sublist p⟩
theorem Hp.drew (h : Hp E L w) : Hp E L w.drew := ⟨h.os, h.tape, h.output, h.sub, h.sep⟩
theorem Hp.cell (h : Hp E L w) (hN : N ∈ L) {b i : Nat} {v : Value} (hc : cellOf N b i = some v) : w.cell? ⟨b, i, none⟩ = some v := by
  have h1 := cellOf_le (h.sub N hN) hc
  unfold cellOf Go.Proofs.Ytbmlhdecnfplaaa.whole at h1
  unfold World.cell?
  split at h1
  · rename_i e; rw [e]; simpa using h1
  · cases h1
theorem Hp.lt (h : Hp E L w) (hN : N ∈ L) {b : Nat} {o : Obj} (hb : N b = some o) : b < w.heap.size := by
  have := h.sub N hN _ _ hb
  exact (Array.getElem?_eq_some_iff.1 this).1
theorem Hp.whole (w : World) : Hp w [whole w] w := ⟨rfl, rfl, rfl, fun N hN => by simp at hN; subst hN; exact Heaplet.le_refl _, by simp⟩
theorem Hp.env {E' : World} (h : Hp E L w) (ho : E.os = E'.os) (ht : E.tape = E'.tape) (hu : E.output = E'.output) : Hp E' L w := ⟨h.os.trans ho, h.tape.trans ht, h.output.trans hu, h.sub, h.sep⟩
theorem Hp.agree {w' : World} (h : Hp E (L ++ [Go.Proofs.Ytbmlhdecnfplaaa.whole w]) w') : Agree w w' := fun b hb => by
  have := h.sub (Go.Proofs.Ytbmlhdecnfplaaa.whole w) (by simp) b w.heap[b] (by simp [Go.Proofs.Ytbmlhdecnfplaaa.whole, hb])
  simpa [Go.Proofs.Ytbmlhdecnfplaaa.whole, hb] using this
theorem Hp.below {w' : World} (h : Hp w (L ++ [Go.Proofs.Ytbmlhdecnfplaaa.whole w]) w') : Below w.heap.size w w' := by
  have ha := h.agree
  exact ⟨h.os, h.tape, h.output, ha.le, ha⟩
theorem Hp.of_below {w' : World} (h : Below w.heap.size w w') : Hp w [Go.Proofs.Ytbmlhdecnfplaaa.whole w] w' :=
  ⟨h.os, h.tape, h.output, fun N hN k o hk => by
    simp at hN; subst hN
    have hlt : k < w.heap.size := (Array.getElem?_eq_some_iff.1 hk).1
    exact (h.block k hlt).trans hk, by simp⟩
/-- The last heaplet is taken apart again. -/
theorem Hp.refine {R : Heaplet} (h : Hp E (L ++ [R]) w) (hs : ∀ N ∈ L', N.le R) (hp : L'.Pairwise Apart) : Hp E (L ++ L') w := by
  refine ⟨h.os, h.tape, h.output, fun N hN => ?_, ?_⟩
  · rcases List.mem_append.1 hN with hN | hN
    · exact h.sub N (by simp [hN])
    · exact Heaplet.le_trans (hs N hN) (h.sub R (by simp))
  · rw [List.pairwise_append]
    have := List.pairwise_append.1 h.sep
    refine ⟨this.1, hp, fun a ha b hb => ?_⟩
    exact (this.2.2 a ha R (by simp)).le (Heaplet.le_refl _) (hs b hb)
theorem Hp.push (h : Hp E L w) {w' : World} (hos : w'.os = w.os) (ht : w'.tape = w.tape) (hu : w'.output = w.output) (ha : Agree w w') {N : Heaplet} (hN : N.le (Go.Proofs.Ytbmlhdecnfplaaa.whole w')) (hnew : ∀ k o, N k = some o → w.heap.size ≤ k) : Hp E (N :: L) w' := by
  refine ⟨hos.trans h.os, ht.trans h.tape, hu.trans h.output, fun M hM => ?_, ?_⟩
  · rcases List.mem_cons.1 hM with rfl | hM
    · exact hN
    · intro k o hk
      have hlt := h.lt hM hk
      exact (ha k hlt).trans (h.sub M hM k o hk)
  · rw [List.pairwise_cons]
    refine ⟨fun M hM k => ?_, h.sep⟩
    cases hk : N k with
    | none => exact .inl rfl
    | some o =>
      right
      cases hm : M k with
      | none => rfl
      | some o' => exact absurd (h.lt hM hm) (by have := hnew _ _ hk; omega)
theorem Hp.alloc (h : Hp E L w) (o : Obj) : Hp E (single w.heap.size o :: L) (w.alloc o) := by
  refine h.push (w' := w.alloc o) rfl rfl rfl (Agree.alloc _ _) (fun k o' hk => ?_) (fun k o' hk => ?_)
  · unfold single at hk
    split at hk
    · rename_i e; subst e; cases hk; exact heap_alloc_new w o
    · cases hk
  · unfold single at hk
    split at hk
    · rename_i e; omega
    · cases hk
/-- One block of the first heaplet turns. -/
theorem Hp.put (h : Hp E (N :: L) w) {b : Nat} {o o' : Obj} (hb : N b = some o) {w' : World} (hos : w'.os = w.os) (ht : w'.tape = w.tape) (hu : w'.output = w.output)
    (hnew : w'.heap[b]? = some o') (hold : ∀ k, k ≠ b → k < w.heap.size → w'.heap[k]? = w.heap[k]?) : Hp E (upd N b o' :: L) w' := by
  have hs := List.pairwise_cons.1 h.sep
  refine ⟨hos.trans h.os, ht.trans h.tape, hu.trans h.output, fun M hM => ?_, ?_⟩
  · rcases List.mem_cons.1 hM with rfl | hM'
    · intro k o2 hk
      unfold upd at hk
      split at hk
      · rename_i e; subst e; cases hk; exact hnew
      · rename_i e; exact (hold k e (h.lt (List.mem_cons_self ..) hk)).trans (h.sub N (List.mem_cons_self ..) _ _ hk)
    · intro k o2 hk
      have hne : k ≠ b := by
        rintro rfl
        rcases hs.1 M hM' k with h1 | h1
        · rw [hb] at h1; cases h1
        · rw [hk] at h1; cases h1
      exact (hold k hne (h.lt (List.mem_cons_of_mem _ hM') hk)).trans (h.sub M (List.mem_cons_of_mem _ hM') _ _ hk)
  · rw [List.pairwise_cons]
    refine ⟨fun M hM k => ?_, hs.2⟩
    have h0 := hs.1 M hM k
    unfold upd
    split
    · rename_i e; subst e
      rcases h0 with h1 | h1
      · rw [hb] at h1; cases h1
      · exact .inr h1
    · exact h0
theorem Hp.merge (h : Hp E (A :: B :: L) w) : Hp E (join2 A B :: L) w := by
  have hs := List.pairwise_cons.1 h.sep
  have hs2 := List.pairwise_cons.1 hs.2
  refine ⟨h.os, h.tape, h.output, fun M hM => ?_, ?_⟩
  · rcases List.mem_cons.1 hM with rfl | hM
    · intro k o hk
      unfold join2 at hk
      cases hA : A k with
      | none => rw [hA] at hk; exact h.sub B (by simp) _ _ (by simpa using hk)
      | some x => rw [hA] at hk; exact h.sub A (by simp) _ _ (by rw [hA]; simpa using hk)
    · exact h.sub M (by simp [hM])
  · rw [List.pairwise_cons]
    refine ⟨fun M hM k => ?_, hs2.2⟩
    rcases hs.1 M (by simp [hM]) k with h1 | h1
    · rcases hs2.1 M hM k with h2 | h2
      · exact .inl (by simp [join2, h1, h2])
      · exact .inr h2
    · exact .inr h1
theorem join2_left {A B : Heaplet} : A.le (join2 A B) := fun k o h => by simp [join2, h]
theorem join2_right {A B : Heaplet} (h : Apart A B) : B.le (join2 A B) := fun k o hk => by
  rcases h k with h | h
  · simp [join2, h, hk]
  · rw [h] at hk; cases hk
end

/-! Frames by slots. -/
theorem beq_no {i j : Nat} (h : ¬ i = j) : Nat.beq i j = false := by
  cases e : Nat.beq i j with
  | false => rfl
  | true => exact absurd (Nat.eq_of_beq_eq_true e) h
def lk : List (Nat × Value) → Nat → Option Value
  | [], _ => none
  | (j, v) :: t, i => bif Nat.beq j i then some v else lk t i
def ev (l : List (Nat × Value)) : Operand → Option Value
  | .tmp t => lk l t
  | .const v => some v
  | .global g => some (.pointer (some ⟨g, 0, none⟩))
  | .func f => some (.func (.func f) #[] #[])
structure Fr (n : Nat) (l : List (Nat × Value)) (a : Act) : Prop where
  defers : a.defers = []
  size : a.tmps.size = n
  get : ∀ i v, lk l i = some v → a.tmps[i]? = some v
theorem Fr.eval {n : Nat} {l : List (Nat × Value)} {a : Act} (h : Fr n l a) {x : Operand} {v : Value} (hx : ev l x = some v) : a.eval x = v := by
  cases x with
  | tmp t =>
    have := h.get t v hx
    simp [Act.eval, Array.getD_eq_getD_getElem?, this]
  | const c => simpa [ev, Act.eval] using hx
  | global g => simpa [ev, Act.eval] using hx
  | func f => simpa [ev, Act.eval] using hx
theorem Fr.put {n : Nat} {l : List (Nat × Value)} {a : Act} (h : Fr n l a) {d : Nat} {v : Value} (hd : d < n) : Fr n ((d, v) :: l) (a.put (some d) v) := by
  refine ⟨h.defers, by simp [Act.put, h.size], fun i u hi => ?_⟩
  have hs := h.size
  simp only [Act.put, lk] at hi ⊢
  by_cases e : d = i
  · subst e
    simp at hi
    subst hi
    simp [hs, hd]
  · have : Nat.beq d i = false := beq_no e
    rw [this] at hi
    rw [Array.getElem?_setIfInBounds_ne e]
    exact h.get i u hi
theorem Fr.skip {n : Nat} {l : List (Nat × Value)} {a : Act} (h : Fr n l a) {d : Nat} {v : Value} (hl : lk l d = none) : Fr n l (a.put (some d) v) := by
  refine ⟨h.defers, by simp [Act.put, h.size], fun i u hi => ?_⟩
  have hne : d ≠ i := by rintro rfl; rw [hl] at hi; cases hi
  simp only [Act.put]
  rw [Array.getElem?_setIfInBounds_ne hne]
  exact h.get i u hi
theorem Fr.init {n : Nat} {args : Array Value} {l : List (Nat × Value)} (hn : args.size ≤ n) (hl : ∀ i v, lk l i = some v → args[i]? = some v) :
    Fr n l { tmps := args ++ Array.replicate (n - args.size) undef, defers := [] } := by
  refine ⟨rfl, by simp; omega, fun i v h => ?_⟩
  have h := hl i v h
  have hlt := (Array.getElem?_eq_some_iff.1 h).1
  rw [Array.getElem?_append_left hlt]; exact h

/-- Some slots of a frame. -/
inductive Keeps (l : List (Nat × Value)) : List (Nat × Value) → Prop
  | nil : Keeps l []
  | cons {i : Nat} {v : Value} {t : List (Nat × Value)} (h : lk l i = some v) (k : Keeps l t) : Keeps l ((i, v) :: t)
theorem Keeps.lk {l l' : List (Nat × Value)} (h : Keeps l l') : ∀ i v, lk l' i = some v → lk l i = some v := by
  induction h with
  | nil => intro i v h; cases h
  | cons h k ih =>
    intro i v hi
    unfold Go.Proofs.Ytbmlhdecnfplaaa.lk at hi
    rename_i j u t
    by_cases e : j = i
    · subst e; simp at hi; subst hi; exact h
    · have : Nat.beq j i = false := beq_no e
      rw [this] at hi
      exact ih i v hi

/-- What holds of every frame with these slots and every world with these heaplets. -/
def At (n : Nat) (l : List (Nat × Value)) (E : World) (L : List Heaplet) (K : Act → World → Prop) : Prop := ∀ a w, Fr n l a → Hp E L w → K a w
section
variable {P : Program} {n : Nat} {l l' : List (Nat × Value)} {E : World} {L L' : List Heaplet} {K K' : Act → World → Prop} {Q : Exit → Act → World → Prop}
theorem At.keep (hk : Keeps l l') (h : At n l' E L K) : At n l E L K := fun a w hf hw => h a w ⟨hf.defers, hf.size, fun i v hi => hf.get i v (hk.lk i v hi)⟩ hw
theorem At.perm (p : L.Perm L') (h : At n l E L' K) : At n l E L K := fun a w hf hw => h a w hf (hw.perm p)
theorem At.sub (p : L'.Sublist L) (h : At n l E L' K) : At n l E L K := fun a w hf hw => h a w hf (hw.drop p)
theorem At.mono (hk : ∀ a w, K' a w → K a w) (h : At n l E L K') : At n l E L K := fun a w hf hw => hk a w (h a w hf hw)
theorem At.merge {A B : Heaplet} (h : Apart A B → At n l E (join2 A B :: L) K) : At n l E (A :: B :: L) K := fun a w hf hw => h ((List.pairwise_cons.1 hw.sep).1 B (by simp)) a w hf hw.merge
theorem At.norm (h : At n l E L K) : At n l E L (Exit.then K Q .normal) := h
theorem At.thenExit {id : Nat} (h : At n l E L (Q (.exit id))) : At n l E L (Exit.then K Q (.exit id)) := h
theorem At.thenRet (h : At n l E L (Q .ret)) : At n l E L (Exit.then K Q .ret) := h
theorem At.inNorm {id : Nat} (h : At n l E L (Q .normal)) : At n l E L (Exit.inBlock id Q .normal) := h
theorem At.inRet {id : Nat} (h : At n l E L (Q .ret)) : At n l E L (Exit.inBlock id Q .ret) := h
theorem At.inHit {id : Nat} (h : At n l E L (Q .normal)) : At n l E L (Exit.inBlock id Q (.exit id)) := fun a w hf hw => by simpa [Exit.inBlock] using h a w hf hw
theorem At.inMiss {id id' : Nat} (hn : Nat.beq id' id = false) (h : At n l E L (Q (.exit id'))) : At n l E L (Exit.inBlock id Q (.exit id')) := fun a w hf hw => by
  have : id' ≠ id := Nat.ne_of_beq_eq_false hn
  simpa [Exit.inBlock, this] using h a w hf hw
theorem At.seq {x y : Code} (h : ∀ K, (∀ {l' E' L'}, At n l' E' L' (y.wp P Q) → At n l' E' L' K) → At n l E L (x.wp P (Exit.then K Q))) : At n l E L ((Code.seq x y).wp P Q) :=
  fun a w hf hw => wp_seq (h _ (fun h => h) a w hf hw)
theorem At.block {id : Nat} {c : Code} (h : At n l E L (c.wp P (Exit.inBlock id Q))) : At n l E L ((Code.block id c).wp P Q) := fun a w hf hw => wp_block (h a w hf hw)
theorem At.skip (h : At n l E L (Q .normal)) : At n l E L (Code.skip.wp P Q) := fun a w hf hw => wp_skip (h a w hf hw)
theorem At.exit {id : Nat} (h : At n l E L (Q (.exit id))) : At n l E L ((Code.exit id).wp P Q) := fun a w hf hw => wp_exit (h a w hf hw)
theorem At.ret (h : At n l E L (Q .ret)) : At n l E L (Code.ret.wp P Q) := fun a w hf hw => wp_ret (h a w hf hw)
theorem At.cond {c : Operand} {x y : Code} {t : Bool} (hc : ev l c = some (.bool t)) (ht : t = true → At n l E L (x.wp P Q)) (hf : t = false → At n l E L (y.wp P Q)) : At n l E L ((Code.cond c x y).wp P Q) :=
  fun a w h hw => wp_cond_split (h.eval hc) (fun e => ht e a w h hw) (fun e => hf e a w h hw)
/-- A test whose slot holds a proposition. -/
theorem At.condP {c : Operand} {x y : Code} {p : Prop} [Decidable p] (hc : ev l c = some (.bool (decide p))) (ht : p → At n l E L (x.wp P Q)) (hf : ¬ p → At n l E L (y.wp P Q)) : At n l E L ((Code.cond c x y).wp P Q) :=
  At.cond hc (fun e => ht (of_decide_eq_true e)) (fun e => hf (of_decide_eq_false e))
theorem At.condB {c : Operand} {x y : Code} {b : Bool} (hc : ev l c = some (.bool b)) (ht : b = true → At n l E L (x.wp P Q)) (hf : b = false → At n l E L (y.wp P Q)) : At n l E L ((Code.cond c x y).wp P Q) := At.cond hc ht hf
theorem At.condT {c : Operand} {x y : Code} (hc : ev l c = some (.bool true)) (h : At n l E L (x.wp P Q)) : At n l E L ((Code.cond c x y).wp P Q) := At.cond hc (fun _ => h) (fun e => by cases e)
theorem At.condF {c : Operand} {x y : Code} (hc : ev l c = some (.bool false)) (h : At n l E L (y.wp P Q)) : At n l E L ((Code.cond c x y).wp P Q) := At.cond hc (fun e => by cases e) (fun _ => h)
theorem At.region {id : Nat} {ops : List Oper} (h : At n l E L (wpList P ops.toArray Q ops)) : At n l E L ((Code.region id ops.toArray false).wp P Q) := fun a w hf hw => wp_region_lit (h a w hf hw)
theorem At.opsNil {ops : Array Oper} (h : At n l E L (Q .normal)) : At n l E L (wpList P ops Q []) := h
theorem At.drawn {id : Nat} {ops : List Oper} (snk ord : List Nat) (hm : P.follows .mixedOrders = true) (hB : oneB .any ops.toArray snk ord = true)
    (h : At n l E L (wpOne P ops.toArray (fun i => snk.contains i) Q ord)) : At n l E L ((Code.region id ops.toArray true).wp P Q) := fun a w hf hw => wp_one snk ord hm hB (h a w.drew hf hw.drew)
theorem At.oneNil {ops : Array Oper} {sink : Nat → Bool} (h : At n l E L (Q .normal)) : At n l E L (wpOne P ops sink Q []) := h
/-- The round's end. -/
def Back (n : Nat) (E : World) (I : List (Nat × Value) → List Heaplet → Nat → Prop) (m : Nat) (a : Act) (w : World) : Prop := ∃ l L m', I l L m' ∧ m' < m ∧ Fr n l a ∧ Hp E L w
theorem At.loop {c : Code} (I : List (Nat × Value) → List Heaplet → Nat → Prop) {l0 : List (Nat × Value)} {L0 : List Heaplet} {m0 : Nat} (hl : Keeps l l0) (hL : L.Perm L0) (h0 : I l0 L0 m0)
    (round : ∀ l L m, I l L m → At n l E L (c.wp P (Exit.then (Back n E I m) Q))) : At n l E L ((Code.loop c).wp P Q) := by
  intro a w hf hw
  have h1 : Back n E I (m0 + 1) a w := ⟨l0, L0, m0, h0, Nat.lt_succ_self _, ⟨hf.defers, hf.size, fun i v hi => hf.get i v (hl.lk i v hi)⟩, hw.perm hL⟩
  clear h0 hl hL hf hw
  -- the measure is carried outside
  have key : ∀ m a w, Back n E I (m + 1) a w → ∀ (b : Frame) (k : List Item) (cs : List Frame), ∃ e a' w', Q e a' w' ∧ Arrives P (lone (b.at a (.code c :: .inLoop c :: k)) cs w) b k cs e a' w' := by
    intro m
    induction m using Nat.strongRecOn with
    | _ m ih =>
      intro a w hb b k cs
      obtain ⟨l, L, m', hI, hlt, hf, hw⟩ := hb
      obtain ⟨e, a₁, w₁, hq, harr⟩ := round l L m' hI a w hf hw b (.inLoop c :: k) cs
      cases e with
      | normal =>
        obtain ⟨l2, L2, m2, hI2, hlt2, hf2, hw2⟩ := hq
        obtain ⟨e₂, a₂, w₂, hq₂, harr₂⟩ := ih m2 (by omega) a₁ w₁ ⟨l2, L2, m2, hI2, Nat.lt_succ_self _, hf2, hw2⟩ b k cs
        exact ⟨e₂, a₂, w₂, hq₂, .of_steps (Steps.trans harr (.one step_inLoop)) harr₂⟩
      | exit id => exact ⟨_, a₁, w₁, hq, .pass (x := .inLoop c) rfl (fun _ _ => .inl (by simp)) harr⟩
      | goto l => exact ⟨_, a₁, w₁, hq, .pass (x := .inLoop c) rfl (fun _ _ => .inl (by simp)) harr⟩
      | ret => exact ⟨_, a₁, w₁, hq, .pass (x := .inLoop c) rfl (fun _ _ => .inl (by simp)) harr⟩
      | panic ch => exact ⟨_, a₁, w₁, hq, .pass (x := .inLoop c) rfl (fun _ _ => .inl (by simp)) harr⟩
      | outgrown => exact ⟨_, a₁, w₁, hq, .pass (x := .inLoop c) rfl (fun _ _ => .inl (by simp)) harr⟩
  intro b k cs
  obtain ⟨e, a', w', hq, harr⟩ := key m0 a w h1 b k cs
  exact ⟨e, a', w', hq, .of_steps (.one step_loop) harr⟩
theorem At.back {I : List (Nat × Value) → List Heaplet → Nat → Prop} {m m' : Nat} (hl : Keeps l l') (hL : L.Perm L') (hI : I l' L' m') (hm : m' < m) : At n l E L (Back n E I m) := fun _ _ hf hw =>
  ⟨l', L', m', hI, hm, ⟨hf.defers, hf.size, fun i v hi => hf.get i v (hl.lk i v hi)⟩, hw.perm hL⟩
/-- Ways meet again: what holds where they meet. -/
theorem At.meet {c : Code} (I : List (Nat × Value) → List Heaplet → Prop) (hI : ∀ l L, I l L → At n l E L K) (hb : ∀ K', (∀ {l L l' L'}, Keeps l l' → L.Perm L' → I l' L' → At n l E L K') → At n l E L (c.wp P (Exit.then K' Q))) : At n l E L (c.wp P (Exit.then K Q)) :=
  hb K fun hk hp hi => At.keep hk (At.perm hp (hI _ _ hi))
end

/-! Functions. -/
/-- The call uses up the heaplets L0, reads Lr, and gives a value and heaplets of which Post holds; the rest R is as it was. -/
def Fn (P : Program) (f : FuncId) (args : Array Value) (L0 Lr : List Heaplet) (Post : Value → List Heaplet → Prop) : Prop :=
  ∀ (E w : World) (R : Heaplet), Hp E (L0 ++ [R]) w → (∀ N ∈ Lr, N.le R) → Calls P f args w fun e w' => ∃ v L1, e = .returned v ∧ Post v L1 ∧ Hp E (L1 ++ [R]) w'
/-- The end of a function's walk. -/
def Done (E : World) (R : Heaplet) (Post : Value → List Heaplet → Prop) (e : Ending) (w' : World) : Prop := ∃ v L1, e = .returned v ∧ Post v L1 ∧ Hp E (L1 ++ [R]) w'
section
variable {P : Program} {f : FuncId} {args : Array Value} {L0 Lr : List Heaplet} {Post : Value → List Heaplet → Prop}
theorem Fn.mono {Post' : Value → List Heaplet → Prop} (h : Fn P f args L0 Lr Post) (hp : ∀ v L, Post v L → Post' v L) : Fn P f args L0 Lr Post' := fun E w R hw hr =>
  (h E w R hw hr).mono fun _ _ ⟨v, L1, he, hP, hh⟩ => ⟨v, L1, he, hp _ _ hP, hh⟩
theorem Fn.more {Lr' : List Heaplet} (h : Fn P f args L0 Lr Post) (hs : ∀ N ∈ Lr, N ∈ Lr') : Fn P f args L0 Lr' Post := fun E w R hw hr => h E w R hw fun N hN => hr N (hs N hN)
theorem Fn.of_at {fn : Func} {c : Code} {n : Nat} {l : List (Nat × Value)} (hf : P.funcs[f]? = some fn) (hb : fn.body = some c) (hn : fn.ntmps = n) (hs : args.size ≤ n) (hl : ∀ i v, lk l i = some v → args[i]? = some v)
    (h : ∀ (E : World) (R : Heaplet), (∀ N ∈ Lr, N.le R) → At n l E (L0 ++ [R]) (c.wp P (bodyPost P fn (Done E R Post)))) : Fn P f args L0 Lr Post := by
  intro E w R hw hr
  refine calls_of_wp hf hb ?_
  subst hn
  exact h E R hr _ _ (Fr.init hs hl) hw
/-- The arguments as slots. -/
def slots : Nat → List Value → List (Nat × Value)
  | _, [] => []
  | k, v :: t => (k, v) :: slots (k + 1) t
theorem slots_get (l : List Value) : ∀ k i v, lk (slots k l) i = some v → k ≤ i ∧ l[i - k]? = some v := by
  induction l with
  | nil => intro k i v h; cases h
  | cons x t ih =>
    intro k i v h
    simp only [slots, lk] at h
    by_cases e : k = i
    · subst e; simp at h; subst h; simp
    · have : Nat.beq k i = false := beq_no e
      rw [this] at h
      obtain ⟨h1, h2⟩ := ih _ _ _ h
      refine ⟨by omega, ?_⟩
      rw [show i - k = (i - (k + 1)) + 1 from by omega]; simpa using h2
theorem Fn.enter {vs : List Value} {fn : Func} {c : Code} {n : Nat} (hf : P.funcs[f]? = some fn) (hb : fn.body = some c) (hn : fn.ntmps = n) (hs : Nat.ble vs.length n = true)
    (h : ∀ (E : World) (R : Heaplet), (∀ N ∈ Lr, N.le R) → At n (slots 0 vs) E (L0 ++ [R]) (c.wp P (bodyPost P fn (Done E R Post)))) : Fn P f vs.toArray L0 Lr Post :=
  Fn.of_at hf hb hn (by simpa using hs) (fun i v hi => by have := (slots_get vs 0 i v hi).2; simpa using this) h
/-- The values of the results. -/
inductive Res (P : Program) (l : List (Nat × Value)) (L : List Heaplet) : List ResultVar → List Value → Prop
  | nil : Res P l L [] []
  | tmp {t : Nat} {v : Value} {rs : List ResultVar} {vs : List Value} (h : lk l t = some v) (k : Res P l L rs vs) : Res P l L (.tmp t :: rs) (v :: vs)
  | cell {t : Nat} {T : TypeId} {v : Value} {a : Addr} {rs : List ResultVar} {vs : List Value} (h : lk l t = some (.pointer (some a))) (hv : ∀ E w, Hp E L w → (loadVar T a).run P w = .ok v w) (k : Res P l L rs vs) : Res P l L (.cell t T :: rs) (v :: vs)
theorem results_res {fn : Func} {n : Nat} {l : List (Nat × Value)} {a : Act} {E w : World} {L : List Heaplet} (hf : Fr n l a) (hw : Hp E L w)
    {rs : List ResultVar} {vs : List Value} (h : Res P l L rs vs) (e : fn.results = rs.toArray) :
      (results fn a.tmps).run P w = .ok (if h : vs.length = 1 then vs[0] else .tuple vs.toArray) w := by
  have key : ∀ {rs : List ResultVar} {vs : List Value}, Res P l L rs vs →
      (rs.mapM (m := Sem) fun
        | .tmp t => pure (a.tmps.getD t undef)
        | .cell x t => do loadVar t (← asAddr (a.tmps.getD x undef))).run P w = .ok vs w := by
    intro rs vs h
    induction h with
    | nil => rfl
    | tmp ht _ ih =>
      have := hf.get _ _ ht
      simp only [List.mapM_cons, Array.getD_eq_getD_getElem?, this, Option.getD_some] at ih ⊢
      rw [Sem.run_bind]
      simp only [Sem.run_pure, Result.andThen_ok]
      rw [Sem.run_bind, ih]
      rfl
    | cell ht hv _ ih =>
      have := hf.get _ _ ht
      simp only [List.mapM_cons, Array.getD_eq_getD_getElem?, this, Option.getD_some] at ih ⊢
      rw [Sem.run_bind, Sem.run_bind, show ∀ x, asAddr (Value.pointer (some x)) = pure x from fun _ => rfl]
      simp only [Sem.run_pure, Result.andThen_ok, hv E w hw]
      rw [Sem.run_bind, ih]
      rfl
  unfold results
  rw [e, List.mapM_toArray]
  have step : ∀ s : Sem (List Value), s.run P w = .ok vs w → (do
      let vs ← Functor.map List.toArray s
      pure (if h : vs.size = 1 then vs[0] else .tuple vs) : Sem Value).run P w = .ok (if h : vs.length = 1 then vs[0] else .tuple vs.toArray) w := by
    intro s hs
    rw [map_eq_pure_bind, Sem.run_bind, Sem.run_bind, hs]
    rfl
  exact step _ (key h)
theorem At.ret1 {n : Nat} {l : List (Nat × Value)} {E : World} {L L1 L2 : List Heaplet} {R : Heaplet} {fn : Func} {r : ResultVar} {v : Value} (hr : fn.results = #[r]) (hv : Res P l L [r] [v]) (hs : L2.Sublist L) (hL : L2.Perm (L1 ++ [R])) (hP : Post v L1) :
    At n l E L (bodyPost P fn (Done E R Post) .ret) := fun a w hf hw =>
  ⟨hf.defers, v, by
    have := results_res (P := P) (w := w) (fn := fn) hf hw hv hr
    simpa using this, v, L1, rfl, hP, (hw.drop hs).perm hL⟩
theorem At.retN {n : Nat} {l : List (Nat × Value)} {E : World} {L L1 L2 : List Heaplet} {R : Heaplet} {fn : Func} {rs : List ResultVar} {vs : List Value} (hr : fn.results = rs.toArray)
    (hv : Res P l L rs vs) (hn : (vs.length == 1) = false) (hs : L2.Sublist L) (hL : L2.Perm (L1 ++ [R])) (hP : Post (.tuple vs.toArray) L1) :
    At n l E L (bodyPost P fn (Done E R Post) .ret) := fun a w hf hw =>
  ⟨hf.defers, _, by
    have := results_res (P := P) (w := w) (fn := fn) hf hw hv hr
    have hn' : ¬ vs.length = 1 := by simpa using hn
    rw [dif_neg hn'] at this
    exact this, _, L1, rfl, hP, (hw.drop hs).perm hL⟩
end
end Go.Proofs.Ytbmlhdecnfplaaa
namespace Go.Proofs.Ytbmlhdecnfplaaa
set_option linter.unusedVariables false
set_option linter.unusedSimpArgs false
open Go
variable {P : Program} {ops : Array Oper} {md : Region.Mode} {Q : Exit → Act → World → Prop} {sink : Nat → Bool}

/-- How a region that draws is walked: what floats is taken; where several act, each of them may be the first ('fork', to the chain's end 'nofork'). -/
inductive Plan where
  | done
  | take (i : Nat) (p : Plan)
  | fork (i : Nat) (sink : Bool) (p rest : Plan)
  | nofork

def wpPlan (P : Program) (ops : Array Oper) (Q : Exit → Act → World → Prop) : Plan → Act → World → Prop
  | .done, a, w => Q .normal a w
  | .take i p, a, w =>
    match ops[i]? with
    | none => False
    | some o =>
      if Region.wanted o (yielded ops a.tmps) then floatOK P o.op a.eval = true ∧ o.wp P a w (wpPlan P ops Q p) (fun _ _ _ => False)
      else wpPlan P ops Q p (a.put o.dst undef) w
  | .fork i sink p rest, a, w =>
    (match ops[i]? with
     | none => False
     | some o =>
       if Region.wanted o (yielded ops a.tmps) then o.wp P a w (fun a' w' => (sink = true ∨ Agree w w') ∧ wpPlan P ops Q p a' w') (fun _ _ _ => False)
       else wpPlan P ops Q p (a.put o.dst undef) w) ∧ wpPlan P ops Q rest a w
  | .nofork, _, _ => True

def Plan.heads : Plan → List Nat
  | .fork i _ _ rest => i :: rest.heads
  | _ => []
mutual
def PlanOK (md : Region.Mode) (ops : Array Oper) : Plan → (Nat → Prop) → Prop
  | .done, G => ∀ j, j < ops.size → G j
  | .take i p, G => (i < ops.size ∧ ¬ G i ∧ DepsIn md ops G i ∧ FloatsAt ops i) ∧ PlanOK md ops p (With G i)
  | .fork i snk p rest, G => (∀ j, j < ops.size → ¬ G j → DepsIn md ops G j → j ∈ i :: rest.heads) ∧
      ((i < ops.size ∧ ¬ G i ∧ DepsIn md ops G i) ∧ (snk = true → ∀ j, G j → ∃ k, With G i k ∧ WaitsOn md ops k j) ∧ PlanOK md ops p (With G i)) ∧ ChainOK md ops rest G
  | .nofork, _ => False
def ChainOK (md : Region.Mode) (ops : Array Oper) : Plan → (Nat → Prop) → Prop
  | .fork i snk p rest, G => ((i < ops.size ∧ ¬ G i ∧ DepsIn md ops G i) ∧ (snk = true → ∀ j, G j → ∃ k, With G i k ∧ WaitsOn md ops k j) ∧ PlanOK md ops p (With G i)) ∧ ChainOK md ops rest G
  | .nofork, _ => True
  | _, _ => False
end
theorem PlanOK.congr {p : Plan} {G G' : Nat → Prop} (h : ∀ j, G j ↔ G' j) (hp : PlanOK md ops p G) : PlanOK md ops p G' := by
  have : G = G' := funext fun j => propext (h j)
  rwa [← this]
/-- One of those that may act first: its own step is among the plan's. -/
theorem chain_get {i : Nat} : ∀ {p : Plan} {G : Nat → Prop} {a : Act} {w : World}, ChainOK md ops p G → i ∈ p.heads → wpPlan P ops Q p a w →
    ∃ (snk : Bool) (q : Plan), ((i < ops.size ∧ ¬ G i ∧ DepsIn md ops G i) ∧ (snk = true → ∀ j, G j → ∃ k, With G i k ∧ WaitsOn md ops k j) ∧ PlanOK md ops q (With G i)) ∧
      (match ops[i]? with
       | none => False
       | some o =>
         if Region.wanted o (yielded ops a.tmps) then o.wp P a w (fun a' w' => (snk = true ∨ Agree w w') ∧ wpPlan P ops Q q a' w') (fun _ _ _ => False)
         else wpPlan P ops Q q (a.put o.dst undef) w)
  | .fork c snk q rest, G, a, w => fun hc hi hw => by
    rcases List.mem_cons.1 hi with rfl | hi
    · exact ⟨snk, q, hc.1, hw.1⟩
    · exact chain_get hc.2 hi hw.2
  | .done, _, _, _ => fun hc => hc.elim
  | .take _ _, _, _, _ => fun hc => hc.elim
  | .nofork, _, _, _ => fun _ hi => by cases hi

structure PlanInv (P : Program) (md : Region.Mode) (ops : Array Oper) (Q : Exit → Act → World → Prop) (listed : Array Bool) (pend : List (Nat × Value)) (rem : Plan) (a ag : Act) (w : World) : Prop where
  size : listed.size = ops.size
  closed : ∀ j, listed.getD j false = true → DepsIn md ops (fun k => listed.getD k false = true) j
  apart : ∀ j ∈ pend.map (·.1), j < ops.size ∧ listed.getD j false = false
  nodup : (pend.map (·.1)).Nodup
  fl : ∀ j ∈ pend.map (·.1), FloatsAt ops j
  ord : OrdOK md ops (fun _ => false) (fun k => listed.getD k false = true) (pend.map (·.1))
  plan : PlanOK md ops rem (fun k => listed.getD k false = true ∨ k ∈ pend.map (·.1))
  run : PendRun P ops w a pend ag
  wp : wpPlan P ops Q rem ag w

theorem OrdOK.noWait' {i : Nat} : ∀ (pre : List Nat) {G : Nat → Prop}, ¬ G i → i ∉ pre → OrdOK md ops sink G pre → ∀ j ∈ pre, ¬ WaitsOn md ops j i := by
  intro pre
  induction pre with
  | nil => intro G _ _ _ j hj; cases hj
  | cons p pre ih =>
    intro G hG hn h j hj hw
    rcases List.mem_cons.1 hj with rfl | hj
    · obtain ⟨o, ho, e, he, hb, rfl⟩ := hw
      exact hG (h.1 o ho e he hb)
    · refine ih (G := With G p) (fun hh => ?_) (fun hh => hn (List.mem_cons_of_mem _ hh)) h.2.2 j hj hw
      rcases hh with hh | hh
      · exact hG hh
      · exact hn (by rw [hh]; exact List.mem_cons_self)
theorem OrdOK.snoc {c : Nat} : ∀ (pre : List Nat) {G : Nat → Prop}, OrdOK md ops sink G pre → DepsIn md ops (fun k => G k ∨ k ∈ pre) c → FloatsAt ops c → OrdOK md ops sink G (pre ++ [c]) := by
  intro pre
  induction pre with
  | nil => intro G _ hd hf; exact ⟨hd.mono (fun j hj => by simpa using hj), .inl hf, trivial⟩
  | cons p pre ih =>
    intro G h hd hf
    refine ⟨h.1, h.2.1, ih h.2.2 (hd.mono fun j hj => ?_) hf⟩
    simp only [With, List.mem_cons] at hj ⊢
    rcases hj with hj | hj | hj
    · exact .inl (.inl hj)
    · exact .inl (.inr hj)
    · exact .inr hj
def unl (listed : Array Bool) : Nat := listed.toList.count false
theorem unl_set {listed : Array Bool} {i : Nat} (hi : i < listed.size) (h : listed.getD i false = false) : unl (listed.setIfInBounds i true) + 1 = unl listed := by
  have h0 : listed[i] = false := by simpa [Array.getD, hi] using h
  unfold unl
  have this : listed.toList[i]'(by simpa using hi) = false := by simpa using h0
  have hp : 0 < listed.toList.count false := by
    rw [List.count_pos_iff]; rw [← this]; exact List.getElem_mem _
  rw [Array.toList_setIfInBounds, List.count_set (by simpa using hi), this]
  show listed.toList.count false - 1 + 0 + 1 = _
  omega
theorem unl_zero {listed : Array Bool} (h : unl listed = 0) {j : Nat} (hj : j < listed.size) : listed.getD j false = true := by
  unfold unl at h
  rw [List.count_eq_zero] at h
  have : listed[j] ∈ listed.toList := by rw [Array.mem_toList_iff]; exact Array.getElem_mem hj
  simp only [Array.getD, hj, dite_true]
  cases hx : listed[j] with
  | true => simp [hx]
  | false => rw [hx] at this; exact absurd this h

theorem apartPre' {listed : Array Bool} {pre : List (Nat × Value)} {i : Nat} {o : Oper} (hp : PairsOK md ops) (hi : ops[i]? = some o)
    (hd : DepsIn md ops (fun k => listed.getD k false = true) i) (hpre : ∀ j ∈ pre.map (·.1), listed.getD j false = false) (hn : i ∉ pre.map (·.1))
    (hnw : ∀ j ∈ pre.map (·.1), ¬ WaitsOn md ops j i) : ∀ p ∈ pre, ∀ oj, ops[p.1]? = some oj → oj.apart ops o = true := by
  intro p hpp oj hoj
  have hpm : p.1 ∈ pre.map (·.1) := List.mem_map_of_mem hpp
  have hne : p.1 ≠ i := fun e => hn (e ▸ hpm)
  rcases hp p.1 i oj o hoj hi hne with h | h | h
  · exact h
  · exact absurd h (hnw p.1 hpm)
  · obtain ⟨o', ho', e, he, hb, heq⟩ := h
    have := hd o' ho' e he hb
    rw [heq, hpre _ hpm] at this
    cases this

theorem wpAny_of_plan (hs : ∀ (j : Nat) (oj : Oper), ops[j]? = some oj → NoSel oj) (hp : PairsOK md ops) :
    ∀ (fuel : Nat) (listed : Array Bool) (pend : List (Nat × Value)) (rem : Plan) (a ag : Act) (w : World),
      unl listed ≤ fuel → PlanInv P md ops Q listed pend rem a ag w → wpAny P md ops Q fuel listed a w := by
  -- nothing is ready: all has been done
  have stop : ∀ (rem : Plan) (listed : Array Bool) (pend : List (Nat × Value)) (a ag : Act) (w : World), PlanInv P md ops Q listed pend rem a ag w → Region.ready md ops listed = [] → Q .normal a w := by
    intro rem listed pend a ag w I hr
    have hnil : pend = [] := by
      cases pend with
      | nil => rfl
      | cons p pend =>
        have ha := I.apart p.1 (by simp)
        have : p.1 ∈ Region.ready md ops listed := (ready_iff I.size).2 ⟨ha.1, ha.2, I.ord.1⟩
        rw [hr] at this
        cases this
    subst hnil
    have hrun := I.run
    cases hrun
    have hpl := I.plan
    cases rem with
    | done => exact I.wp
    | take i p =>
      have h0 := hpl.1
      have : i ∈ Region.ready md ops listed := (ready_iff I.size).2 ⟨h0.1, by simpa using h0.2.1, h0.2.2.1.mono fun j hj => by simpa using hj⟩
      rw [hr] at this; cases this
    | fork i snk p rest =>
      have h0 := hpl.2.1.1
      have : i ∈ Region.ready md ops listed := (ready_iff I.size).2 ⟨h0.1, by simpa using h0.2.1, h0.2.2.mono fun j hj => by simpa using hj⟩
      rw [hr] at this; cases this
    | nofork => exact hpl.elim
  intro fuel
  induction fuel with
  | zero =>
    intro listed pend rem a ag w hlen I
    have hready : Region.ready md ops listed = [] := by
      cases h : Region.ready md ops listed with
      | nil => rfl
      | cons j l =>
        have hj : j ∈ Region.ready md ops listed := by rw [h]; exact List.mem_cons_self
        obtain ⟨hlt, h0, _⟩ := (ready_iff I.size).1 hj
        rw [unl_zero (by omega) (by rw [I.size]; exact hlt)] at h0; cases h0
    exact ⟨hready, stop _ _ _ _ _ _ I hready⟩
  | succ fuel ih =>
    intro listed pend rem a ag w hlen I
    refine ⟨stop _ _ _ _ _ _ I, ?_⟩
    intro i hi
    obtain ⟨hlt, hun, hd⟩ := (ready_iff I.size).1 hi
    obtain ⟨o, ho⟩ : ∃ o, ops[i]? = some o := ⟨_, Array.getElem?_eq_getElem hlt⟩
    have hil : i < listed.size := by rw [I.size]; exact hlt
    have hcnt : unl (listed.setIfInBounds i true) ≤ fuel := by have := unl_set hil hun; omega
    have hpull : ∀ (pend : List (Nat × Value)) (rem : Plan) (ag : Act), PlanInv P md ops Q listed pend rem a ag w → i ∈ pend.map (·.1) →
        wpOp P ops Q i (wpAny P md ops Q fuel (listed.setIfInBounds i true)) a w := by
      intro pend rem ag I hm
      obtain ⟨⟨i', v⟩, hmem, rfl⟩ := List.mem_map.1 hm
      obtain ⟨pre, post, rfl⟩ := List.append_of_mem hmem
      dsimp only at *
      have hord := I.ord
      have hnd := I.nodup
      simp only [List.map_append, List.map_cons] at hord hnd
      have hn : i' ∉ pre.map (·.1) := by
        intro hh
        have := List.nodup_append.1 hnd
        exact this.2.2 i' hh i' List.mem_cons_self rfl
      have hpre : ∀ j ∈ pre.map (·.1), listed.getD j false = false := fun j hj => (I.apart j (by simp only [List.map_append]; exact List.mem_append_left _ hj)).2
      obtain ⟨h1, h2⟩ := PendRun.pull ho hs pre (apartPre' hp ho hd hpre hn (hord.noWait _ (by simp [hun]) hn)) I.run
      refine h1.wpOp ho ?_
      refine ih _ (pre ++ post) rem _ ag w hcnt ?_
      have hsub : ∀ j, j ∈ (pre ++ post).map (·.1) → j ∈ (pre ++ (i', v) :: post).map (·.1) ∧ j ≠ i' := by
        intro j hj
        simp only [List.map_append, List.map_cons] at hj ⊢
        refine ⟨?_, ?_⟩
        · rcases List.mem_append.1 hj with h | h
          · exact List.mem_append_left _ h
          · exact List.mem_append_right _ (List.mem_cons_of_mem _ h)
        · rintro rfl
          have hnd2 := List.nodup_append.1 hnd
          rcases List.mem_append.1 hj with h | h
          · exact hn h
          · exact (List.nodup_cons.1 hnd2.2.1).1 h
      refine ⟨by simpa using I.size, closed_set I.size hlt I.closed hd, ?_, ?_, ?_, ?_, ?_, h2, I.wp⟩
      · intro j hj
        obtain ⟨h1, h2⟩ := hsub j hj
        refine ⟨(I.apart j h1).1, ?_⟩
        rw [getD_set_ne false (Ne.symm h2)]
        exact (I.apart j h1).2
      · simp only [List.map_append]
        exact (List.nodup_cons.1 ((List.Perm.nodup_iff List.perm_middle).1 hnd)).2
      · intro j hj
        exact I.fl j (hsub j hj).1
      · have := OrdOK.pull (pre.map (·.1)) (fun j hj => I.fl j (by simp only [List.map_append]; exact List.mem_append_left _ hj)) hd hord
        simp only [List.map_append]
        exact OrdOK.congr (fun j => (getD_setIf hil).symm) this
      · refine PlanOK.congr (fun j => ?_) I.plan
        rw [getD_setIf hil]
        simp only [With, List.map_append, List.map_cons, List.mem_append, List.mem_cons]
        constructor
        · rintro (h | h | h | h)
          · exact .inl (.inl h)
          · exact .inr (.inl h)
          · exact .inl (.inr h)
          · exact .inr (.inr h)
        · rintro ((h | h) | h | h)
          · exact .inl h
          · exact .inr (.inr (.inl h))
          · exact .inr (.inl h)
          · exact .inr (.inr (.inr h))
    have hact : ∀ (pend : List (Nat × Value)) (rem : Plan) (ag : Act), PlanInv P md ops Q listed pend rem a ag w → i ∉ pend.map (·.1) →
        (∃ (snk : Bool) (q : Plan), ((i < ops.size ∧ ¬ (listed.getD i false = true ∨ i ∈ pend.map (·.1)) ∧ DepsIn md ops (fun k => listed.getD k false = true ∨ k ∈ pend.map (·.1)) i) ∧
            (snk = true → ∀ j, (listed.getD j false = true ∨ j ∈ pend.map (·.1)) → ∃ k, With (fun k => listed.getD k false = true ∨ k ∈ pend.map (·.1)) i k ∧ WaitsOn md ops k j) ∧
            PlanOK md ops q (With (fun k => listed.getD k false = true ∨ k ∈ pend.map (·.1)) i)) ∧
          (match ops[i]? with
           | none => False
           | some o =>
             if Region.wanted o (yielded ops ag.tmps) then o.wp P ag w (fun a' w' => (snk = true ∨ Agree w w') ∧ wpPlan P ops Q q a' w') (fun _ _ _ => False)
             else wpPlan P ops Q q (ag.put o.dst undef) w)) →
        wpOp P ops Q i (wpAny P md ops Q fuel (listed.setIfInBounds i true)) a w := by
      intro pend rem ag I him ⟨snk, q, ⟨_, hsink, hq⟩, hwp⟩
      simp only [ho] at hwp
      have hpre : ∀ j ∈ pend.map (·.1), listed.getD j false = false := fun j hj => (I.apart j hj).2
      have hap := apartPre' hp ho hd hpre him (I.ord.noWait' _ (by simp [hun]) him)
      obtain ⟨e1, e2, e3⟩ := PendRun.push hs (hs i o ho) I.run hap
      have hstep : ∀ w', (snk = true ∨ Agree w w') → ∀ a' ag', wpPlan P ops Q q ag' w' → PendRun P ops w a' pend ag' → wpAny P md ops Q fuel (listed.setIfInBounds i true) a' w' := by
        intro w' hsa a' ag' hw' hrun'
        have hrun2 : PendRun P ops w' a' pend ag' := by
          rcases hsa with hsa | hsa
          · have hnil : pend = [] := by
              rcases List.eq_nil_or_concat pend with h | ⟨pre, ⟨j, u⟩, h⟩
              · exact h
              · exfalso
                rw [List.concat_eq_append] at h
                subst h
                have hjm : j ∈ (pre ++ [(j, u)]).map (·.1) := by simp
                have hju := hpre j hjm
                obtain ⟨k, hk, hwt⟩ := hsink hsa j (.inr hjm)
                have hord := I.ord
                have hnd := I.nodup
                simp only [List.map_append, List.map_cons, List.map_nil] at hord hnd
                have hjn : j ∉ pre.map (·.1) := fun hh => (List.nodup_append.1 hnd).2.2 j hh j List.mem_cons_self rfl
                have hself : ¬ WaitsOn md ops j j := by
                  intro hh
                  obtain ⟨o', ho', e, he, hb, heq⟩ := hh
                  have h0 := (OrdOK.at (pre.map (·.1)) hord).1 o' ho' e he hb
                  rw [heq] at h0
                  rcases h0 with h0 | h0
                  · rw [hju] at h0; cases h0
                  · exact hjn h0
                obtain ⟨o', ho', e, he, hb, heq⟩ := hwt
                rcases hk with (hk | hk) | hk
                · have := I.closed k hk o' ho' e he hb
                  rw [heq, hju] at this; cases this
                · simp only [List.map_append, List.map_cons, List.map_nil, List.mem_append, List.mem_singleton] at hk
                  rcases hk with hk | hk
                  · exact hord.noWait _ (by simp [hju]) hjn k hk ⟨o', ho', e, he, hb, heq⟩
                  · subst hk; exact hself ⟨o', ho', e, he, hb, heq⟩
                · subst hk
                  have := hd o' ho' e he hb
                  rw [heq, hju] at this; cases this
            subst hnil
            cases hrun'
            exact .nil _
          · exact hrun'.mono hsa
        refine ih _ pend q a' ag' w' hcnt ?_
        have hne : ∀ j ∈ pend.map (·.1), j ≠ i := fun j hj e => him (e ▸ hj)
        refine ⟨by simpa using I.size, closed_set I.size hlt I.closed hd, ?_, I.nodup, I.fl, ?_, ?_, hrun2, hw'⟩
        · intro j hj
          refine ⟨(I.apart j hj).1, ?_⟩
          rw [getD_set_ne false (Ne.symm (hne j hj))]
          exact (I.apart j hj).2
        · have hup : ∀ (l : List Nat) {G G' : Nat → Prop}, (∀ j, G j → G' j) → (∀ j ∈ l, FloatsAt ops j) → OrdOK md ops (fun _ => false) G l → OrdOK md ops (fun _ => false) G' l := by
            intro l
            induction l with
            | nil => intro G G' _ _ _; trivial
            | cons j l ihl =>
              intro G G' hG hf h
              exact ⟨h.1.mono hG, .inl (hf j List.mem_cons_self), ihl (fun k hk => hk.imp (hG k) id) (fun k hk => hf k (List.mem_cons_of_mem _ hk)) h.2.2⟩
          exact hup _ (fun j hj => (getD_setIf hil).2 (.inl hj)) I.fl I.ord
        · refine PlanOK.congr (fun j => ?_) hq
          rw [getD_setIf hil]
          simp only [With]
          constructor
          · rintro ((h | h) | h)
            · exact .inl (.inl h)
            · exact .inr h
            · exact .inl (.inr h)
          · rintro ((h | h) | h)
            · exact .inl (.inl h)
            · exact .inr h
            · exact .inl (.inr h)
      unfold Go.wpOp
      simp only [ho]
      by_cases hw : Region.wanted o (yielded ops ag.tmps) = true
      · rw [if_pos hw] at hwp
        rw [← e2, if_pos hw]
        left
        unfold Oper.wp at hwp ⊢
        rw [e1] at hwp
        refine upon_carry (fun v w' hk => ?_) (fun d w' hk => ?_) hwp
        · exact hstep w' hk.1 _ _ hk.2 (e3 v)
        · exact hstep w' hk.1 _ _ hk.2 ((PendRun.push hs (hs i o ho) (I.run.defers d) hap).2.2 undef)
      · rw [if_neg hw] at hwp
        rw [← e2, if_neg hw]
        exact hstep w (.inr (Agree.refl w)) _ _ hwp (e3 undef)
    have hgo : ∀ (rem : Plan) (pend : List (Nat × Value)) (ag : Act), PlanInv P md ops Q listed pend rem a ag w →
        wpOp P ops Q i (wpAny P md ops Q fuel (listed.setIfInBounds i true)) a w := by
      intro rem
      induction rem with
      | done =>
        intro pend ag I
        rcases I.plan i hlt with h | h
        · rw [hun] at h; cases h
        · exact hpull pend .done ag I h
      | nofork => intro pend ag I; exact I.plan.elim
      | take c p ihp =>
        intro pend ag I
        obtain ⟨⟨hc1, hc2, hc3, hc4⟩, hpl⟩ := I.plan
        obtain ⟨oc, hoc⟩ : ∃ oc, ops[c]? = some oc := ⟨_, Array.getElem?_eq_getElem hc1⟩
        have hwp := I.wp
        simp only [wpPlan, hoc] at hwp
        have hnext : ∃ v, RunsNow P ops w oc ag v ∧ wpPlan P ops Q p (ag.put oc.dst v) w := by
          by_cases hw : Region.wanted oc (yielded ops ag.tmps) = true
          · rw [if_pos hw] at hwp
            exact runsNow_of_wp hw hwp.1 hwp.2
          · rw [if_neg hw] at hwp
            exact ⟨undef, .inr ⟨by simpa using hw, rfl⟩, hwp⟩
        obtain ⟨v, hrn, hwp'⟩ := hnext
        have e : (pend ++ [(c, v)]).map (·.1) = pend.map (·.1) ++ [c] := by simp
        refine ihp (pend ++ [(c, v)]) (ag.put oc.dst v) ⟨I.size, I.closed, ?_, ?_, ?_, ?_, ?_, I.run.snoc hoc hrn, hwp'⟩
        · rw [e]; intro j hj
          rcases List.mem_append.1 hj with h | h
          · exact I.apart j h
          · simp at h; subst h; exact ⟨hc1, by simpa using fun h => hc2 (.inl h)⟩
        · rw [e]
          refine List.nodup_append.2 ⟨I.nodup, by simp, fun x hx y hy => ?_⟩
          simp at hy; subst hy
          intro e; subst e; exact hc2 (.inr hx)
        · rw [e]; intro j hj
          rcases List.mem_append.1 hj with h | h
          · exact I.fl j h
          · simp at h; subst h; exact hc4
        · rw [e]; exact I.ord.snoc _ hc3 hc4
        · refine PlanOK.congr (fun j => ?_) hpl
          rw [e]
          simp only [With, List.mem_append, List.mem_singleton, or_assoc]
      | fork c snk p rest _ _ =>
        intro pend ag I
        by_cases him : i ∈ pend.map (·.1)
        · exact hpull pend _ ag I him
        · refine hact pend _ ag I him ?_
          obtain ⟨hall, hone, hrest⟩ := I.plan
          have hmem := hall i hlt (by simp only [not_or]; exact ⟨by simp [hun], him⟩) (hd.mono fun j hj => .inl hj)
          have hchain : ChainOK md ops (.fork c snk p rest) (fun k => listed.getD k false = true ∨ k ∈ pend.map (·.1)) := ⟨hone, hrest⟩
          exact chain_get hchain hmem I.wp
    exact hgo rem pend ag I

/-! The check of a plan, by evaluation. -/
mutual
def planB (md : Region.Mode) (ops : Array Oper) : Plan → Array Bool → Bool
  | .done, G => (List.range ops.size).all fun j => G.getD j false
  | .take i p, G => decide (i < ops.size) && !G.getD i false && depsB md ops G i && floatsB ops i && planB md ops p (G.setIfInBounds i true)
  | .fork i snk p rest, G => ((List.range ops.size).all fun j => G.getD j false || !depsB md ops G j || (i :: rest.heads).contains j) &&
      (decide (i < ops.size) && !G.getD i false && depsB md ops G i) && (!snk || (List.range ops.size).all fun j => !G.getD j false || (List.range ops.size).any fun k => (G.getD k false || k == i) && waitsB md ops k j) &&
      planB md ops p (G.setIfInBounds i true) && chainB md ops rest G
  | .nofork, _ => false
def chainB (md : Region.Mode) (ops : Array Oper) : Plan → Array Bool → Bool
  | .fork i snk p rest, G => (decide (i < ops.size) && !G.getD i false && depsB md ops G i) && (!snk || (List.range ops.size).all fun j => !G.getD j false || (List.range ops.size).any fun k => (G.getD k false || k == i) && waitsB md ops k j) &&
      planB md ops p (G.setIfInBounds i true) && chainB md ops rest G
  | .nofork, _ => true
  | _, _ => false
end
theorem sinkB_spec {G : Array Bool} {i : Nat} {snk : Bool} (hG : G.size = ops.size)
    (h : (!snk || (List.range ops.size).all fun j => !G.getD j false || (List.range ops.size).any fun k => (G.getD k false || k == i) && waitsB md ops k j) = true) :
    snk = true → ∀ j, G.getD j false = true → ∃ k, With (fun k => G.getD k false = true) i k ∧ WaitsOn md ops k j := by
  intro hs j hj
  rw [hs, Bool.not_true, Bool.false_or, List.all_eq_true] at h
  have hjl : j < ops.size := by
    rcases Nat.lt_or_ge j G.size with hh | hh
    · omega
    · rw [Array.getD_eq_getD_getElem?, Array.getElem?_eq_none hh] at hj; cases hj
  have := h j (List.mem_range.2 hjl)
  simp only [hj, Bool.not_true, Bool.false_or, List.any_eq_true, Bool.and_eq_true, Bool.or_eq_true, beq_iff_eq] at this
  obtain ⟨k, _, hk, hw⟩ := this
  exact ⟨k, hk, waitsB_spec hw⟩
theorem planB_spec : ∀ (p : Plan), (∀ G : Array Bool, G.size = ops.size → planB md ops p G = true → PlanOK md ops p (fun k => G.getD k false = true)) ∧
    (∀ G : Array Bool, G.size = ops.size → chainB md ops p G = true → ChainOK md ops p (fun k => G.getD k false = true)) := by
  intro p
  induction p with
  | done =>
    refine ⟨fun G hG h => ?_, fun G _ h => by simp [chainB] at h⟩
    intro j hj
    simp only [planB, List.all_eq_true, List.mem_range] at h
    exact h j hj
  | nofork => exact ⟨fun G _ h => by simp [planB] at h, fun G _ _ => trivial⟩
  | take i p ih =>
    refine ⟨fun G hG h => ?_, fun G _ h => by simp [chainB] at h⟩
    simp only [planB, Bool.and_eq_true, decide_eq_true_eq, Bool.not_eq_true'] at h
    obtain ⟨⟨⟨⟨h0, h1⟩, h2⟩, h3⟩, h4⟩ := h
    exact ⟨⟨h0, by simp [h1], depsB_spec.1 h2, floatsB_spec h3⟩, PlanOK.congr (fun j => getD_setIf (by omega)) (ih.1 _ (by simpa using hG) h4)⟩
  | fork i snk p rest ihp ihr =>
    refine ⟨fun G hG h => ?_, fun G hG h => ?_⟩
    · simp only [planB, Bool.and_eq_true, decide_eq_true_eq, Bool.not_eq_true'] at h
      obtain ⟨⟨⟨⟨ha, ⟨h0, h1⟩, h2⟩, h3⟩, h4⟩, h5⟩ := h
      refine ⟨fun j hj hn hd => ?_, ⟨⟨h0, by simp [h1], depsB_spec.1 h2⟩, sinkB_spec hG h3, PlanOK.congr (fun j => getD_setIf (by omega)) (ihp.1 _ (by simpa using hG) h4)⟩, ihr.2 G hG h5⟩
      have := List.all_eq_true.1 ha j (List.mem_range.2 hj)
      have hn' : G.getD j false = false := by simpa using hn
      rw [depsB_spec.2 hd, hn'] at this
      simpa using this
    · simp only [chainB, Bool.and_eq_true, decide_eq_true_eq, Bool.not_eq_true'] at h
      obtain ⟨⟨⟨⟨⟨h0, h1⟩, h2⟩, h3⟩, h4⟩, h5⟩ := h
      exact ⟨⟨⟨h0, by simp [h1], depsB_spec.1 h2⟩, sinkB_spec hG h3, PlanOK.congr (fun j => getD_setIf (by omega)) (ihp.1 _ (by simpa using hG) h4)⟩, ihr.2 G hG h5⟩

def planOKB (md : Region.Mode) (ops : Array Oper) (p : Plan) : Bool := Region.noSelect ops && pairsB md ops && planB md ops p (Array.replicate ops.size false)
/-- A REGION THAT DRAWS, WALKED BY A PLAN. -/
theorem wp_plan {id : Nat} {a : Act} {w : World} {l : List Oper} (p : Plan) (hm : P.follows .mixedOrders = true) (hB : planOKB .any l.toArray p = true)
    (h : wpPlan P l.toArray Q p a w.drew) : (Code.region id l.toArray true).wp P Q a w := by
  simp only [planOKB, Bool.and_eq_true] at hB
  obtain ⟨⟨hsel, hpair⟩, hplan⟩ := hB
  refine wp_region_any hm ?_
  have hrep : ∀ j, (Array.replicate l.toArray.size false).getD j false = false := by
    intro j
    rw [Array.getD_eq_getD_getElem?, Array.getElem?_replicate]
    split <;> rfl
  refine wpAny_of_plan (fun j oj hj cs b => Region.noSelect_spec hsel j oj cs b hj) (pairsB_spec hpair) _ _ [] p a a _ ?_ ⟨by simp, ?_, by simp, by simp, by simp, trivial, ?_, .nil _, h⟩
  · unfold unl
    rw [Array.toList_replicate, List.count_replicate]
    simp
  · intro j hj
    rw [hrep] at hj; cases hj
  · exact PlanOK.congr (fun j => by simp) ((planB_spec p).1 _ (by simp) hplan)

section
variable {a : Act} {w : World} {i : Nat} {p rest : Plan} {o : Oper}
theorem wpPlan_done (h : Q .normal a w) : wpPlan P ops Q .done a w := h
theorem wpPlan_take (ho : ops[i]? = some o) (hw : Region.wanted o (yielded ops a.tmps) = true) (hok : floatOK P o.op a.eval = true)
    (h : ∀ K : Act → World → Prop, (∀ a w, wpPlan P ops Q p a w → K a w) → o.wp P a w K (fun _ _ _ => False)) : wpPlan P ops Q (.take i p) a w := by
  simp only [wpPlan, ho, if_pos hw]
  exact ⟨hok, h _ fun _ _ h => h⟩
theorem wpPlan_skip (ho : ops[i]? = some o) (hw : Region.wanted o (yielded ops a.tmps) = false) (h : wpPlan P ops Q p (a.put o.dst undef) w) : wpPlan P ops Q (.take i p) a w := by
  simp only [wpPlan, ho, hw]
  exact h
theorem wpPlan_sink (ho : ops[i]? = some o) (hw : Region.wanted o (yielded ops a.tmps) = true)
    (h : ∀ K : Act → World → Prop, (∀ a w, wpPlan P ops Q p a w → K a w) → o.wp P a w K (fun _ _ _ => False)) (hr : wpPlan P ops Q rest a w) : wpPlan P ops Q (.fork i true p rest) a w := by
  simp only [wpPlan, ho, if_pos hw]
  exact ⟨h _ fun _ _ h => ⟨.inl trivial, h⟩, hr⟩
theorem wpPlan_act {snk : Bool} (ho : ops[i]? = some o) (hw : Region.wanted o (yielded ops a.tmps) = true)
    (h : ∀ K : Act → World → Prop, (∀ a' w', (Agree w w' ∧ wpPlan P ops Q p a' w') → K a' w') → o.wp P a w K (fun _ _ _ => False)) (hr : wpPlan P ops Q rest a w) : wpPlan P ops Q (.fork i snk p rest) a w := by
  simp only [wpPlan, ho, if_pos hw]
  exact ⟨h _ fun _ _ h => ⟨.inr h.1, h.2⟩, hr⟩
theorem wpPlan_pass {snk : Bool} (ho : ops[i]? = some o) (hw : Region.wanted o (yielded ops a.tmps) = false) (h : wpPlan P ops Q p (a.put o.dst undef) w) (hr : wpPlan P ops Q rest a w) : wpPlan P ops Q (.fork i snk p rest) a w := by
  simp only [wpPlan, ho, hw]
  exact ⟨h, hr⟩
end
#print axioms wp_plan
end Go.Proofs.Ytbmlhdecnfplaaa
