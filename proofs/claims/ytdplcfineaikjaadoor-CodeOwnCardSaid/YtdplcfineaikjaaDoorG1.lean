/- The engine, part 1: heaplets, frames by slots, code in small lemmas. For whatever program. No condition. -/
import Derived.Test.YtdplcfineaikjaaDoorLib
namespace Go.Proofs.YtdplcfineaikjaaDoor
set_option linter.unusedVariables false
set_option linter.unusedSimpArgs false
open Go Go.RowKit

/-! Heaplets: a part of the memory, block by block. -/
abbrev Heaplet := Nat → Option Obj
def Heaplet.le (N M : Heaplet) : Prop := ∀ k o, N k = some o → M k = some o
def whole (w : World) : Heaplet := fun k => w.heap[k]?
def single (b : Nat) (o : Obj) : Heaplet := fun k => if k = b then some o else none
def upd (N : Heaplet) (b : Nat) (o : Obj) : Heaplet := fun k => if k = b then some o else N k
def join2 (A B : Heaplet) : Heaplet := fun k => (A k).or (B k)
def cellOf (N : Heaplet) (b i : Nat) : Option Value := match N b with
  | some (.cells c _ _) => c[i]?
  | _ => none
theorem Heaplet.le_refl (N : Heaplet) : N.le N := fun _ _ h => h
theorem Heaplet.le_trans {A B C : Heaplet} (h : A.le B) (k : B.le C) : A.le C := fun x o e => k x o (h x o e)
theorem cellOf_le {N M : Heaplet} (h : N.le M) {b i : Nat} {v : Value} (hc : cellOf N b i = some v) : cellOf M b i = some v := by
  unfold cellOf at hc ⊢
  split at hc
  · rename_i c t f e; rw [h _ _ e]; exact hc
  · cases hc

def Apart (A B : Heaplet) : Prop := ∀ k, A k = none ∨ B k = none
/-- The world holds these heaplets, apart from each other; what lies outside of memory is as in E. -/
structure Hp (E : World) (L : List Heaplet) (w : World) : Prop where
  os : w.os = E.os
  tape : w.tape = E.tape
  output : w.output = E.output
  sub : ∀ N ∈ L, N.le (whole w)
  sep : L.Pairwise Apart
theorem Apart.symm {A B : Heaplet} (h : Apart A B) : Apart B A := fun k => (h k).symm
theorem Apart.le {A B A' B' : Heaplet} (h : Apart A B) (ha : A'.le A) (hb : B'.le B) : Apart A' B' := fun k => by
  cases hA : A' k with
  | none => exact .inl rfl
  | some o =>
    cases hB : B' k with
    | none => exact .inr rfl
    | some o' =>
      have h1 := ha _ _ hA
      have h2 := hb _ _ hB
      rcases h k with h | h <;> simp_all

section
variable {E : World} {L L' : List Heaplet} {w : World} {N A B : Heaplet}
theorem Hp.perm (h : Hp E L w) (p : L.Perm L') : Hp E L' w :=
  ⟨h.os, h.tape, h.output, fun N hN => h.sub N (p.mem_iff.2 hN), (p.pairwise_iff fun h => h.symm).1 h.sep⟩
theorem Hp.drop (h : Hp E L w) (p : L'.Sublist L) : Hp E L' w :=
  ⟨h.os, h.tape, h.output, fun N hN => h.sub N (p.subset hN), h.sep.sublist p⟩
theorem Hp.drew (h : Hp E L w) : Hp E L w.drew := ⟨h.os, h.tape, h.output, h.sub, h.sep⟩
theorem Hp.cell (h : Hp E L w) (hN : N ∈ L) {b i : Nat} {v : Value} (hc : cellOf N b i = some v) : w.cell? ⟨b, i, none⟩ = some v := by
  have h1 := cellOf_le (h.sub N hN) hc
  unfold cellOf Go.Proofs.YtdplcfineaikjaaDoor.whole at h1
  unfold World.cell?
  split at h1
  · rename_i e; rw [e]; simpa using h1
  · cases h1
theorem Hp.lt (h : Hp E L w) (hN : N ∈ L) {b : Nat} {o : Obj} (hb : N b = some o) : b < w.heap.size := by
  have := h.sub N hN _ _ hb
  exact (Array.getElem?_eq_some_iff.1 this).1
theorem Hp.whole (w : World) : Hp w [whole w] w := ⟨rfl, rfl, rfl, fun N hN => by simp at hN; subst hN; exact Heaplet.le_refl _, by simp⟩
theorem Hp.env {E' : World} (h : Hp E L w) (ho : E.os = E'.os) (ht : E.tape = E'.tape) (hu : E.output = E'.output) : Hp E' L w := ⟨h.os.trans ho, h.tape.trans ht, h.output.trans hu, h.sub, h.sep⟩
theorem Hp.agree {w' : World} (h : Hp E (L ++ [Go.Proofs.YtdplcfineaikjaaDoor.whole w]) w') : Agree w w' := fun b hb => by
  have := h.sub (Go.Proofs.YtdplcfineaikjaaDoor.whole w) (by simp) b w.heap[b] (by simp [Go.Proofs.YtdplcfineaikjaaDoor.whole, hb])
  simpa [Go.Proofs.YtdplcfineaikjaaDoor.whole, hb] using this
theorem Hp.below {w' : World} (h : Hp w (L ++ [Go.Proofs.YtdplcfineaikjaaDoor.whole w]) w') : Below w.heap.size w w' := by
  have ha := h.agree
  exact ⟨h.os, h.tape, h.output, ha.le, ha⟩
theorem Hp.of_below {w' : World} (h : Below w.heap.size w w') : Hp w [Go.Proofs.YtdplcfineaikjaaDoor.whole w] w' :=
  ⟨h.os, h.tape, h.output, fun N hN k o hk => by
    simp at hN; subst hN
    have hlt : k < w.heap.size := (Array.getElem?_eq_some_iff.1 hk).1
    exact (h.block k hlt).trans hk, by simp⟩
/-- The last heaplet is taken apart again. -/
theorem Hp.refine {R : Heaplet} (h : Hp E (L ++ [R]) w) (hs : ∀ N ∈ L', N.le R) (hp : L'.Pairwise Apart) : Hp E (L ++ L') w := by
  refine ⟨h.os, h.tape, h.output, fun N hN => ?_, ?_⟩
  · rcases List.mem_append.1 hN with hN | hN
    · exact h.sub N (by simp [hN])
    · exact Heaplet.le_trans (hs N hN) (h.sub R (by simp))
  · rw [List.pairwise_append]
    have := List.pairwise_append.1 h.sep
    refine ⟨this.1, hp, fun a ha b hb => ?_⟩
    exact (this.2.2 a ha R (by simp)).le (Heaplet.le_refl _) (hs b hb)
theorem Hp.push (h : Hp E L w) {w' : World} (hos : w'.os = w.os) (ht : w'.tape = w.tape) (hu : w'.output = w.output) (ha : Agree w w') {N : Heaplet} (hN : N.le (Go.Proofs.YtdplcfineaikjaaDoor.whole w')) (hnew : ∀ k o, N k = some o → w.heap.size ≤ k) : Hp E (N :: L) w' := by
  refine ⟨hos.trans h.os, ht.trans h.tape, hu.trans h.output, fun M hM => ?_, ?_⟩
  · rcases List.mem_cons.1 hM with rfl | hM
    · exact hN
    · intro k o hk
      have hlt := h.lt hM hk
      exact (ha k hlt).trans (h.sub M hM k o hk)
  · rw [List.pairwise_cons]
    refine ⟨fun M hM k => ?_, h.sep⟩
    cases hk : N k with
    | none => exact .inl rfl
    | some o =>
      right
      cases hm : M k with
      | none => rfl
      | some o' => exact absurd (h.lt hM hm) (by have := hnew _ _ hk; omega)
theorem Hp.alloc (h : Hp E L w) (o : Obj) : Hp E (single w.heap.size o :: L) (w.alloc o) := by
  refine h.push (w' := w.alloc o) rfl rfl rfl (Agree.alloc _ _) (fun k o' hk => ?_) (fun k o' hk => ?_)
  · unfold single at hk
    split at hk
    · rename_i e; subst e; cases hk; exact heap_alloc_new w o
    · cases hk
  · unfold single at hk
    split at hk
    · rename_i e; omega
    · cases hk
/-- One block of the first heaplet turns. -/
theorem Hp.put (h : Hp E (N :: L) w) {b : Nat} {o o' : Obj} (hb : N b = some o) {w' : World} (hos : w'.os = w.os) (ht : w'.tape = w.tape) (hu : w'.output = w.output)
    (hnew : w'.heap[b]? = some o') (hold : ∀ k, k ≠ b → k < w.heap.size → w'.heap[k]? = w.heap[k]?) : Hp E (upd N b o' :: L) w' := by
  have hs := List.pairwise_cons.1 h.sep
  refine ⟨hos.trans h.os, ht.trans h.tape, hu.trans h.output, fun M hM => ?_, ?_⟩
  · rcases List.mem_cons.1 hM with rfl | hM'
    · intro k o2 hk
      unfold upd at hk
      split at hk
      · rename_i e; subst e; cases hk; exact hnew
      · rename_i e; exact (hold k e (h.lt (List.mem_cons_self ..) hk)).trans (h.sub N (List.mem_cons_self ..) _ _ hk)
    · intro k o2 hk
      have hne : k ≠ b := by
        rintro rfl
        rcases hs.1 M hM' k with h1 | h1
        · rw [hb] at h1; cases h1
        · rw [hk] at h1; cases h1
      exact (hold k hne (h.lt (List.mem_cons_of_mem _ hM') hk)).trans (h.sub M (List.mem_cons_of_mem _ hM') _ _ hk)
  · rw [List.pairwise_cons]
    refine ⟨fun M hM k => ?_, hs.2⟩
    have h0 := hs.1 M hM k
    unfold upd
    split
    · rename_i e; subst e
      rcases h0 with h1 | h1
      · rw [hb] at h1; cases h1
      · exact .inr h1
    · exact h0
theorem Hp.merge (h : Hp E (A :: B :: L) w) : Hp E (join2 A B :: L) w := by
  have hs := List.pairwise_cons.1 h.sep
  have hs2 := List.pairwise_cons.1 hs.2
  refine ⟨h.os, h.tape, h.output, fun M hM => ?_, ?_⟩
  · rcases List.mem_cons.1 hM with rfl | hM
    · intro k o hk
      unfold join2 at hk
      cases hA : A k with
      | none => rw [hA] at hk; exact h.sub B (by simp) _ _ (by simpa using hk)
      | some x => rw [hA] at hk; exact h.sub A (by simp) _ _ (by rw [hA]; simpa using hk)
    · exact h.sub M (by simp [hM])
  · rw [List.pairwise_cons]
    refine ⟨fun M hM k => ?_, hs2.2⟩
    rcases hs.1 M (by simp [hM]) k with h1 | h1
    · rcases hs2.1 M hM k with h2 | h2
      · exact .inl (by simp [join2, h1, h2])
      · exact .inr h2
    · exact .inr h1
theorem join2_left {A B : Heaplet} : A.le (join2 A B) := fun k o h => by simp [join2, h]
theorem join2_right {A B : Heaplet} (h : Apart A B) : B.le (join2 A B) := fun k o hk => by
  rcases h k with h | h
  · simp [join2, h, hk]
  · rw [h] at hk; cases hk
end

/-! Frames by slots. -/
theorem beq_no {i j : Nat} (h : ¬ i = j) : Nat.beq i j = false := by
  cases e : Nat.beq i j with
  | false => rfl
  | true => exact absurd (Nat.eq_of_beq_eq_true e) h
def lk : List (Nat × Value) → Nat → Option Value
  | [], _ => none
  | (j, v) :: t, i => bif Nat.beq j i then some v else lk t i
def ev (l : List (Nat × Value)) : Operand → Option Value
  | .tmp t => lk l t
  | .const v => some v
  | .global g => some (.pointer (some ⟨g, 0, none⟩))
  | .func f => some (.func (.func f) #[] #[])
structure Fr (n : Nat) (l : List (Nat × Value)) (a : Act) : Prop where
  defers : a.defers = []
  size : a.tmps.size = n
  get : ∀ i v, lk l i = some v → a.tmps[i]? = some v
theorem Fr.eval {n : Nat} {l : List (Nat × Value)} {a : Act} (h : Fr n l a) {x : Operand} {v : Value} (hx : ev l x = some v) : a.eval x = v := by
  cases x with
  | tmp t =>
    have := h.get t v hx
    simp [Act.eval, Array.getD_eq_getD_getElem?, this]
  | const c => simpa [ev, Act.eval] using hx
  | global g => simpa [ev, Act.eval] using hx
  | func f => simpa [ev, Act.eval] using hx
theorem Fr.put {n : Nat} {l : List (Nat × Value)} {a : Act} (h : Fr n l a) {d : Nat} {v : Value} (hd : d < n) : Fr n ((d, v) :: l) (a.put (some d) v) := by
  refine ⟨h.defers, by simp [Act.put, h.size], fun i u hi => ?_⟩
  have hs := h.size
  simp only [Act.put, lk] at hi ⊢
  by_cases e : d = i
  · subst e
    simp at hi
    subst hi
    simp [hs, hd]
  · have : Nat.beq d i = false := beq_no e
    rw [this] at hi
    rw [Array.getElem?_setIfInBounds_ne e]
    exact h.get i u hi
theorem Fr.skip {n : Nat} {l : List (Nat × Value)} {a : Act} (h : Fr n l a) {d : Nat} {v : Value} (hl : lk l d = none) : Fr n l (a.put (some d) v) := by
  refine ⟨h.defers, by simp [Act.put, h.size], fun i u hi => ?_⟩
  have hne : d ≠ i := by rintro rfl; rw [hl] at hi; cases hi
  simp only [Act.put]
  rw [Array.getElem?_setIfInBounds_ne hne]
  exact h.get i u hi
theorem Fr.init {n : Nat} {args : Array Value} {l : List (Nat × Value)} (hn : args.size ≤ n) (hl : ∀ i v, lk l i = some v → args[i]? = some v) :
    Fr n l { tmps := args ++ Array.replicate (n - args.size) undef, defers := [] } := by
  refine ⟨rfl, by simp; omega, fun i v h => ?_⟩
  have h := hl i v h
  have hlt := (Array.getElem?_eq_some_iff.1 h).1
  rw [Array.getElem?_append_left hlt]; exact h

/-- Some slots of a frame. -/
inductive Keeps (l : List (Nat × Value)) : List (Nat × Value) → Prop
  | nil : Keeps l []
  | cons {i : Nat} {v : Value} {t : List (Nat × Value)} (h : lk l i = some v) (k : Keeps l t) : Keeps l ((i, v) :: t)
theorem Keeps.lk {l l' : List (Nat × Value)} (h : Keeps l l') : ∀ i v, lk l' i = some v → lk l i = some v := by
  induction h with
  | nil => intro i v h; cases h
  | cons h k ih =>
    intro i v hi
    unfold Go.Proofs.YtdplcfineaikjaaDoor.lk at hi
    rename_i j u t
    by_cases e : j = i
    · subst e; simp at hi; subst hi; exact h
    · have : Nat.beq j i = false := beq_no e
      rw [this] at hi
      exact ih i v hi

/-- What holds of every frame with these slots and every world with these heaplets. -/
def At (n : Nat) (l : List (Nat × Value)) (E : World) (L : List Heaplet) (K : Act → World → Prop) : Prop := ∀ a w, Fr n l a → Hp E L w → K a w
section
variable {P : Program} {n : Nat} {l l' : List (Nat × Value)} {E : World} {L L' : List Heaplet} {K K' : Act → World → Prop} {Q : Exit → Act → World → Prop}
theorem At.keep (hk : Keeps l l') (h : At n l' E L K) : At n l E L K := fun a w hf hw => h a w ⟨hf.defers, hf.size, fun i v hi => hf.get i v (hk.lk i v hi)⟩ hw
theorem At.perm (p : L.Perm L') (h : At n l E L' K) : At n l E L K := fun a w hf hw => h a w hf (hw.perm p)
theorem At.sub (p : L'.Sublist L) (h : At n l E L' K) : At n l E L K := fun a w hf hw => h a w hf (hw.drop p)
theorem At.mono (hk : ∀ a w, K' a w → K a w) (h : At n l E L K') : At n l E L K := fun a w hf hw => hk a w (h a w hf hw)
theorem At.merge {A B : Heaplet} (h : Apart A B → At n l E (join2 A B :: L) K) : At n l E (A :: B :: L) K := fun a w hf hw => h ((List.pairwise_cons.1 hw.sep).1 B (by simp)) a w hf hw.merge
theorem At.norm (h : At n l E L K) : At n l E L (Exit.then K Q .normal) := h
theorem At.thenExit {id : Nat} (h : At n l E L (Q (.exit id))) : At n l E L (Exit.then K Q (.exit id)) := h
theorem At.thenRet (h : At n l E L (Q .ret)) : At n l E L (Exit.then K Q .ret) := h
theorem At.inNorm {id : Nat} (h : At n l E L (Q .normal)) : At n l E L (Exit.inBlock id Q .normal) := h
theorem At.inRet {id : Nat} (h : At n l E L (Q .ret)) : At n l E L (Exit.inBlock id Q .ret) := h
theorem At.inHit {id : Nat} (h : At n l E L (Q .normal)) : At n l E L (Exit.inBlock id Q (.exit id)) := fun a w hf hw => by simpa [Exit.inBlock] using h a w hf hw
theorem At.inMiss {id id' : Nat} (hn : Nat.beq id' id = false) (h : At n l E L (Q (.exit id'))) : At n l E L (Exit.inBlock id Q (.exit id')) := fun a w hf hw => by
  have : id' ≠ id := Nat.ne_of_beq_eq_false hn
  simpa [Exit.inBlock, this] using h a w hf hw
theorem At.seq {x y : Code} (h : ∀ K, (∀ {l' E' L'}, At n l' E' L' (y.wp P Q) → At n l' E' L' K) → At n l E L (x.wp P (Exit.then K Q))) : At n l E L ((Code.seq x y).wp P Q) :=
  fun a w hf hw => wp_seq (h _ (fun h => h) a w hf hw)
theorem At.block {id : Nat} {c : Code} (h : At n l E L (c.wp P (Exit.inBlock id Q))) : At n l E L ((Code.block id c).wp P Q) := fun a w hf hw => wp_block (h a w hf hw)
theorem At.skip (h : At n l E L (Q .normal)) : At n l E L (Code.skip.wp P Q) := fun a w hf hw => wp_skip (h a w hf hw)
theorem At.exit {id : Nat} (h : At n l E L (Q (.exit id))) : At n l E L ((Code.exit id).wp P Q) := fun a w hf hw => wp_exit (h a w hf hw)
theorem At.ret (h : At n l E L (Q .ret)) : At n l E L (Code.ret.wp P Q) := fun a w hf hw => wp_ret (h a w hf hw)
theorem At.cond {c : Operand} {x y : Code} {t : Bool} (hc : ev l c = some (.bool t)) (ht : t = true → At n l E L (x.wp P Q)) (hf : t = false → At n l E L (y.wp P Q)) : At n l E L ((Code.cond c x y).wp P Q) :=
  fun a w h hw => wp_cond_split (h.eval hc) (fun e => ht e a w h hw) (fun e => hf e a w h hw)
/-- A test whose slot holds a proposition. -/
theorem At.condP {c : Operand} {x y : Code} {p : Prop} [Decidable p] (hc : ev l c = some (.bool (decide p))) (ht : p → At n l E L (x.wp P Q)) (hf : ¬ p → At n l E L (y.wp P Q)) : At n l E L ((Code.cond c x y).wp P Q) :=
  At.cond hc (fun e => ht (of_decide_eq_true e)) (fun e => hf (of_decide_eq_false e))
theorem At.condB {c : Operand} {x y : Code} {b : Bool} (hc : ev l c = some (.bool b)) (ht : b = true → At n l E L (x.wp P Q)) (hf : b = false → At n l E L (y.wp P Q)) : At n l E L ((Code.cond c x y).wp P Q) := At.cond hc ht hf
theorem At.condT {c : Operand} {x y : Code} (hc : ev l c = some (.bool true)) (h : At n l E L (x.wp P Q)) : At n l E L ((Code.cond c x y).wp P Q) := At.cond hc (fun _ => h) (fun e => by cases e)
theorem At.condF {c : Operand} {x y : Code} (hc : ev l c = some (.bool false)) (h : At n l E L (y.wp P Q)) : At n l E L ((Code.cond c x y).wp P Q) := At.cond hc (fun e => by cases e) (fun _ => h)
theorem At.region {id : Nat} {ops : List Oper} (h : At n l E L (wpList P ops.toArray Q ops)) : At n l E L ((Code.region id ops.toArray false).wp P Q) := fun a w hf hw => wp_region_lit (h a w hf hw)
theorem At.opsNil {ops : Array Oper} (h : At n l E L (Q .normal)) : At n l E L (wpList P ops Q []) := h
theorem At.drawn {id : Nat} {ops : List Oper} (snk ord : List Nat) (hm : P.follows .mixedOrders = true) (hB : oneB .any ops.toArray snk ord = true)
    (h : At n l E L (wpOne P ops.toArray (fun i => snk.contains i) Q ord)) : At n l E L ((Code.region id ops.toArray true).wp P Q) := fun a w hf hw => wp_one snk ord hm hB (h a w.drew hf hw.drew)
theorem At.oneNil {ops : Array Oper} {sink : Nat → Bool} (h : At n l E L (Q .normal)) : At n l E L (wpOne P ops sink Q []) := h
/-- The round's end. -/
def Back (n : Nat) (E : World) (I : List (Nat × Value) → List Heaplet → Nat → Prop) (m : Nat) (a : Act) (w : World) : Prop := ∃ l L m', I l L m' ∧ m' < m ∧ Fr n l a ∧ Hp E L w
theorem At.loop {c : Code} (I : List (Nat × Value) → List Heaplet → Nat → Prop) {l0 : List (Nat × Value)} {L0 : List Heaplet} {m0 : Nat} (hl : Keeps l l0) (hL : L.Perm L0) (h0 : I l0 L0 m0)
    (round : ∀ l L m, I l L m → At n l E L (c.wp P (Exit.then (Back n E I m) Q))) : At n l E L ((Code.loop c).wp P Q) := by
  intro a w hf hw
  have h1 : Back n E I (m0 + 1) a w := ⟨l0, L0, m0, h0, Nat.lt_succ_self _, ⟨hf.defers, hf.size, fun i v hi => hf.get i v (hl.lk i v hi)⟩, hw.perm hL⟩
  clear h0 hl hL hf hw
  -- the measure is carried outside
  have key : ∀ m a w, Back n E I (m + 1) a w → ∀ (b : Frame) (k : List Item) (cs : List Frame), ∃ e a' w', Q e a' w' ∧ Arrives P (lone (b.at a (.code c :: .inLoop c :: k)) cs w) b k cs e a' w' := by
    intro m
    induction m using Nat.strongRecOn with
    | _ m ih =>
      intro a w hb b k cs
      obtain ⟨l, L, m', hI, hlt, hf, hw⟩ := hb
      obtain ⟨e, a₁, w₁, hq, harr⟩ := round l L m' hI a w hf hw b (.inLoop c :: k) cs
      cases e with
      | normal =>
        obtain ⟨l2, L2, m2, hI2, hlt2, hf2, hw2⟩ := hq
        obtain ⟨e₂, a₂, w₂, hq₂, harr₂⟩ := ih m2 (by omega) a₁ w₁ ⟨l2, L2, m2, hI2, Nat.lt_succ_self _, hf2, hw2⟩ b k cs
        exact ⟨e₂, a₂, w₂, hq₂, .of_steps (Steps.trans harr (.one step_inLoop)) harr₂⟩
      | exit id => exact ⟨_, a₁, w₁, hq, .pass (x := .inLoop c) rfl (fun _ _ => .inl (by simp)) harr⟩
      | goto l => exact ⟨_, a₁, w₁, hq, .pass (x := .inLoop c) rfl (fun _ _ => .inl (by simp)) harr⟩
      | ret => exact ⟨_, a₁, w₁, hq, .pass (x := .inLoop c) rfl (fun _ _ => .inl (by simp)) harr⟩
      | panic ch => exact ⟨_, a₁, w₁, hq, .pass (x := .inLoop c) rfl (fun _ _ => .inl (by simp)) harr⟩
      | outgrown => exact ⟨_, a₁, w₁, hq, .pass (x := .inLoop c) rfl (fun _ _ => .inl (by simp)) harr⟩
  intro b k cs
  obtain ⟨e, a', w', hq, harr⟩ := key m0 a w h1 b k cs
  exact ⟨e, a', w', hq, .of_steps (.one step_loop) harr⟩
theorem At.back {I : List (Nat × Value) → List Heaplet → Nat → Prop} {m m' : Nat} (hl : Keeps l l') (hL : L.Perm L') (hI : I l' L' m') (hm : m' < m) : At n l E L (Back n E I m) := fun _ _ hf hw =>
  ⟨l', L', m', hI, hm, ⟨hf.defers, hf.size, fun i v hi => hf.get i v (hl.lk i v hi)⟩, hw.perm hL⟩
/-- Ways meet again: what holds where they meet. -/
theorem At.meet {c : Code} (I : List (Nat × Value) → List Heaplet → Prop) (hI : ∀ l L, I l L → At n l E L K) (hb : ∀ K', (∀ {l L l' L'}, Keeps l l' → L.Perm L' → I l' L' → At n l E L K') → At n l E L (c.wp P (Exit.then K' Q))) : At n l E L (c.wp P (Exit.then K Q)) :=
  hb K fun hk hp hi => At.keep hk (At.perm hp (hI _ _ hi))
end

/-! Functions. -/
/-- The call uses up the heaplets L0, reads Lr, and gives a value and heaplets of which Post holds; the rest R is as it was. -/
def Fn (P : Program) (f : FuncId) (args : Array Value) (L0 Lr : List Heaplet) (Post : Value → List Heaplet → Prop) : Prop :=
  ∀ (E w : World) (R : Heaplet), Hp E (L0 ++ [R]) w → (∀ N ∈ Lr, N.le R) → Calls P f args w fun e w' => ∃ v L1, e = .returned v ∧ Post v L1 ∧ Hp E (L1 ++ [R]) w'
/-- The end of a function's walk. -/
def Done (E : World) (R : Heaplet) (Post : Value → List Heaplet → Prop) (e : Ending) (w' : World) : Prop := ∃ v L1, e = .returned v ∧ Post v L1 ∧ Hp E (L1 ++ [R]) w'
section
variable {P : Program} {f : FuncId} {args : Array Value} {L0 Lr : List Heaplet} {Post : Value → List Heaplet → Prop}
theorem Fn.mono {Post' : Value → List Heaplet → Prop} (h : Fn P f args L0 Lr Post) (hp : ∀ v L, Post v L → Post' v L) : Fn P f args L0 Lr Post' := fun E w R hw hr =>
  (h E w R hw hr).mono fun _ _ ⟨v, L1, he, hP, hh⟩ => ⟨v, L1, he, hp _ _ hP, hh⟩
theorem Fn.more {Lr' : List Heaplet} (h : Fn P f args L0 Lr Post) (hs : ∀ N ∈ Lr, N ∈ Lr') : Fn P f args L0 Lr' Post := fun E w R hw hr => h E w R hw fun N hN => hr N (hs N hN)
theorem Fn.of_at {fn : Func} {c : Code} {n : Nat} {l : List (Nat × Value)} (hf : P.funcs[f]? = some fn) (hb : fn.body = some c) (hn : fn.ntmps = n) (hs : args.size ≤ n) (hl : ∀ i v, lk l i = some v → args[i]? = some v)
    (h : ∀ (E : World) (R : Heaplet), (∀ N ∈ Lr, N.le R) → At n l E (L0 ++ [R]) (c.wp P (bodyPost P fn (Done E R Post)))) : Fn P f args L0 Lr Post := by
  intro E w R hw hr
  refine calls_of_wp hf hb ?_
  subst hn
  exact h E R hr _ _ (Fr.init hs hl) hw
/-- The arguments as slots. -/
def slots : Nat → List Value → List (Nat × Value)
  | _, [] => []
  | k, v :: t => (k, v) :: slots (k + 1) t
theorem slots_get (l : List Value) : ∀ k i v, lk (slots k l) i = some v → k ≤ i ∧ l[i - k]? = some v := by
  induction l with
  | nil => intro k i v h; cases h
  | cons x t ih =>
    intro k i v h
    simp only [slots, lk] at h
    by_cases e : k = i
    · subst e; simp at h; subst h; simp
    · have : Nat.beq k i = false := beq_no e
      rw [this] at h
      obtain ⟨h1, h2⟩ := ih _ _ _ h
      refine ⟨by omega, ?_⟩
      rw [show i - k = (i - (k + 1)) + 1 from by omega]; simpa using h2
theorem Fn.enter {vs : List Value} {fn : Func} {c : Code} {n : Nat} (hf : P.funcs[f]? = some fn) (hb : fn.body = some c) (hn : fn.ntmps = n) (hs : Nat.ble vs.length n = true)
    (h : ∀ (E : World) (R : Heaplet), (∀ N ∈ Lr, N.le R) → At n (slots 0 vs) E (L0 ++ [R]) (c.wp P (bodyPost P fn (Done E R Post)))) : Fn P f vs.toArray L0 Lr Post :=
  Fn.of_at hf hb hn (by simpa using hs) (fun i v hi => by have := (slots_get vs 0 i v hi).2; simpa using this) h
/-- The values of the results. -/
inductive Res (P : Program) (l : List (Nat × Value)) (L : List Heaplet) : List ResultVar → List Value → Prop
  | nil : Res P l L [] []
  | tmp {t : Nat} {v : Value} {rs : List ResultVar} {vs : List Value} (h : lk l t = some v) (k : Res P l L rs vs) : Res P l L (.tmp t :: rs) (v :: vs)
  | cell {t : Nat} {T : TypeId} {v : Value} {a : Addr} {rs : List ResultVar} {vs : List Value} (h : lk l t = some (.pointer (some a))) (hv : ∀ E w, Hp E L w → (loadVar T a).run P w = .ok v w) (k : Res P l L rs vs) : Res P l L (.cell t T :: rs) (v :: vs)
theorem results_res {fn : Func} {n : Nat} {l : List (Nat × Value)} {a : Act} {E w : World} {L : List Heaplet} (hf : Fr n l a) (hw : Hp E L w)
    {rs : List ResultVar} {vs : List Value} (h : Res P l L rs vs) (e : fn.results = rs.toArray) :
      (results fn a.tmps).run P w = .ok (if h : vs.length = 1 then vs[0] else .tuple vs.toArray) w := by
  have key : ∀ {rs : List ResultVar} {vs : List Value}, Res P l L rs vs →
      (rs.mapM (m := Sem) fun
        | .tmp t => pure (a.tmps.getD t undef)
        | .cell x t => do loadVar t (← asAddr (a.tmps.getD x undef))).run P w = .ok vs w := by
    intro rs vs h
    induction h with
    | nil => rfl
    | tmp ht _ ih =>
      have := hf.get _ _ ht
      simp only [List.mapM_cons, Array.getD_eq_getD_getElem?, this, Option.getD_some] at ih ⊢
      rw [Sem.run_bind]
      simp only [Sem.run_pure, Result.andThen_ok]
      rw [Sem.run_bind, ih]
      rfl
    | cell ht hv _ ih =>
      have := hf.get _ _ ht
      simp only [List.mapM_cons, Array.getD_eq_getD_getElem?, this, Option.getD_some] at ih ⊢
      rw [Sem.run_bind, Sem.run_bind, show ∀ x, asAddr (Value.pointer (some x)) = pure x from fun _ => rfl]
      simp only [Sem.run_pure, Result.andThen_ok, hv E w hw]
      rw [Sem.run_bind, ih]
      rfl
  unfold results
  rw [e, List.mapM_toArray]
  have step : ∀ s : Sem (List Value), s.run P w = .ok vs w → (do
      let vs ← Functor.map List.toArray s
      pure (if h : vs.size = 1 then vs[0] else .tuple vs) : Sem Value).run P w = .ok (if h : vs.length = 1 then vs[0] else .tuple vs.toArray) w := by
    intro s hs
    rw [map_eq_pure_bind, Sem.run_bind, Sem.run_bind, hs]
    rfl
  exact step _ (key h)
theorem At.ret1 {n : Nat} {l : List (Nat × Value)} {E : World} {L L1 L2 : List Heaplet} {R : Heaplet} {fn : Func} {r : ResultVar} {v : Value} (hr : fn.results = #[r]) (hv : Res P l L [r] [v]) (hs : L2.Sublist L) (hL : L2.Perm (L1 ++ [R])) (hP : Post v L1) :
    At n l E L (bodyPost P fn (Done E R Post) .ret) := fun a w hf hw =>
  ⟨hf.defers, v, by
    have := results_res (P := P) (w := w) (fn := fn) hf hw hv hr
    simpa using this, v, L1, rfl, hP, (hw.drop hs).perm hL⟩
theorem At.retN {n : Nat} {l : List (Nat × Value)} {E : World} {L L1 L2 : List Heaplet} {R : Heaplet} {fn : Func} {rs : List ResultVar} {vs : List Value} (hr : fn.results = rs.toArray)
    (hv : Res P l L rs vs) (hn : (vs.length == 1) = false) (hs : L2.Sublist L) (hL : L2.Perm (L1 ++ [R])) (hP : Post (.tuple vs.toArray) L1) :
    At n l E L (bodyPost P fn (Done E R Post) .ret) := fun a w hf hw =>
  ⟨hf.defers, _, by
    have := results_res (P := P) (w := w) (fn := fn) hf hw hv hr
    have hn' : ¬ vs.length = 1 := by simpa using hn
    rw [dif_neg hn'] at this
    exact this, _, L1, rfl, hP, (hw.drop hs).perm hL⟩
end
end Go.Proofs.YtdplcfineaikjaaDoor
