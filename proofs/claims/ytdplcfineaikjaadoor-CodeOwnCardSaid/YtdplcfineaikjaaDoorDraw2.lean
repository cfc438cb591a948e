import Derived.Test.YtdplcfineaikjaaDoorDraw
namespace Go.Proofs.YtdplcfineaikjaaDoor
set_option linter.unusedVariables false
set_option linter.unusedSimpArgs false
open Go
variable {P : Program} {ops : Array Oper} {md : Region.Mode} {Q : Exit → Act → World → Prop}

/-- The walk of a region in one order: what floats must be fit to (floatOK); behind what acts every block is as it was, or nothing that floats can still be to come (sink). -/
def wpOne (P : Program) (ops : Array Oper) (sink : Nat → Bool) (Q : Exit → Act → World → Prop) : List Nat → Act → World → Prop
  | [], a, w => Q .normal a w
  | i :: rest, a, w =>
    match ops[i]? with
    | none => False
    | some o =>
      if Region.wanted o (yielded ops a.tmps) then
        if floats o.op then floatOK P o.op a.eval = true ∧ o.wp P a w (wpOne P ops sink Q rest) (fun _ _ _ => False)
        else o.wp P a w (fun a' w' => (sink i = true ∨ Agree w w') ∧ wpOne P ops sink Q rest a' w') (fun _ _ _ => False)
      else wpOne P ops sink Q rest (a.put o.dst undef) w

def RunsNow (P : Program) (ops : Array Oper) (w : World) (o : Oper) (a : Act) (v : Value) : Prop :=
  (Region.wanted o (yielded ops a.tmps) = true ∧ ∀ w', Agree w w' → (execOp a.eval o).run P w' = .ok (.value v) w') ∨ (Region.wanted o (yielded ops a.tmps) = false ∧ v = undef)

inductive PendRun (P : Program) (ops : Array Oper) (w : World) : Act → List (Nat × Value) → Act → Prop
  | nil (a : Act) : PendRun P ops w a [] a
  | cons {a ag : Act} {i : Nat} {v : Value} {o : Oper} {l : List (Nat × Value)} (ho : ops[i]? = some o) (hr : RunsNow P ops w o a v) (h : PendRun P ops w (a.put o.dst v) l ag) : PendRun P ops w a ((i, v) :: l) ag

def NoSel (o : Oper) : Prop := ∀ cs b, o.op ≠ .select cs b

theorem RunsNow.put {w : World} {oi oj : Oper} {a : Act} {v u : Value} (hap : oi.apart ops oj = true) (hs : NoSel oj) (h : RunsNow P ops w oj (a.put oi.dst v) u) : RunsNow P ops w oj a u := by
  obtain ⟨h1, _, _⟩ := Oper.apart_spec hap
  unfold RunsNow at *
  rw [wanted_put oj a oi.dst v h1, execOp_put oj hs a oi.dst v h1] at h
  exact h
theorem RunsNow.put' {w : World} {oi oj : Oper} {a : Act} {v u : Value} (hap : oi.apart ops oj = true) (hs : NoSel oj) (h : RunsNow P ops w oj a u) : RunsNow P ops w oj (a.put oi.dst v) u := by
  obtain ⟨h1, _, _⟩ := Oper.apart_spec hap
  unfold RunsNow at *
  rw [wanted_put oj a oi.dst v h1, execOp_put oj hs a oi.dst v h1]
  exact h
theorem apart_symm {oi oj : Oper} (h : oi.apart ops oj = true) : oj.apart ops oi = true := by
  obtain ⟨h1, h2, h3⟩ := Oper.apart_spec h
  unfold Oper.apart
  cases hi : oi.dst with
  | none =>
    cases hj : oj.dst with
    | none => rfl
    | some d => simp; exact h3 d hj
  | some c =>
    cases hj : oj.dst with
    | none => simp; exact h1 c hi
    | some d =>
      have := h2 c hi
      rw [hj] at this
      simp
      exact ⟨⟨h3 d hj, fun e => this (by rw [e])⟩, h1 c hi⟩
theorem PendRun.mono {w w' : World} (hw : Agree w w') {a ag : Act} {l : List (Nat × Value)} (h : PendRun P ops w a l ag) : PendRun P ops w' a l ag := by
  induction h with
  | nil a => exact .nil a
  | cons ho hr _ ih => exact .cons ho (hr.imp (fun ⟨x, y⟩ => ⟨x, fun w2 h2 => y w2 (hw.trans h2)⟩) id) ih

theorem PendRun.pull {w : World} {i : Nat} {o : Oper} {v : Value} (hi : ops[i]? = some o) (hs : ∀ (j : Nat) (oj : Oper), ops[j]? = some oj → NoSel oj) {post : List (Nat × Value)} :
    ∀ (pre : List (Nat × Value)) {a ag : Act}, (∀ p ∈ pre, ∀ oj, ops[p.1]? = some oj → oj.apart ops o = true) → PendRun P ops w a (pre ++ (i, v) :: post) ag →
      RunsNow P ops w o a v ∧ PendRun P ops w (a.put o.dst v) (pre ++ post) ag := by
  intro pre
  induction pre with
  | nil =>
    intro a ag _ h
    cases h with
    | cons ho hr h => rw [hi] at ho; cases ho; exact ⟨hr, h⟩
  | cons p pre ih =>
    intro a ag hap h
    cases h with
    | @cons _ _ j u oj _ ho hr h =>
      have hj := hap (j, u) (List.mem_cons_self) oj ho
      obtain ⟨h1, h2⟩ := ih (fun q hq => hap q (List.mem_cons_of_mem _ hq)) h
      refine ⟨h1.put hj (hs i o hi), ?_⟩
      refine .cons ho (hr.put' (apart_symm hj) (hs j oj ho)) ?_
      rw [← Act.put_comm a u v (Oper.apart_spec hj).2.1]
      exact h2

theorem PendRun.push {w : World} {o : Oper} (hs : ∀ (j : Nat) (oj : Oper), ops[j]? = some oj → NoSel oj) (ho : NoSel o) {l : List (Nat × Value)} {a ag : Act} (h : PendRun P ops w a l ag)
    (hap : ∀ p ∈ l, ∀ oj, ops[p.1]? = some oj → oj.apart ops o = true) :
    execOp ag.eval o = execOp a.eval o ∧ Region.wanted o (yielded ops ag.tmps) = Region.wanted o (yielded ops a.tmps) ∧ ∀ u, PendRun P ops w (a.put o.dst u) l (ag.put o.dst u) := by
  induction h with
  | nil a => exact ⟨rfl, rfl, fun u => .nil _⟩
  | @cons a ag j v oj l hoj hr h ih =>
    have hj := hap (j, v) (List.mem_cons_self) oj hoj
    obtain ⟨h1, h2, h3⟩ := Oper.apart_spec hj
    obtain ⟨i1, i2, i3⟩ := ih (fun q hq => hap q (List.mem_cons_of_mem _ hq))
    refine ⟨i1.trans (execOp_put o ho a _ _ h1), i2.trans (wanted_put o a _ _ h1), fun u => ?_⟩
    refine .cons hoj (hr.put' (apart_symm hj) (hs j oj hoj)) ?_
    rw [← Act.put_comm a v u h2]
    exact i3 u
theorem PendRun.snoc {w : World} {l : List (Nat × Value)} {a ag : Act} {c : Nat} {oc : Oper} {v : Value} (h : PendRun P ops w a l ag) (hoc : ops[c]? = some oc) (hr : RunsNow P ops w oc ag v) :
    PendRun P ops w a (l ++ [(c, v)]) (ag.put oc.dst v) := by
  induction h with
  | nil a => exact .cons hoc hr (.nil _)
  | cons ho hr' _ ih => exact .cons ho hr' (ih hr)
theorem PendRun.defers {w : World} {l : List (Nat × Value)} {a ag : Act} (h : PendRun P ops w a l ag) (d : Deferred) :
    PendRun P ops w { a with defers := d :: a.defers } l { ag with defers := d :: ag.defers } := by
  induction h with
  | nil a => exact .nil _
  | @cons a ag j v oj l hoj hr h ih =>
    refine .cons hoj hr ?_
    rw [← Act.put_defers]
    exact ih

/-- The operations that i waits for are in G. -/
def DepsIn (md : Region.Mode) (ops : Array Oper) (G : Nat → Prop) (i : Nat) : Prop := ∀ o, ops[i]? = some o → ∀ e ∈ o.after, Region.binds md e = true → G e.on
def WaitsOn (md : Region.Mode) (ops : Array Oper) (k j : Nat) : Prop := ∃ o, ops[k]? = some o ∧ ∃ e ∈ o.after, Region.binds md e = true ∧ e.on = j
def FloatsAt (ops : Array Oper) (i : Nat) : Prop := ∀ o, ops[i]? = some o → floats o.op = true
def With (G : Nat → Prop) (i : Nat) (j : Nat) : Prop := G j ∨ j = i

def OrdOK (md : Region.Mode) (ops : Array Oper) (sink : Nat → Bool) : (Nat → Prop) → List Nat → Prop
  | _, [] => True
  | G, i :: l => DepsIn md ops G i ∧ (FloatsAt ops i ∨ ((∀ j, j < ops.size → ¬ G j → DepsIn md ops G j → j = i) ∧ (sink i = true → ∀ j, G j → ∃ k, With G i k ∧ WaitsOn md ops k j))) ∧ OrdOK md ops sink (With G i) l

variable {sink : Nat → Bool}
theorem DepsIn.mono {G G' : Nat → Prop} (h : ∀ j, G j → G' j) {i : Nat} (hd : DepsIn md ops G i) : DepsIn md ops G' i := fun o ho e he hb => h _ (hd o ho e he hb)
theorem OrdOK.congr {l : List Nat} : ∀ {G G' : Nat → Prop}, (∀ j, G j ↔ G' j) → OrdOK md ops sink G l → OrdOK md ops sink G' l := by
  intro G G' h
  have : G = G' := funext fun j => propext (h j)
  rw [this]; exact id
theorem OrdOK.pull {l : List Nat} {i : Nat} : ∀ (pre : List Nat) {G : Nat → Prop}, (∀ j ∈ pre, FloatsAt ops j) → DepsIn md ops G i → OrdOK md ops sink G (pre ++ i :: l) → OrdOK md ops sink (With G i) (pre ++ l) := by
  intro pre
  induction pre with
  | nil => intro G _ _ h; exact h.2.2
  | cons p pre ih =>
    intro G hf hd h
    refine ⟨h.1.mono (fun j => Or.inl), .inl (hf p List.mem_cons_self), ?_⟩
    refine OrdOK.congr (fun j => ?_) (ih (fun j hj => hf j (List.mem_cons_of_mem _ hj)) (hd.mono (fun j => Or.inl)) h.2.2)
    simp only [With, or_assoc, or_comm (a := j = p)]
/-- What stands ahead of i in the order does not wait for i. -/
theorem OrdOK.noWait {l : List Nat} {i : Nat} : ∀ (pre : List Nat) {G : Nat → Prop}, ¬ G i → i ∉ pre → OrdOK md ops sink G (pre ++ i :: l) → ∀ j ∈ pre, ¬ WaitsOn md ops j i := by
  intro pre
  induction pre with
  | nil => intro G _ _ _ j hj; cases hj
  | cons p pre ih =>
    intro G hG hn h j hj hw
    rcases List.mem_cons.1 hj with rfl | hj
    · obtain ⟨o, ho, e, he, hb, rfl⟩ := hw
      exact hG (h.1 o ho e he hb)
    · refine ih (G := With G p) (fun hh => ?_) (fun hh => hn (List.mem_cons_of_mem _ hh)) h.2.2 j hj hw
      rcases hh with hh | hh
      · exact hG hh
      · exact hn (by rw [hh]; exact List.mem_cons_self)
theorem OrdOK.at {l : List Nat} {i : Nat} : ∀ (pre : List Nat) {G : Nat → Prop}, OrdOK md ops sink G (pre ++ i :: l) → OrdOK md ops sink (fun j => G j ∨ j ∈ pre) (i :: l) := by
  intro pre
  induction pre with
  | nil => intro G h; exact OrdOK.congr (fun j => by simp) h
  | cons p pre ih =>
    intro G h
    exact OrdOK.congr (fun j => by simp [With, or_assoc]) (ih h.2.2)

theorem upon_carry {o : Oper} {a ag : Act} {K K' : Act → World → Prop} {r : Result Next} (hv : ∀ v w', K (ag.put o.dst v) w' → K' (a.put o.dst v) w')
    (hd : ∀ d w', K ({ ag with defers := d :: ag.defers }.put o.dst undef) w' → K' ({ a with defers := d :: a.defers }.put o.dst undef) w')
    (h : o.upon P ag K (fun _ _ _ => False) r) : o.upon P a K' Q r := by
  cases r with
  | ok n w' =>
    cases n <;> simp only [Oper.upon] at h ⊢
    case value v => exact hv _ _ h
    case skip => exact hv _ _ h
    case defer d => exact hd _ _ h
    case enter f args =>
      refine Calls.mono h fun e w'' he => ?_
      cases e with
      | returned v => exact hv _ _ he
      | panicked c => exact he.elim
      | outgrown => obtain ⟨_, _, hx⟩ := he; exact hx.elim
    case row row args => exact Rows.mono h fun u w'' he => hv _ _ he
  | halt x w' => cases x <;> simp only [Oper.upon] at h

theorem RunsNow.wpOp {w : World} {i : Nat} {o : Oper} {a : Act} {v : Value} (hi : ops[i]? = some o) (h : RunsNow P ops w o a v) {K : Act → World → Prop} (hk : K (a.put o.dst v) w) : wpOp P ops Q i K a w := by
  unfold Go.wpOp
  simp only [hi]
  rcases h with ⟨hw, hr⟩ | ⟨hw, rfl⟩
  · rw [if_pos hw]
    left
    unfold Oper.wp
    rw [hr w (Agree.refl w)]
    exact hk
  · rw [hw]
    exact hk

theorem runsNow_of_wp {w : World} {o : Oper} {a : Act} {K : Act → World → Prop} (hw : Region.wanted o (yielded ops a.tmps) = true) (hf : floatOK P o.op a.eval = true)
    (h : o.wp P a w K (fun _ _ _ => False)) : ∃ v, RunsNow P ops w o a v ∧ K (a.put o.dst v) w := by
  unfold Oper.wp at h
  cases hr : (execOp a.eval o).run P w with
  | halt x w' => rw [hr] at h; cases x <;> simp only [Oper.upon] at h
  | ok n w' =>
    obtain ⟨v, rfl, rfl, h2⟩ := floats_exec P o a.eval hf w n w' hr
    rw [hr] at h
    exact ⟨v, .inl ⟨hw, h2⟩, h⟩

/-- All that is known while the order goes its own way. -/
structure OneInv (P : Program) (md : Region.Mode) (ops : Array Oper) (sink : Nat → Bool) (Q : Exit → Act → World → Prop) (listed : Array Bool) (pend : List (Nat × Value)) (rem : List Nat) (a ag : Act) (w : World) : Prop where
  size : listed.size = ops.size
  closed : ∀ j, listed.getD j false = true → DepsIn md ops (fun k => listed.getD k false = true) j
  parts : ∀ j, j < ops.size → listed.getD j false = true ∨ j ∈ pend.map (·.1) ++ rem
  apart : ∀ j ∈ pend.map (·.1) ++ rem, j < ops.size ∧ listed.getD j false = false
  nodup : (pend.map (·.1) ++ rem).Nodup
  fl : ∀ j ∈ pend.map (·.1), FloatsAt ops j
  ord : OrdOK md ops sink (fun k => listed.getD k false = true) (pend.map (·.1) ++ rem)
  run : PendRun P ops w a pend ag
  wp : wpOne P ops sink Q rem ag w

theorem getD_tf {listed : Array Bool} {j : Nat} (h : j < listed.size) : listed.getD j true = listed.getD j false := by
  simp [Array.getD, h]
theorem ready_iff {listed : Array Bool} {j : Nat} (hs : listed.size = ops.size) : j ∈ Region.ready md ops listed ↔ j < ops.size ∧ listed.getD j false = false ∧ DepsIn md ops (fun k => listed.getD k false = true) j := by
  rw [mem_ready]
  constructor
  · rintro ⟨h0, o, ho, h⟩
    have hlt : j < ops.size := (Array.getElem?_eq_some_iff.1 ho).1
    refine ⟨hlt, by rw [← getD_tf (by omega)]; exact h0, fun o' ho' => ?_⟩
    rw [ho] at ho'; cases ho'
    exact h
  · rintro ⟨hlt, h0, h⟩
    exact ⟨by rw [getD_tf (by omega)]; exact h0, ops[j], Array.getElem?_eq_getElem hlt, h _ (Array.getElem?_eq_getElem hlt)⟩
theorem getD_setIf {listed : Array Bool} {i j : Nat} (h : i < listed.size) : (listed.setIfInBounds i true).getD j false = true ↔ With (fun k => listed.getD k false = true) i j := by
  by_cases hij : i = j
  · subst hij
    simp [With, Array.getD, h]
  · rw [getD_set_ne false hij]
    simp only [With]
    exact ⟨Or.inl, fun hh => hh.elim id (fun e => absurd e.symm hij)⟩

theorem closed_set {listed : Array Bool} {i : Nat} (hs : listed.size = ops.size) (hi : i < ops.size) (hc : ∀ j, listed.getD j false = true → DepsIn md ops (fun k => listed.getD k false = true) j)
    (hd : DepsIn md ops (fun k => listed.getD k false = true) i) : ∀ j, (listed.setIfInBounds i true).getD j false = true → DepsIn md ops (fun k => (listed.setIfInBounds i true).getD k false = true) j := by
  intro j hj
  have up : ∀ k, listed.getD k false = true → (listed.setIfInBounds i true).getD k false = true := fun k hk => (getD_setIf (by omega)).2 (.inl hk)
  rcases (getD_setIf (by omega)).1 hj with h | h
  · exact (hc j h).mono up
  · rw [h]; exact hd.mono up

/-- What is asked of the operations: any two of them are apart, or one waits for the other. -/
def PairsOK (md : Region.Mode) (ops : Array Oper) : Prop := ∀ i j (oi oj : Oper), ops[i]? = some oi → ops[j]? = some oj → i ≠ j → oi.apart ops oj = true ∨ WaitsOn md ops i j ∨ WaitsOn md ops j i

theorem OneInv.apartPre {listed : Array Bool} {pre : List (Nat × Value)} {l : List Nat} {i : Nat} {o : Oper} (hp : PairsOK md ops) (hi : ops[i]? = some o)
    (hd : DepsIn md ops (fun k => listed.getD k false = true) i) (hun : listed.getD i false = false) (hpre : ∀ j ∈ pre.map (·.1), listed.getD j false = false) (hn : i ∉ pre.map (·.1))
    (hord : OrdOK md ops sink (fun k => listed.getD k false = true) (pre.map (·.1) ++ i :: l)) : ∀ p ∈ pre, ∀ oj, ops[p.1]? = some oj → oj.apart ops o = true := by
  intro p hpp oj hoj
  have hpm : p.1 ∈ pre.map (·.1) := List.mem_map_of_mem hpp
  have hne : p.1 ≠ i := fun e => hn (e ▸ hpm)
  rcases hp p.1 i oj o hoj hi hne with h | h | h
  · exact h
  · exact absurd h (hord.noWait _ (by simp [hun]) hn p.1 hpm)
  · obtain ⟨o', ho', e, he, hb, heq⟩ := h
    have := hd o' ho' e he hb
    rw [heq, hpre _ hpm] at this
    cases this

theorem wpAny_of_one (hs : ∀ (j : Nat) (oj : Oper), ops[j]? = some oj → NoSel oj) (hp : PairsOK md ops) :
    ∀ (fuel : Nat) (listed : Array Bool) (pend : List (Nat × Value)) (rem : List Nat) (a ag : Act) (w : World),
      pend.length + rem.length ≤ fuel → OneInv P md ops sink Q listed pend rem a ag w → wpAny P md ops Q fuel listed a w := by
  have stop : ∀ (listed : Array Bool) (pend : List (Nat × Value)) (rem : List Nat) (a ag : Act) (w : World), OneInv P md ops sink Q listed pend rem a ag w → Region.ready md ops listed = [] → Q .normal a w := by
    intro listed pend rem a ag w I hr
    cases hl : pend.map (·.1) ++ rem with
    | nil =>
      obtain ⟨h1, h2⟩ := List.append_eq_nil_iff.1 hl
      have h1' : pend = [] := by simpa using h1
      subst h1'; subst h2
      have hrun := I.run
      cases hrun
      exact I.wp
    | cons i l =>
      have ha := I.apart i (by rw [hl]; exact List.mem_cons_self)
      have ho := I.ord
      rw [hl] at ho
      have : i ∈ Region.ready md ops listed := (ready_iff I.size).2 ⟨ha.1, ha.2, ho.1⟩
      rw [hr] at this
      cases this
  intro fuel
  induction fuel with
  | zero =>
    intro listed pend rem a ag w hlen I
    have hp0 : pend = [] := List.eq_nil_of_length_eq_zero (by omega)
    have hr0 : rem = [] := List.eq_nil_of_length_eq_zero (by omega)
    subst hp0; subst hr0
    have hready : Region.ready md ops listed = [] := by
      cases h : Region.ready md ops listed with
      | nil => rfl
      | cons j l =>
        have hj : j ∈ Region.ready md ops listed := by rw [h]; exact List.mem_cons_self
        obtain ⟨hlt, h0, _⟩ := (ready_iff I.size).1 hj
        rcases I.parts j hlt with h1 | h1
        · rw [h0] at h1; cases h1
        · cases h1
    exact ⟨hready, stop _ _ _ _ _ _ I hready⟩
  | succ fuel ih =>
    intro listed pend rem a ag w hlen I
    refine ⟨stop _ _ _ _ _ _ I, ?_⟩
    intro i hi
    obtain ⟨hlt, hun, hd⟩ := (ready_iff I.size).1 hi
    obtain ⟨o, ho⟩ : ∃ o, ops[i]? = some o := ⟨_, Array.getElem?_eq_getElem hlt⟩
    -- an operation that is pending comes up
    have hpull : ∀ (pend : List (Nat × Value)) (rem : List Nat) (ag : Act), pend.length + rem.length ≤ fuel + 1 → OneInv P md ops sink Q listed pend rem a ag w → i ∈ pend.map (·.1) →
        wpOp P ops Q i (wpAny P md ops Q fuel (listed.setIfInBounds i true)) a w := by
      intro pend rem ag hlen I hm
      obtain ⟨⟨i', v⟩, hmem, rfl⟩ := List.mem_map.1 hm
      obtain ⟨pre, post, rfl⟩ := List.append_of_mem hmem
      dsimp only at *
      have hord := I.ord
      have hnd := I.nodup
      simp only [List.map_append, List.map_cons, List.append_assoc, List.cons_append] at hord hnd
      have hn : i' ∉ pre.map (·.1) := by
        intro hh
        have := List.nodup_append.1 hnd
        exact this.2.2 i' hh i' List.mem_cons_self rfl
      have hpre : ∀ j ∈ pre.map (·.1), listed.getD j false = false := fun j hj => (I.apart j (by simp only [List.map_append, List.append_assoc]; exact List.mem_append_left _ hj)).2
      obtain ⟨h1, h2⟩ := PendRun.pull ho hs pre (OneInv.apartPre hp ho hd hun hpre hn hord) I.run
      refine h1.wpOp ho ?_
      refine ih _ (pre ++ post) rem _ ag w (by simp at hlen ⊢; omega) ?_
      have hsub : ∀ j, j ∈ (pre ++ post).map (·.1) ++ rem → j ∈ (pre ++ (i', v) :: post).map (·.1) ++ rem ∧ j ≠ i' := by
        intro j hj
        simp only [List.map_append, List.map_cons, List.append_assoc, List.cons_append] at hj ⊢
        refine ⟨?_, ?_⟩
        · rcases List.mem_append.1 hj with h | h
          · exact List.mem_append_left _ h
          · exact List.mem_append_right _ (List.mem_cons_of_mem _ h)
        · rintro rfl
          have hnd2 := List.nodup_append.1 hnd
          rcases List.mem_append.1 hj with h | h
          · exact hn h
          · exact (List.nodup_cons.1 hnd2.2.1).1 h
      refine ⟨by simpa using I.size, closed_set I.size hlt I.closed hd, ?_, ?_, ?_, ?_, ?_, h2, I.wp⟩
      · intro j hj
        rcases I.parts j hj with h | h
        · exact .inl ((getD_setIf (by have := I.size; omega)).2 (.inl h))
        · by_cases hji : j = i'
          · exact .inl ((getD_setIf (by have := I.size; omega)).2 (.inr hji))
          · right
            simp only [List.map_append, List.map_cons, List.append_assoc, List.cons_append] at h ⊢
            rcases List.mem_append.1 h with h | h
            · exact List.mem_append_left _ h
            · rcases List.mem_cons.1 h with h | h
              · exact absurd h hji
              · exact List.mem_append_right _ h
      · intro j hj
        obtain ⟨h1, h2⟩ := hsub j hj
        refine ⟨(I.apart j h1).1, ?_⟩
        rw [getD_set_ne false (Ne.symm h2)]
        exact (I.apart j h1).2
      · simp only [List.map_append, List.append_assoc]
        exact (List.nodup_cons.1 ((List.Perm.nodup_iff List.perm_middle).1 hnd)).2
      · intro j hj
        refine I.fl j ?_
        simp only [List.map_append, List.map_cons] at hj ⊢
        rcases List.mem_append.1 hj with h | h
        · exact List.mem_append_left _ h
        · exact List.mem_append_right _ (List.mem_cons_of_mem _ h)
      · have := OrdOK.pull (pre.map (·.1)) (fun j hj => I.fl j (by simp only [List.map_append]; exact List.mem_append_left _ hj)) hd hord
        simp only [List.map_append, List.append_assoc]
        exact OrdOK.congr (fun j => (getD_setIf (by have := I.size; omega)).symm) this
    -- on along the order till i has been met
    have hgo : ∀ (rem : List Nat) (pend : List (Nat × Value)) (ag : Act), pend.length + rem.length ≤ fuel + 1 → OneInv P md ops sink Q listed pend rem a ag w →
        wpOp P ops Q i (wpAny P md ops Q fuel (listed.setIfInBounds i true)) a w := by
      intro rem
      induction rem with
      | nil =>
        intro pend ag hlen I
        rcases I.parts i hlt with h | h
        · rw [hun] at h; cases h
        · exact hpull pend [] ag hlen I (by simpa using h)
      | cons c rem ihr =>
        intro pend ag hlen I
        have hc := I.apart c (by simp)
        obtain ⟨oc, hoc⟩ : ∃ oc, ops[c]? = some oc := ⟨_, Array.getElem?_eq_getElem hc.1⟩
        have hat := OrdOK.at (pend.map (·.1)) I.ord
        have hwp := I.wp
        simp only [wpOne, hoc] at hwp
        by_cases hfl : floats oc.op = true
        · -- it floats: it joins those that are pending
          have hnext : ∃ v, RunsNow P ops w oc ag v ∧ wpOne P ops sink Q rem (ag.put oc.dst v) w := by
            by_cases hw : Region.wanted oc (yielded ops ag.tmps) = true
            · rw [if_pos hw, if_pos hfl] at hwp
              exact runsNow_of_wp hw hwp.1 hwp.2
            · rw [if_neg hw] at hwp
              exact ⟨undef, .inr ⟨by simpa using hw, rfl⟩, hwp⟩
          obtain ⟨v, hrn, hwp'⟩ := hnext
          have hrun : PendRun P ops w a (pend ++ [(c, v)]) (ag.put oc.dst v) := by
            exact I.run.snoc hoc hrn
          have e : (pend ++ [(c, v)]).map (·.1) ++ rem = pend.map (·.1) ++ c :: rem := by simp
          refine ihr (pend ++ [(c, v)]) (ag.put oc.dst v) (by simp at hlen ⊢; omega) ⟨I.size, I.closed, ?_, ?_, ?_, ?_, ?_, hrun, hwp'⟩
          · rw [e]; exact I.parts
          · rw [e]; exact I.apart
          · rw [e]; exact I.nodup
          · intro j hj
            simp only [List.map_append, List.map_cons, List.map_nil] at hj
            rcases List.mem_append.1 hj with h | h
            · exact I.fl j h
            · simp at h; subst h; intro o' ho'; rw [hoc] at ho'; cases ho'; exact hfl
          · rw [e]; exact I.ord
        · -- it acts
          by_cases him : i ∈ pend.map (·.1)
          · exact hpull pend (c :: rem) ag hlen I him
          · rcases hat.2.1 with hf | ⟨honly, hsink⟩
            · exact absurd (hf oc hoc) hfl
            have hci : i = c := honly i hlt (by simp only [not_or]; exact ⟨by simp [hun], him⟩) (hd.mono fun j hj => .inl hj)
            subst hci
            rw [ho] at hoc; cases hoc
            have hpre : ∀ j ∈ pend.map (·.1), listed.getD j false = false := fun j hj => (I.apart j (List.mem_append_left _ hj)).2
            have hap := OneInv.apartPre hp ho hd hun hpre him I.ord
            obtain ⟨e1, e2, e3⟩ := PendRun.push hs (hs i o ho) I.run hap
            have hnd := I.nodup
            have hstep : ∀ w', (sink i = true ∨ Agree w w') → ∀ a' ag', wpOne P ops sink Q rem ag' w' → PendRun P ops w a' pend ag' → wpAny P md ops Q fuel (listed.setIfInBounds i true) a' w' := by
              intro w' hsa a' ag' hw' hrun'
              have hrun2 : PendRun P ops w' a' pend ag' := by
                rcases hsa with hsa | hsa
                · -- the sink: nothing is pending
                  have hnil : pend = [] := by
                    rcases List.eq_nil_or_concat pend with h | ⟨pre, ⟨j, u⟩, h⟩
                    · exact h
                    · exfalso
                      rw [List.concat_eq_append] at h
                      subst h
                      have hjm : j ∈ (pre ++ [(j, u)]).map (·.1) := by simp
                      have hju := hpre j hjm
                      obtain ⟨k, hk, hwt⟩ := hsink hsa j (.inr hjm)
                      have hord := I.ord
                      simp only [List.map_append, List.map_cons, List.map_nil, List.append_assoc, List.singleton_append] at hord hnd
                      have hjn : j ∉ pre.map (·.1) := fun hh => (List.nodup_append.1 hnd).2.2 j hh j List.mem_cons_self rfl
                      have hself : ¬ WaitsOn md ops j j := by
                        intro hh
                        obtain ⟨o', ho', e, he, hb, heq⟩ := hh
                        have h0 := (OrdOK.at (pre.map (·.1)) hord).1 o' ho' e he hb
                        rw [heq] at h0
                        rcases h0 with h0 | h0
                        · rw [hju] at h0; cases h0
                        · exact hjn h0
                      obtain ⟨o', ho', e, he, hb, heq⟩ := hwt
                      rcases hk with (hk | hk) | hk
                      · have := I.closed k hk o' ho' e he hb
                        rw [heq, hju] at this; cases this
                      · simp only [List.map_append, List.map_cons, List.map_nil, List.mem_append, List.mem_singleton] at hk
                        rcases hk with hk | hk
                        · exact hord.noWait _ (by simp [hju]) hjn k hk ⟨o', ho', e, he, hb, heq⟩
                        · subst hk; exact hself ⟨o', ho', e, he, hb, heq⟩
                      · subst hk
                        have := hd o' ho' e he hb
                        rw [heq, hju] at this; cases this
                  subst hnil
                  cases hrun'
                  exact .nil _
                · exact hrun'.mono hsa
              refine ih _ pend rem a' ag' w' (by simp at hlen ⊢; omega) ?_
              have hsub : ∀ j, j ∈ pend.map (·.1) ++ rem → j ∈ pend.map (·.1) ++ i :: rem ∧ j ≠ i := by
                intro j hj
                refine ⟨?_, ?_⟩
                · rcases List.mem_append.1 hj with h | h
                  · exact List.mem_append_left _ h
                  · exact List.mem_append_right _ (List.mem_cons_of_mem _ h)
                · rintro rfl
                  rcases List.mem_append.1 hj with h | h
                  · exact him h
                  · exact (List.nodup_cons.1 (List.nodup_append.1 hnd).2.1).1 h
              refine ⟨by simpa using I.size, closed_set I.size hlt I.closed hd, ?_, ?_, ?_, I.fl, ?_, hrun2, hw'⟩
              · intro j hj
                rcases I.parts j hj with h | h
                · exact .inl ((getD_setIf (by have := I.size; omega)).2 (.inl h))
                · by_cases hji : j = i
                  · exact .inl ((getD_setIf (by have := I.size; omega)).2 (.inr hji))
                  · right
                    rcases List.mem_append.1 h with h | h
                    · exact List.mem_append_left _ h
                    · rcases List.mem_cons.1 h with h | h
                      · exact absurd h hji
                      · exact List.mem_append_right _ h
              · intro j hj
                obtain ⟨h1, h2⟩ := hsub j hj
                refine ⟨(I.apart j h1).1, ?_⟩
                rw [getD_set_ne false (Ne.symm h2)]
                exact (I.apart j h1).2
              · exact (List.nodup_cons.1 ((List.Perm.nodup_iff List.perm_middle).1 hnd)).2
              · exact OrdOK.congr (fun j => (getD_setIf (by have := I.size; omega)).symm) (OrdOK.pull (pend.map (·.1)) I.fl hd I.ord)
            unfold Go.wpOp
            simp only [ho]
            by_cases hw : Region.wanted o (yielded ops ag.tmps) = true
            · rw [if_pos hw, if_neg hfl] at hwp
              rw [← e2, if_pos hw]
              left
              unfold Oper.wp at hwp ⊢
              rw [e1] at hwp
              refine upon_carry (fun v w' hk => ?_) (fun d w' hk => ?_) hwp
              · exact hstep w' hk.1 _ _ hk.2 (e3 v)
              · exact hstep w' hk.1 _ _ hk.2 ((PendRun.push hs (hs i o ho) (I.run.defers d) hap).2.2 undef)
            · rw [if_neg hw] at hwp
              rw [← e2, if_neg hw]
              exact hstep w (.inr (Agree.refl w)) _ _ hwp (e3 undef)
    exact hgo rem pend ag hlen I

/-! The check of an order, by evaluation. -/
def depsB (md : Region.Mode) (ops : Array Oper) (G : Array Bool) (i : Nat) : Bool :=
  match ops[i]? with
  | none => true
  | some o => o.after.toList.all fun e => !Region.binds md e || G.getD e.on false
def waitsB (md : Region.Mode) (ops : Array Oper) (k j : Nat) : Bool :=
  match ops[k]? with
  | none => false
  | some o => o.after.toList.any fun e => Region.binds md e && e.on == j
def floatsB (ops : Array Oper) (i : Nat) : Bool :=
  match ops[i]? with
  | none => true
  | some o => floats o.op
def ordB (md : Region.Mode) (ops : Array Oper) (sink : Nat → Bool) : Array Bool → List Nat → Bool
  | _, [] => true
  | G, i :: l => decide (i < G.size) && depsB md ops G i && (floatsB ops i || ((List.range ops.size).all fun j => G.getD j false || !depsB md ops G j || j == i)) &&
      (floatsB ops i || !sink i || (List.range ops.size).all fun j => !G.getD j false || (List.range ops.size).any fun k => (G.getD k false || k == i) && waitsB md ops k j) && ordB md ops sink (G.setIfInBounds i true) l
def pairsB (md : Region.Mode) (ops : Array Oper) : Bool :=
  (List.range ops.size).all fun i => (List.range ops.size).all fun j => i == j || waitsB md ops i j || waitsB md ops j i || match ops[i]?, ops[j]? with
    | some oi, some oj => oi.apart ops oj
    | _, _ => true
/-- 'snk': those behind which nothing that floats is still to come. -/
def oneB (md : Region.Mode) (ops : Array Oper) (snk ord : List Nat) : Bool :=
  Region.noSelect ops && pairsB md ops && ordB md ops (fun i => snk.contains i) (Array.replicate ops.size false) ord &&
    (List.range ops.size).all (fun j => ord.contains j) && decide ord.Nodup && ord.all (fun j => decide (j < ops.size)) && decide (ord.length ≤ ops.size)

theorem depsB_spec {G : Array Bool} {i : Nat} : depsB md ops G i = true ↔ DepsIn md ops (fun k => G.getD k false = true) i := by
  unfold depsB DepsIn
  cases h : ops[i]? with
  | none => simp
  | some o =>
    simp only [List.all_eq_true, Option.some.injEq, forall_eq', Array.mem_toList_iff, Bool.or_eq_true, Bool.not_eq_true']
    exact ⟨fun h e he hb => (h e he).resolve_left (by simp [hb]), fun h e he => by
      cases hb : Region.binds md e
      · exact .inl rfl
      · exact .inr (h e he hb)⟩
theorem waitsB_spec {k j : Nat} (h : waitsB md ops k j = true) : WaitsOn md ops k j := by
  unfold waitsB at h
  cases ho : ops[k]? with
  | none => rw [ho] at h; cases h
  | some o =>
    rw [ho] at h
    simp only [List.any_eq_true, Bool.and_eq_true, beq_iff_eq, Array.mem_toList_iff] at h
    exact ⟨o, ho, h⟩
theorem floatsB_spec {i : Nat} (h : floatsB ops i = true) : FloatsAt ops i := by
  intro o ho
  simpa [floatsB, ho] using h
theorem ordB_spec (l : List Nat) : ∀ (G : Array Bool), G.size = ops.size → ordB md ops sink G l = true → OrdOK md ops sink (fun k => G.getD k false = true) l := by
  induction l with
  | nil => intro G _ _; trivial
  | cons i l ih =>
    intro G hG h
    simp only [ordB, Bool.and_eq_true, decide_eq_true_eq] at h
    obtain ⟨⟨⟨⟨h0, h1⟩, h2⟩, h3⟩, h4⟩ := h
    refine ⟨depsB_spec.1 h1, ?_, OrdOK.congr (fun j => getD_setIf h0) (ih _ (by simpa using hG) h4)⟩
    cases hf : floatsB ops i with
    | true => exact .inl (floatsB_spec hf)
    | false =>
      simp only [hf, Bool.false_or, List.all_eq_true, List.mem_range] at h2 h3
      refine .inr ⟨fun j hj hn hd => ?_, fun hs j hj => ?_⟩
      · have := h2 j hj
        simp only [Bool.or_eq_true, beq_iff_eq, Bool.not_eq_true'] at this
        rcases this with (h | h) | h
        · exact absurd h hn
        · rw [depsB_spec.2 hd] at h; cases h
        · exact h
      · simp only [hs, Bool.not_true, Bool.false_or] at h3
        rw [List.all_eq_true] at h3
        have hjl : j < ops.size := by
          rcases Nat.lt_or_ge j G.size with hh | hh
          · omega
          · replace hj : G.getD j false = true := hj
            rw [Array.getD_eq_getD_getElem?, Array.getElem?_eq_none hh] at hj; cases hj
        have := h3 j (List.mem_range.2 hjl)
        simp only [hj, Bool.not_true, Bool.false_or, List.any_eq_true, Bool.and_eq_true, Bool.or_eq_true, beq_iff_eq] at this
        obtain ⟨k, _, hk, hw⟩ := this
        exact ⟨k, hk, waitsB_spec hw⟩
theorem pairsB_spec (h : pairsB md ops = true) : PairsOK md ops := by
  intro i j oi oj hi hj hne
  simp only [pairsB, List.all_eq_true, List.mem_range] at h
  have := h i (Array.getElem?_eq_some_iff.1 hi).1 j (Array.getElem?_eq_some_iff.1 hj).1
  simp only [hi, hj, Bool.or_eq_true, beq_iff_eq] at this
  rcases this with ((h | h) | h) | h
  · exact absurd h hne
  · exact .inr (.inl (waitsB_spec h))
  · exact .inr (.inr (waitsB_spec h))
  · exact .inl h

/-- A REGION THAT DRAWS, WALKED IN ONE ORDER. -/
theorem wp_one {id : Nat} {a : Act} {w : World} {l : List Oper} (snk ord : List Nat) (hm : P.follows .mixedOrders = true) (hB : oneB .any l.toArray snk ord = true)
    (h : wpOne P l.toArray (fun i => snk.contains i) Q ord a w.drew) : (Code.region id l.toArray true).wp P Q a w := by
  simp only [oneB, Bool.and_eq_true, decide_eq_true_eq] at hB
  obtain ⟨⟨⟨⟨⟨⟨hsel, hpair⟩, hord⟩, hall⟩, hnd⟩, hlt⟩, hlen⟩ := hB
  refine wp_region_any hm ?_
  refine wpAny_of_one (fun j oj hj cs b => Region.noSelect_spec hsel j oj cs b hj) (pairsB_spec hpair) _ _ [] ord a a _ ?_ ⟨by simp, ?_, ?_, ?_, by simpa using hnd, by simp, ?_, .nil _, h⟩
  · simpa using hlen
  · intro j hj
    exfalso
    rw [Array.getD_eq_getD_getElem?, Array.getElem?_replicate] at hj
    split at hj <;> cases hj
  · intro j hj
    right
    have := List.all_eq_true.1 hall j (List.mem_range.2 hj)
    simpa using this
  · intro j hj
    refine ⟨by simpa using List.all_eq_true.1 hlt j (by simpa using hj), ?_⟩
    rw [Array.getD_eq_getD_getElem?, Array.getElem?_replicate]
    split <;> rfl
  · exact ordB_spec _ _ (by simp) hord

/-! The steps. -/
section
variable {a : Act} {w : World} {i : Nat} {rest : List Nat} {o : Oper}
theorem wpOne_nil (h : Q .normal a w) : wpOne P ops sink Q [] a w := h
theorem wpOne_float (ho : ops[i]? = some o) (hf : floats o.op = true) (hw : Region.wanted o (yielded ops a.tmps) = true) (hok : floatOK P o.op a.eval = true)
    (h : ∀ K : Act → World → Prop, (∀ a w, wpOne P ops sink Q rest a w → K a w) → o.wp P a w K (fun _ _ _ => False)) : wpOne P ops sink Q (i :: rest) a w := by
  simp only [wpOne, ho, if_pos hw, if_pos hf]
  exact ⟨hok, h _ fun _ _ h => h⟩
theorem wpOne_skip (ho : ops[i]? = some o) (hw : Region.wanted o (yielded ops a.tmps) = false) (h : wpOne P ops sink Q rest (a.put o.dst undef) w) : wpOne P ops sink Q (i :: rest) a w := by
  simp only [wpOne, ho, hw]
  exact h
theorem wpOne_sink (ho : ops[i]? = some o) (hf : floats o.op = false) (hs : sink i = true) (hw : Region.wanted o (yielded ops a.tmps) = true)
    (h : ∀ K : Act → World → Prop, (∀ a w, wpOne P ops sink Q rest a w → K a w) → o.wp P a w K (fun _ _ _ => False)) : wpOne P ops sink Q (i :: rest) a w := by
  simp only [wpOne, ho, if_pos hw, hf, hs]
  exact h _ fun _ _ h => ⟨.inl trivial, h⟩
theorem wpOne_act (ho : ops[i]? = some o) (hf : floats o.op = false) (hw : Region.wanted o (yielded ops a.tmps) = true)
    (h : ∀ K : Act → World → Prop, (∀ a' w', (Agree w w' ∧ wpOne P ops sink Q rest a' w') → K a' w') → o.wp P a w K (fun _ _ _ => False)) : wpOne P ops sink Q (i :: rest) a w := by
  simp only [wpOne, ho, if_pos hw, hf]
  exact h _ fun _ _ h => ⟨.inr h.1, h.2⟩
end
#print axioms wp_one
end Go.Proofs.YtdplcfineaikjaaDoor
