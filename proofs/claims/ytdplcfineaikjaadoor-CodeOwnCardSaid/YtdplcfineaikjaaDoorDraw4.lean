/- A drawn region walked in one order, where what is read stays as it is (a property S of worlds). No condition. -/
import Derived.Test.YtdplcfineaikjaaDoorDraw3
namespace Go.Proofs.YtdplcfineaikjaaDoor.St
set_option linter.unusedVariables false
set_option linter.unusedSimpArgs false
open Go Go.Proofs.YtdplcfineaikjaaDoor
section
variable {P : Program} {ops : Array Oper} {md : Region.Mode} {S : World → Prop} {sink : Nat → Bool} {Q : Exit → Act → World → Prop}
def wpOne (P : Program) (ops : Array Oper) : (World → Prop) → (Nat → Bool) → (Exit → Act → World → Prop) → List Nat → Act → World → Prop
  | _, _, Q, [], a, w => Q .normal a w
  | S, sink, Q, i :: rest, a, w =>
    match ops[i]? with
    | none => False
    | some o =>
      if Region.wanted o (yielded ops a.tmps) then
        if floats o.op then ∃ v, (∀ w', S w' → (execOp a.eval o).run P w' = .ok (.value v) w') ∧ wpOne P ops S sink Q rest (a.put o.dst v) w
        else o.wp P a w (fun a' w' => ∃ S' : World → Prop, ((∀ u, S' u → S u) ∨ sink i = true) ∧ S' w' ∧ wpOne P ops S' sink Q rest a' w') (fun _ _ _ => False)
      else wpOne P ops S sink Q rest (a.put o.dst undef) w
/-- Operations that neither read nor write memory, and are listed. -/
def pureOp : Op → Bool
  | .move _ | .assign _ | .extract _ _ => true
  | _ => false
def PureAt (ops : Array Oper) (pl : Nat → Bool) (j : Nat) : Prop := pl j = true ∧ ∃ o, ops[j]? = some o ∧ pureOp o.op = true
def SinkOK (md : Region.Mode) (ops : Array Oper) (sink pl : Nat → Bool) : (Nat → Prop) → List Nat → Prop
  | _, [] => True
  | G, i :: l => (FloatsAt ops i ∨ (sink i = true → ∀ j, G j → ¬ FloatsAt ops j ∨ PureAt ops pl j ∨ ∃ k, With G i k ∧ ¬ PureAt ops pl k ∧ WaitsOn md ops k j)) ∧ SinkOK md ops sink pl (With G i) l
theorem SinkOK.congr {pl : Nat → Bool} {l : List Nat} : ∀ {G G' : Nat → Prop}, (∀ j, G j ↔ G' j) → SinkOK md ops sink pl G l → SinkOK md ops sink pl G' l := by
  intro G G' h
  have : G = G' := funext fun j => propext (h j)
  rw [this]; exact id
theorem SinkOK.pull {pl : Nat → Bool} {l : List Nat} {i : Nat} : ∀ (pre : List Nat) {G : Nat → Prop}, (∀ j ∈ pre, FloatsAt ops j) → SinkOK md ops sink pl G (pre ++ i :: l) → SinkOK md ops sink pl (With G i) (pre ++ l) := by
  intro pre
  induction pre with
  | nil => intro G _ h; exact h.2
  | cons p pre ih =>
    intro G hf h
    refine ⟨.inl (hf p List.mem_cons_self), ?_⟩
    refine SinkOK.congr (fun j => ?_) (ih (fun j hj => hf j (List.mem_cons_of_mem _ hj)) h.2)
    simp only [With, or_assoc, or_comm (a := j = p)]
theorem SinkOK.at {pl : Nat → Bool} {l : List Nat} {i : Nat} : ∀ (pre : List Nat) {G : Nat → Prop}, SinkOK md ops sink pl G (pre ++ i :: l) → SinkOK md ops sink pl (fun j => G j ∨ j ∈ pre) (i :: l) := by
  intro pre
  induction pre with
  | nil => intro G h; exact SinkOK.congr (fun j => by simp) h
  | cons p pre ih =>
    intro G h
    exact SinkOK.congr (fun j => by simp [With, or_assoc]) (ih h.2)
def RunsNow (P : Program) (ops : Array Oper) (S : World → Prop) (o : Oper) (a : Act) (v : Value) : Prop :=
  (Region.wanted o (yielded ops a.tmps) = true ∧ ∀ w', S w' → (execOp a.eval o).run P w' = .ok (.value v) w') ∨ (Region.wanted o (yielded ops a.tmps) = false ∧ v = undef)
inductive PendRun (P : Program) (ops : Array Oper) (S : World → Prop) : Act → List (Nat × Value) → Act → Prop
  | nil (a : Act) : PendRun P ops S a [] a
  | cons {a ag : Act} {i : Nat} {v : Value} {o : Oper} {l : List (Nat × Value)} (ho : ops[i]? = some o) (hr : RunsNow P ops S o a v) (h : PendRun P ops S (a.put o.dst v) l ag) : PendRun P ops S a ((i, v) :: l) ag
theorem pure_run {S S' : World → Prop} {o : Oper} {ρ : Operand → Value} {v : Value} (hp : pureOp o.op = true) (hS : ∃ w, S w) (h : ∀ w', S w' → (execOp ρ o).run P w' = .ok (.value v) w') : ∀ w', (execOp ρ o).run P w' = .ok (.value v) w' := by
  obtain ⟨w, hw⟩ := hS
  have h1 := h w hw
  intro w'
  rcases o with ⟨d, op, ty, pos, aft, g⟩
  cases op <;> simp only [pureOp, Bool.false_eq_true] at hp
  case move x =>
    simp only [execOp, Sem.run_pure, Result.ok.injEq, and_true] at h1 ⊢
    exact h1
  case assign x =>
    simp only [execOp, Sem.run_pure, Result.ok.injEq, and_true] at h1 ⊢
    exact h1
  case extract x i =>
    have e : ∀ w, (execOp ρ ⟨d, .extract x i, ty, pos, aft, g⟩).run P w = ((Instr.extract (ρ x) i).run P w).andThen fun v w => .ok (.value v) w := fun w => by
      show ((do let v ← Instr.extract (ρ x) i; pure (.value v)) : Sem Next).run P w = _
      rw [Sem.run_bind]; rfl
    rw [e] at h1 ⊢
    unfold Instr.extract at h1 ⊢
    cases hx : ρ x <;> simp only [hx] at h1 ⊢
    case tuple vs =>
      cases hv : vs[i]? with
      | none => simp only [hv] at h1; cases h1
      | some u =>
        simp only [hv, Sem.run_pure, Result.andThen_ok, Result.ok.injEq, and_true] at h1 ⊢
        exact h1
    all_goals cases h1
theorem RunsNow.swap {S S' : World → Prop} {o : Oper} {a : Act} {v : Value} (hp : pureOp o.op = true) (hS : ∃ w, S w) (h : RunsNow P ops S o a v) : RunsNow P ops S' o a v :=
  h.imp (fun h => ⟨h.1, fun w' _ => pure_run (S' := S') hp hS h.2 w'⟩) id
theorem PendRun.mono {S S' : World → Prop} (hi : ∀ u, S' u → S u) : ∀ {l : List (Nat × Value)} {a ag : Act}, PendRun P ops S a l ag → PendRun P ops S' a l ag := by
  intro l a ag h
  induction h with
  | nil a => exact .nil a
  | @cons a ag i v o l ho hr h ih => exact .cons ho (hr.imp (fun h => ⟨h.1, fun w' hw' => h.2 w' (hi w' hw')⟩) id) ih
theorem PendRun.swap {S S' : World → Prop} {pl : Nat → Bool} (hS : ∃ w, S w) : ∀ {l : List (Nat × Value)} {a ag : Act}, PendRun P ops S a l ag → (∀ p ∈ l, PureAt ops pl p.1) → PendRun P ops S' a l ag := by
  intro l a ag h
  induction h with
  | nil a => intro _; exact .nil a
  | @cons a ag i v o l ho hr h ih =>
    intro hp
    obtain ⟨_, o', ho', hpo⟩ := hp (i, v) List.mem_cons_self
    rw [ho] at ho'; cases ho'
    exact .cons ho (hr.swap hpo hS) (ih fun p hpp => hp p (List.mem_cons_of_mem _ hpp))
theorem RunsNow.put {oi oj : Oper} {a : Act} {v u : Value} (hap : oi.apart ops oj = true) (hs : NoSel oj) (h : RunsNow P ops S oj (a.put oi.dst v) u) : RunsNow P ops S oj a u := by
  obtain ⟨h1, _, _⟩ := Oper.apart_spec hap
  unfold RunsNow at *
  rw [wanted_put oj a oi.dst v h1, execOp_put oj hs a oi.dst v h1] at h
  exact h
theorem RunsNow.put' {oi oj : Oper} {a : Act} {v u : Value} (hap : oi.apart ops oj = true) (hs : NoSel oj) (h : RunsNow P ops S oj a u) : RunsNow P ops S oj (a.put oi.dst v) u := by
  obtain ⟨h1, _, _⟩ := Oper.apart_spec hap
  unfold RunsNow at *
  rw [wanted_put oj a oi.dst v h1, execOp_put oj hs a oi.dst v h1]
  exact h
theorem PendRun.pull {i : Nat} {o : Oper} {v : Value} (hi : ops[i]? = some o) (hs : ∀ (j : Nat) (oj : Oper), ops[j]? = some oj → NoSel oj) {post : List (Nat × Value)} :
    ∀ (pre : List (Nat × Value)) {a ag : Act}, (∀ p ∈ pre, ∀ oj, ops[p.1]? = some oj → oj.apart ops o = true) → PendRun P ops S a (pre ++ (i, v) :: post) ag →
      RunsNow P ops S o a v ∧ PendRun P ops S (a.put o.dst v) (pre ++ post) ag := by
  intro pre
  induction pre with
  | nil =>
    intro a ag _ h
    cases h with
    | cons ho hr h => rw [hi] at ho; cases ho; exact ⟨hr, h⟩
  | cons p pre ih =>
    intro a ag hap h
    cases h with
    | @cons _ _ j u oj _ ho hr h =>
      have hj := hap (j, u) (List.mem_cons_self) oj ho
      obtain ⟨h1, h2⟩ := ih (fun q hq => hap q (List.mem_cons_of_mem _ hq)) h
      refine ⟨h1.put hj (hs i o hi), ?_⟩
      refine .cons ho (hr.put' (apart_symm hj) (hs j oj ho)) ?_
      rw [← Act.put_comm a u v (Oper.apart_spec hj).2.1]
      exact h2

theorem PendRun.push {o : Oper} (hs : ∀ (j : Nat) (oj : Oper), ops[j]? = some oj → NoSel oj) (ho : NoSel o) {l : List (Nat × Value)} {a ag : Act} (h : PendRun P ops S a l ag)
    (hap : ∀ p ∈ l, ∀ oj, ops[p.1]? = some oj → oj.apart ops o = true) :
    execOp ag.eval o = execOp a.eval o ∧ Region.wanted o (yielded ops ag.tmps) = Region.wanted o (yielded ops a.tmps) ∧ ∀ u, PendRun P ops S (a.put o.dst u) l (ag.put o.dst u) := by
  induction h with
  | nil a => exact ⟨rfl, rfl, fun u => .nil _⟩
  | @cons a ag j v oj l hoj hr h ih =>
    have hj := hap (j, v) (List.mem_cons_self) oj hoj
    obtain ⟨h1, h2, h3⟩ := Oper.apart_spec hj
    obtain ⟨i1, i2, i3⟩ := ih (fun q hq => hap q (List.mem_cons_of_mem _ hq))
    refine ⟨i1.trans (execOp_put o ho a _ _ h1), i2.trans (wanted_put o a _ _ h1), fun u => ?_⟩
    refine .cons hoj (hr.put' (apart_symm hj) (hs j oj hoj)) ?_
    rw [← Act.put_comm a v u h2]
    exact i3 u
theorem PendRun.snoc {l : List (Nat × Value)} {a ag : Act} {c : Nat} {oc : Oper} {v : Value} (h : PendRun P ops S a l ag) (hoc : ops[c]? = some oc) (hr : RunsNow P ops S oc ag v) :
    PendRun P ops S a (l ++ [(c, v)]) (ag.put oc.dst v) := by
  induction h with
  | nil a => exact .cons hoc hr (.nil _)
  | cons ho hr' _ ih => exact .cons ho hr' (ih hr)
theorem PendRun.defers {l : List (Nat × Value)} {a ag : Act} (h : PendRun P ops S a l ag) (d : Deferred) :
    PendRun P ops S { a with defers := d :: a.defers } l { ag with defers := d :: ag.defers } := by
  induction h with
  | nil a => exact .nil _
  | @cons a ag j v oj l hoj hr h ih =>
    refine .cons hoj hr ?_
    rw [← Act.put_defers]
    exact ih

theorem RunsNow.wpOp {w : World} (hSw : S w) {i : Nat} {o : Oper} {a : Act} {v : Value} (hi : ops[i]? = some o) (h : RunsNow P ops S o a v) {K : Act → World → Prop} (hk : K (a.put o.dst v) w) : wpOp P ops Q i K a w := by
  unfold Go.wpOp
  simp only [hi]
  rcases h with ⟨hw, hr⟩ | ⟨hw, rfl⟩
  · rw [if_pos hw]
    left
    unfold Oper.wp
    rw [hr w hSw]
    exact hk
  · rw [hw]
    exact hk

/-- All that is known while the order goes its own way. -/
structure OneInv (P : Program) (md : Region.Mode) (ops : Array Oper) (S : World → Prop) (sink pl : Nat → Bool) (Q : Exit → Act → World → Prop) (listed : Array Bool) (pend : List (Nat × Value)) (rem : List Nat) (a ag : Act) (w : World) : Prop where
  size : listed.size = ops.size
  closed : ∀ j, listed.getD j false = true → DepsIn md ops (fun k => listed.getD k false = true) j
  parts : ∀ j, j < ops.size → listed.getD j false = true ∨ j ∈ pend.map (·.1) ++ rem
  apart : ∀ j ∈ pend.map (·.1) ++ rem, j < ops.size ∧ listed.getD j false = false
  nodup : (pend.map (·.1) ++ rem).Nodup
  fl : ∀ j ∈ pend.map (·.1), FloatsAt ops j
  ord : OrdOK md ops (fun _ => false) (fun k => listed.getD k false = true) (pend.map (·.1) ++ rem)
  snk : SinkOK md ops sink pl (fun k => listed.getD k false = true) (pend.map (·.1) ++ rem)
  run : PendRun P ops S a pend ag
  st : (pend = [] ∧ rem = []) ∨ S w
  wp : wpOne P ops S sink Q rem ag w

theorem OneInv.apartPre {listed : Array Bool} {pre : List (Nat × Value)} {l : List Nat} {i : Nat} {o : Oper} (hp : PairsOK md ops) (hi : ops[i]? = some o)
    (hd : DepsIn md ops (fun k => listed.getD k false = true) i) (hun : listed.getD i false = false) (hpre : ∀ j ∈ pre.map (·.1), listed.getD j false = false) (hn : i ∉ pre.map (·.1))
    (hord : OrdOK md ops (fun _ => false) (fun k => listed.getD k false = true) (pre.map (·.1) ++ i :: l)) : ∀ p ∈ pre, ∀ oj, ops[p.1]? = some oj → oj.apart ops o = true := by
  intro p hpp oj hoj
  have hpm : p.1 ∈ pre.map (·.1) := List.mem_map_of_mem hpp
  have hne : p.1 ≠ i := fun e => hn (e ▸ hpm)
  rcases hp p.1 i oj o hoj hi hne with h | h | h
  · exact h
  · exact absurd h (hord.noWait _ (by simp [hun]) hn p.1 hpm)
  · obtain ⟨o', ho', e, he, hb, heq⟩ := h
    have := hd o' ho' e he hb
    rw [heq, hpre _ hpm] at this
    cases this

theorem wpAny_of_one {pl : Nat → Bool} (hs : ∀ (j : Nat) (oj : Oper), ops[j]? = some oj → NoSel oj) (hp : PairsOK md ops) :
    ∀ (fuel : Nat) (S : World → Prop) (listed : Array Bool) (pend : List (Nat × Value)) (rem : List Nat) (a ag : Act) (w : World),
      pend.length + rem.length ≤ fuel → OneInv P md ops S sink pl Q listed pend rem a ag w → wpAny P md ops Q fuel listed a w := by
  have stop : ∀ (S : World → Prop) (listed : Array Bool) (pend : List (Nat × Value)) (rem : List Nat) (a ag : Act) (w : World), OneInv P md ops S sink pl Q listed pend rem a ag w → Region.ready md ops listed = [] → Q .normal a w := by
    intro S listed pend rem a ag w I hr
    cases hl : pend.map (·.1) ++ rem with
    | nil =>
      obtain ⟨h1, h2⟩ := List.append_eq_nil_iff.1 hl
      have h1' : pend = [] := by simpa using h1
      subst h1'; subst h2
      have hrun := I.run
      cases hrun
      exact I.wp
    | cons i l =>
      have ha := I.apart i (by rw [hl]; exact List.mem_cons_self)
      have ho := I.ord
      rw [hl] at ho
      have : i ∈ Region.ready md ops listed := (ready_iff I.size).2 ⟨ha.1, ha.2, ho.1⟩
      rw [hr] at this
      cases this
  intro fuel
  induction fuel with
  | zero =>
    intro S listed pend rem a ag w hlen I
    have hp0 : pend = [] := List.eq_nil_of_length_eq_zero (by omega)
    have hr0 : rem = [] := List.eq_nil_of_length_eq_zero (by omega)
    subst hp0; subst hr0
    have hready : Region.ready md ops listed = [] := by
      cases h : Region.ready md ops listed with
      | nil => rfl
      | cons j l =>
        have hj : j ∈ Region.ready md ops listed := by rw [h]; exact List.mem_cons_self
        obtain ⟨hlt, h0, _⟩ := (ready_iff I.size).1 hj
        rcases I.parts j hlt with h1 | h1
        · rw [h0] at h1; cases h1
        · cases h1
    exact ⟨hready, stop _ _ _ _ _ _ _ I hready⟩
  | succ fuel ih =>
    intro S listed pend rem a ag w hlen I
    refine ⟨stop _ _ _ _ _ _ _ I, ?_⟩
    intro i hi
    obtain ⟨hlt, hun, hd⟩ := (ready_iff I.size).1 hi
    obtain ⟨o, ho⟩ : ∃ o, ops[i]? = some o := ⟨_, Array.getElem?_eq_getElem hlt⟩
    -- an operation that is pending comes up
    have hpull : ∀ (pend : List (Nat × Value)) (rem : List Nat) (ag : Act), pend.length + rem.length ≤ fuel + 1 → OneInv P md ops S sink pl Q listed pend rem a ag w → i ∈ pend.map (·.1) →
        wpOp P ops Q i (wpAny P md ops Q fuel (listed.setIfInBounds i true)) a w := by
      intro pend rem ag hlen I hm
      obtain ⟨⟨i', v⟩, hmem, rfl⟩ := List.mem_map.1 hm
      obtain ⟨pre, post, rfl⟩ := List.append_of_mem hmem
      dsimp only at *
      have hord := I.ord
      have hnd := I.nodup
      simp only [List.map_append, List.map_cons, List.append_assoc, List.cons_append] at hord hnd
      have hn : i' ∉ pre.map (·.1) := by
        intro hh
        have := List.nodup_append.1 hnd
        exact this.2.2 i' hh i' List.mem_cons_self rfl
      have hpre : ∀ j ∈ pre.map (·.1), listed.getD j false = false := fun j hj => (I.apart j (by simp only [List.map_append, List.append_assoc]; exact List.mem_append_left _ hj)).2
      obtain ⟨h1, h2⟩ := PendRun.pull ho hs pre (OneInv.apartPre hp ho hd hun hpre hn hord) I.run
      have hSw : S w := I.st.resolve_left (by rintro ⟨h, _⟩; simp at h)
      refine h1.wpOp hSw ho ?_
      refine ih S _ (pre ++ post) rem _ ag w (by simp at hlen ⊢; omega) ?_
      have hsub : ∀ j, j ∈ (pre ++ post).map (·.1) ++ rem → j ∈ (pre ++ (i', v) :: post).map (·.1) ++ rem ∧ j ≠ i' := by
        intro j hj
        simp only [List.map_append, List.map_cons, List.append_assoc, List.cons_append] at hj ⊢
        refine ⟨?_, ?_⟩
        · rcases List.mem_append.1 hj with h | h
          · exact List.mem_append_left _ h
          · exact List.mem_append_right _ (List.mem_cons_of_mem _ h)
        · rintro rfl
          have hnd2 := List.nodup_append.1 hnd
          rcases List.mem_append.1 hj with h | h
          · exact hn h
          · exact (List.nodup_cons.1 hnd2.2.1).1 h
      refine ⟨by simpa using I.size, closed_set I.size hlt I.closed hd, ?_, ?_, ?_, ?_, ?_, ?_, h2, .inr hSw, I.wp⟩
      · intro j hj
        rcases I.parts j hj with h | h
        · exact .inl ((getD_setIf (by have := I.size; omega)).2 (.inl h))
        · by_cases hji : j = i'
          · exact .inl ((getD_setIf (by have := I.size; omega)).2 (.inr hji))
          · right
            simp only [List.map_append, List.map_cons, List.append_assoc, List.cons_append] at h ⊢
            rcases List.mem_append.1 h with h | h
            · exact List.mem_append_left _ h
            · rcases List.mem_cons.1 h with h | h
              · exact absurd h hji
              · exact List.mem_append_right _ h
      · intro j hj
        obtain ⟨h1, h2⟩ := hsub j hj
        refine ⟨(I.apart j h1).1, ?_⟩
        rw [getD_set_ne false (Ne.symm h2)]
        exact (I.apart j h1).2
      · simp only [List.map_append, List.append_assoc]
        exact (List.nodup_cons.1 ((List.Perm.nodup_iff List.perm_middle).1 hnd)).2
      · intro j hj
        refine I.fl j ?_
        simp only [List.map_append, List.map_cons] at hj ⊢
        rcases List.mem_append.1 hj with h | h
        · exact List.mem_append_left _ h
        · exact List.mem_append_right _ (List.mem_cons_of_mem _ h)
      · have := OrdOK.pull (pre.map (·.1)) (fun j hj => I.fl j (by simp only [List.map_append]; exact List.mem_append_left _ hj)) hd hord
        simp only [List.map_append, List.append_assoc]
        exact OrdOK.congr (fun j => (getD_setIf (by have := I.size; omega)).symm) this
      · have hsn := I.snk
        simp only [List.map_append, List.map_cons, List.append_assoc, List.cons_append] at hsn
        have := SinkOK.pull (pre.map (·.1)) (fun j hj => I.fl j (by simp only [List.map_append]; exact List.mem_append_left _ hj)) hsn
        simp only [List.map_append, List.append_assoc]
        exact SinkOK.congr (fun j => (getD_setIf (by have := I.size; omega)).symm) this
    -- on along the order till i has been met
    have hgo : ∀ (rem : List Nat) (pend : List (Nat × Value)) (ag : Act), pend.length + rem.length ≤ fuel + 1 → OneInv P md ops S sink pl Q listed pend rem a ag w →
        wpOp P ops Q i (wpAny P md ops Q fuel (listed.setIfInBounds i true)) a w := by
      intro rem
      induction rem with
      | nil =>
        intro pend ag hlen I
        rcases I.parts i hlt with h | h
        · rw [hun] at h; cases h
        · exact hpull pend [] ag hlen I (by simpa using h)
      | cons c rem ihr =>
        intro pend ag hlen I
        have hc := I.apart c (by simp)
        obtain ⟨oc, hoc⟩ : ∃ oc, ops[c]? = some oc := ⟨_, Array.getElem?_eq_getElem hc.1⟩
        have hat := OrdOK.at (pend.map (·.1)) I.ord
        have hwp := I.wp
        simp only [wpOne, hoc] at hwp
        by_cases hfl : floats oc.op = true
        · -- it floats: it joins those that are pending
          have hnext : ∃ v, RunsNow P ops S oc ag v ∧ wpOne P ops S sink Q rem (ag.put oc.dst v) w := by
            by_cases hw : Region.wanted oc (yielded ops ag.tmps) = true
            · rw [if_pos hw, if_pos hfl] at hwp
              obtain ⟨v, h1, h2⟩ := hwp
              exact ⟨v, .inl ⟨hw, h1⟩, h2⟩
            · rw [if_neg hw] at hwp
              exact ⟨undef, .inr ⟨by simpa using hw, rfl⟩, hwp⟩
          obtain ⟨v, hrn, hwp'⟩ := hnext
          have hrun : PendRun P ops S a (pend ++ [(c, v)]) (ag.put oc.dst v) := by
            exact I.run.snoc hoc hrn
          have e : (pend ++ [(c, v)]).map (·.1) ++ rem = pend.map (·.1) ++ c :: rem := by simp
          refine ihr (pend ++ [(c, v)]) (ag.put oc.dst v) (by simp at hlen ⊢; omega) ⟨I.size, I.closed, ?_, ?_, ?_, ?_, ?_, ?_, hrun, .inr (I.st.resolve_left (by rintro ⟨_, h⟩; cases h)), hwp'⟩
          · rw [e]; exact I.parts
          · rw [e]; exact I.apart
          · rw [e]; exact I.nodup
          · intro j hj
            simp only [List.map_append, List.map_cons, List.map_nil] at hj
            rcases List.mem_append.1 hj with h | h
            · exact I.fl j h
            · simp at h; subst h; intro o' ho'; rw [hoc] at ho'; cases ho'; exact hfl
          · rw [e]; exact I.ord
          · rw [e]; exact I.snk
        · -- it acts
          by_cases him : i ∈ pend.map (·.1)
          · exact hpull pend (c :: rem) ag hlen I him
          · rcases hat.2.1 with hf | ⟨honly, _⟩
            · exact absurd (hf oc hoc) hfl
            have hci : i = c := honly i hlt (by simp only [not_or]; exact ⟨by simp [hun], him⟩) (hd.mono fun j hj => .inl hj)
            subst hci
            rw [ho] at hoc; cases hoc
            have hpre : ∀ j ∈ pend.map (·.1), listed.getD j false = false := fun j hj => (I.apart j (List.mem_append_left _ hj)).2
            have hap := OneInv.apartPre hp ho hd hun hpre him I.ord
            obtain ⟨e1, e2, e3⟩ := PendRun.push hs (hs i o ho) I.run hap
            have hnd := I.nodup
            have hstep : ∀ w', ∀ S' : World → Prop, ((∀ u, S' u → S u) ∨ sink i = true) → S' w' → ∀ a' ag', wpOne P ops S' sink Q rem ag' w' → PendRun P ops S a' pend ag' → wpAny P md ops Q fuel (listed.setIfInBounds i true) a' w' := by
              have hSw : S w := I.st.resolve_left (by rintro ⟨_, h⟩; cases h)
              have hpure : sink i = true → ∀ p ∈ pend, PureAt ops pl p.1 := fun hsa => by
                have hsk := (SinkOK.at (pend.map (·.1)) I.snk).1.resolve_left (fun hf => absurd (hf o ho) hfl) hsa
                have key : ∀ (m : Nat) (pre post : List (Nat × Value)), post.length = m → pend = pre ++ post → ∀ p ∈ post, PureAt ops pl p.1 := by
                  intro m
                  induction m with
                  | zero => intro pre post hl _ p hpp; rw [List.eq_nil_of_length_eq_zero hl] at hpp; cases hpp
                  | succ m ihm =>
                    intro pre post hl he
                    obtain ⟨⟨j, u⟩, post', rfl⟩ : ∃ x xs, post = x :: xs := by
                      cases post with
                      | nil => cases hl
                      | cons x xs => exact ⟨x, xs, rfl⟩
                    have hpost := ihm (pre ++ [(j, u)]) post' (by simpa using hl) (by simpa using he)
                    intro p hpp
                    rcases List.mem_cons.1 hpp with rfl | hpp
                    · have hjm : j ∈ pend.map (·.1) := by rw [he]; simp
                      have hju := hpre j hjm
                      have hord := I.ord
                      rw [he] at hord hnd
                      simp only [List.map_append, List.map_cons, List.append_assoc, List.cons_append] at hord hnd
                      have hjn : j ∉ pre.map (·.1) := fun hh => (List.nodup_append.1 hnd).2.2 j hh j List.mem_cons_self rfl
                      have hself : ¬ WaitsOn md ops j j := by
                        intro hh
                        obtain ⟨o', ho', e, he, hb, heq⟩ := hh
                        have h0 := (OrdOK.at (pre.map (·.1)) hord).1 o' ho' e he hb
                        rw [heq] at h0
                        rcases h0 with h0 | h0
                        · rw [hju] at h0; cases h0
                        · exact hjn h0
                      rcases hsk j (.inr hjm) with hnf | hpu | ⟨k, hk, hkn, hwt⟩
                      · exact absurd (I.fl j hjm) hnf
                      · exact hpu
                      · exfalso
                        have hwt2 := hwt
                        obtain ⟨o', ho', e, he', hb, heq⟩ := hwt
                        rcases hk with (hk | hk) | hk
                        · have := I.closed k hk o' ho' e he' hb
                          rw [heq, hju] at this; cases this
                        · rw [he] at hk
                          simp only [List.map_append, List.map_cons, List.mem_append, List.mem_cons] at hk
                          rcases hk with hk | hk | hk
                          · exact hord.noWait _ (by simp [hju]) hjn k hk hwt2
                          · subst hk; exact hself hwt2
                          · obtain ⟨q, hq, rfl⟩ := List.mem_map.1 hk
                            exact hkn (hpost q hq)
                        · subst hk
                          have := hd o' ho' e he' hb
                          rw [heq, hju] at this; cases this
                    · exact hpost p hpp
                exact key pend.length [] pend rfl rfl
              intro w' S' hSS hSw' a' ag' hw' hrun'
              have hrun2 : PendRun P ops S' a' pend ag' := by
                rcases hSS with h | h
                · exact hrun'.mono h
                · exact hrun'.swap ⟨w, hSw⟩ (hpure h)
              have hSt : (pend = [] ∧ rem = []) ∨ S' w' := .inr hSw'
              refine ih S' _ pend rem a' ag' w' (by simp at hlen ⊢; omega) ?_
              have hsub : ∀ j, j ∈ pend.map (·.1) ++ rem → j ∈ pend.map (·.1) ++ i :: rem ∧ j ≠ i := by
                intro j hj
                refine ⟨?_, ?_⟩
                · rcases List.mem_append.1 hj with h | h
                  · exact List.mem_append_left _ h
                  · exact List.mem_append_right _ (List.mem_cons_of_mem _ h)
                · rintro rfl
                  rcases List.mem_append.1 hj with h | h
                  · exact him h
                  · exact (List.nodup_cons.1 (List.nodup_append.1 hnd).2.1).1 h
              refine ⟨by simpa using I.size, closed_set I.size hlt I.closed hd, ?_, ?_, ?_, I.fl, ?_, ?_, hrun2, hSt, hw'⟩
              · intro j hj
                rcases I.parts j hj with h | h
                · exact .inl ((getD_setIf (by have := I.size; omega)).2 (.inl h))
                · by_cases hji : j = i
                  · exact .inl ((getD_setIf (by have := I.size; omega)).2 (.inr hji))
                  · right
                    rcases List.mem_append.1 h with h | h
                    · exact List.mem_append_left _ h
                    · rcases List.mem_cons.1 h with h | h
                      · exact absurd h hji
                      · exact List.mem_append_right _ h
              · intro j hj
                obtain ⟨h1, h2⟩ := hsub j hj
                refine ⟨(I.apart j h1).1, ?_⟩
                rw [getD_set_ne false (Ne.symm h2)]
                exact (I.apart j h1).2
              · exact (List.nodup_cons.1 ((List.Perm.nodup_iff List.perm_middle).1 hnd)).2
              · exact OrdOK.congr (fun j => (getD_setIf (by have := I.size; omega)).symm) (OrdOK.pull (pend.map (·.1)) I.fl hd I.ord)
              · exact SinkOK.congr (fun j => (getD_setIf (by have := I.size; omega)).symm) (SinkOK.pull (pend.map (·.1)) I.fl I.snk)
            unfold Go.wpOp
            simp only [ho]
            by_cases hw : Region.wanted o (yielded ops ag.tmps) = true
            · rw [if_pos hw, if_neg hfl] at hwp
              rw [← e2, if_pos hw]
              left
              unfold Oper.wp at hwp ⊢
              rw [e1] at hwp
              refine upon_carry (fun v w' hk => ?_) (fun d w' hk => ?_) hwp
              · obtain ⟨S', h1, h2, h3⟩ := hk; exact hstep w' S' h1 h2 _ _ h3 (e3 v)
              · obtain ⟨S', h1, h2, h3⟩ := hk; exact hstep w' S' h1 h2 _ _ h3 ((PendRun.push hs (hs i o ho) (I.run.defers d) hap).2.2 undef)
            · rw [if_neg hw] at hwp
              rw [← e2, if_neg hw]
              exact hstep w S (.inl fun _ h => h) (I.st.resolve_left (by rintro ⟨_, h⟩; cases h)) _ _ hwp (e3 undef)
    exact hgo rem pend ag hlen I

def pureB (ops : Array Oper) (pl : Nat → Bool) (j : Nat) : Bool := pl j && match ops[j]? with
  | some o => pureOp o.op
  | none => false
theorem pureB_iff {pl : Nat → Bool} {j : Nat} : pureB ops pl j = true ↔ PureAt ops pl j := by
  unfold pureB PureAt
  cases h : ops[j]? with
  | none => simp
  | some o => simp
def sinkB (md : Region.Mode) (ops : Array Oper) (sink pl : Nat → Bool) : Array Bool → List Nat → Bool
  | _, [] => true
  | G, i :: l => (floatsB ops i || !sink i || (List.range ops.size).all fun j => !G.getD j false || !floatsB ops j || pureB ops pl j || (List.range ops.size).any fun k => (G.getD k false || k == i) && !pureB ops pl k && waitsB md ops k j) &&
      sinkB md ops sink pl (G.setIfInBounds i true) l
theorem sinkB_spec {pl : Nat → Bool} (l : List Nat) : ∀ (G : Array Bool), G.size = ops.size → (∀ j ∈ l, j < ops.size) → sinkB md ops sink pl G l = true → SinkOK md ops sink pl (fun k => G.getD k false = true) l := by
  induction l with
  | nil => intro G _ _ _; trivial
  | cons i l ih =>
    intro G hG hlt h
    simp only [sinkB, Bool.and_eq_true] at h
    refine ⟨?_, SinkOK.congr (fun j => getD_setIf (by rw [hG]; exact hlt i List.mem_cons_self)) (ih _ (by simpa using hG) (fun j hj => hlt j (List.mem_cons_of_mem _ hj)) h.2)⟩
    have h1 := h.1
    simp only [Bool.or_eq_true, Bool.not_eq_true'] at h1
    rcases h1 with (h1 | h1) | h1
    · exact .inl (floatsB_spec h1)
    · exact .inr fun hs => by rw [h1] at hs; cases hs
    · refine .inr fun _ j hj => ?_
      have hj : G.getD j false = true := hj
      have hjl : j < ops.size := by
        rw [← hG]
        rcases Nat.lt_or_ge j G.size with h | h
        · exact h
        · rw [Array.getD_eq_getD_getElem?, Array.getElem?_eq_none h] at hj; cases hj
      have h2 := List.all_eq_true.1 h1 j (List.mem_range.2 hjl)
      simp only [Bool.or_eq_true, Bool.not_eq_true', hj, Bool.true_eq_false, false_or] at h2
      rcases h2 with (h2 | h2) | h2
      · left
        intro hf
        unfold floatsB at h2
        cases ho : ops[j]? with
        | none => rw [ho] at h2; cases h2
        | some o => simp only [ho, hf o ho] at h2; cases h2
      · exact .inr (.inl (pureB_iff.1 h2))
      · obtain ⟨k, _, hk⟩ := List.any_eq_true.1 h2
        simp only [Bool.and_eq_true, Bool.or_eq_true, beq_iff_eq, Bool.not_eq_true'] at hk
        refine .inr (.inr ⟨k, hk.1.1, fun hp => ?_, waitsB_spec hk.2⟩)
        rw [pureB_iff.2 hp] at hk
        exact absurd hk.1.2 (by decide)
/-- 'snk': those behind which nothing that reads is still to come; 'pl': what may still be to come there. -/
def oneSB (md : Region.Mode) (ops : Array Oper) (snk pl ord : List Nat) : Bool := oneB md ops [] ord && sinkB md ops (fun i => snk.contains i) (fun i => pl.contains i) (Array.replicate ops.size false) ord
theorem wp_one {id : Nat} {a : Act} {w : World} {l : List Oper} (snk pl ord : List Nat) (hm : P.follows .mixedOrders = true) (hB : oneSB .any l.toArray snk pl ord = true) (hS : S w.drew)
    (h : wpOne P l.toArray S (fun i => snk.contains i) Q ord a w.drew) : (Code.region id l.toArray true).wp P Q a w := by
  simp only [oneSB, oneB, Bool.and_eq_true, decide_eq_true_eq] at hB
  obtain ⟨⟨⟨⟨⟨⟨⟨hsel, hpair⟩, hord⟩, hall⟩, hnd⟩, hlt⟩, hlen⟩, hsb⟩ := hB
  refine wp_region_any hm ?_
  refine wpAny_of_one (pl := fun i => pl.contains i) (fun j oj hj cs b => Region.noSelect_spec hsel j oj cs b hj) (pairsB_spec hpair) _ S _ [] ord a a _ ?_ ⟨by simp, ?_, ?_, ?_, by simpa using hnd, by simp, ?_, ?_, .nil _, .inr hS, h⟩
  · simpa using hlen
  · intro j hj
    exfalso
    rw [Array.getD_eq_getD_getElem?, Array.getElem?_replicate] at hj
    split at hj <;> cases hj
  · intro j hj
    right
    have := List.all_eq_true.1 hall j (List.mem_range.2 hj)
    simpa using this
  · intro j hj
    refine ⟨by simpa using List.all_eq_true.1 hlt j (by simpa using hj), ?_⟩
    rw [Array.getD_eq_getD_getElem?, Array.getElem?_replicate]
    split <;> rfl
  · have := ordB_spec _ _ (by simp) hord
    simpa using this
  · exact sinkB_spec _ _ (by simp) (fun j hj => by simpa using List.all_eq_true.1 hlt j hj) hsb


/-! The steps. -/
section
variable {a : Act} {w : World} {i : Nat} {rest : List Nat} {o : Oper} {sink : Nat → Bool}
theorem wpOne_nil (h : Q .normal a w) : wpOne P ops S sink Q [] a w := h
theorem wpOne_float {v : Value} (ho : ops[i]? = some o) (hf : floats o.op = true) (hw : Region.wanted o (yielded ops a.tmps) = true) (hr : ∀ w', S w' → (execOp a.eval o).run P w' = .ok (.value v) w')
    (h : wpOne P ops S sink Q rest (a.put o.dst v) w) : wpOne P ops S sink Q (i :: rest) a w := by
  simp only [wpOne, ho, if_pos hw, if_pos hf]
  exact ⟨v, hr, h⟩
theorem wpOne_skip (ho : ops[i]? = some o) (hw : Region.wanted o (yielded ops a.tmps) = false) (h : wpOne P ops S sink Q rest (a.put o.dst undef) w) : wpOne P ops S sink Q (i :: rest) a w := by
  simp only [wpOne, ho, hw]
  exact h
theorem wpOne_act (ho : ops[i]? = some o) (hf : floats o.op = false) (hw : Region.wanted o (yielded ops a.tmps) = true)
    (h : o.wp P a w (fun a' w' => S w' ∧ wpOne P ops S sink Q rest a' w') (fun _ _ _ => False)) : wpOne P ops S sink Q (i :: rest) a w := by
  simp only [wpOne, ho, if_pos hw, hf]
  exact Oper.wp_mono (fun _ _ h => ⟨S, .inl fun _ h => h, h.1, h.2⟩) h
theorem wpOne_last (ho : ops[i]? = some o) (hf : floats o.op = false) (hs : sink i = true) (hw : Region.wanted o (yielded ops a.tmps) = true)
    (h : o.wp P a w (wpOne P ops S sink Q []) (fun _ _ _ => False)) : wpOne P ops S sink Q [i] a w := by
  simp only [wpOne, ho, if_pos hw, hf]
  exact Oper.wp_mono (fun _ _ h => ⟨fun _ => True, .inr hs, trivial, h⟩) h
theorem wpOne_more (ho : ops[i]? = some o) (hf : floats o.op = false) (hw : Region.wanted o (yielded ops a.tmps) = true)
    (h : o.wp P a w (fun a' w' => ∃ S' : World → Prop, (∀ u, S' u → S u) ∧ S' w' ∧ wpOne P ops S' sink Q rest a' w') (fun _ _ _ => False)) : wpOne P ops S sink Q (i :: rest) a w := by
  simp only [wpOne, ho, if_pos hw, hf]
  exact Oper.wp_mono (fun _ _ ⟨S', h1, h2, h3⟩ => ⟨S', .inl h1, h2, h3⟩) h
theorem wpOne_sink (ho : ops[i]? = some o) (hf : floats o.op = false) (hs : sink i = true) (hw : Region.wanted o (yielded ops a.tmps) = true)
    (h : o.wp P a w (fun a' w' => ∃ S' : World → Prop, S' w' ∧ wpOne P ops S' sink Q rest a' w') (fun _ _ _ => False)) : wpOne P ops S sink Q (i :: rest) a w := by
  simp only [wpOne, ho, if_pos hw, hf]
  exact Oper.wp_mono (fun _ _ ⟨S', h1, h2⟩ => ⟨S', .inr hs, h1, h2⟩) h
end
end
end Go.Proofs.YtdplcfineaikjaaDoor.St
