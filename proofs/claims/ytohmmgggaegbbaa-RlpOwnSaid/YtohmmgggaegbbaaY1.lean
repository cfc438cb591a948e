/- Several texts in one: see the remarks ahead of each part. No condition but those told there. -/
import Derived.WalkKit
import Derived.Laws.Panics
import Derived.OwnWalk
import Derived.Laws.BytesString
import Derived.Lib.BitFns
/- The order of a region that draws: it may be walked in one order. No condition. -/
namespace Go.Proofs.Ytohmmgggaegbbaa
set_option linter.unusedVariables false
set_option linter.unusedSimpArgs false
open Go

/-- Every block of w is in w' as it was. -/
def Agree (w w' : World) : Prop := ∀ b, b < w.heap.size → w'.heap[b]? = w.heap[b]?

theorem Agree.refl (w : World) : Agree w w := fun _ _ => rfl
theorem Agree.le {w w' : World} (h : Agree w w') : w.heap.size ≤ w'.heap.size := by
  rcases Nat.lt_or_ge w'.heap.size w.heap.size with hlt | hge
  · have := h _ hlt
    rw [Array.getElem?_eq_none (Nat.le_refl _)] at this
    rw [Array.getElem?_eq_getElem hlt] at this
    cases this
  · exact hge
theorem Agree.trans {a b c : World} (h : Agree a b) (k : Agree b c) : Agree a c := fun i hi => (k i (Nat.lt_of_lt_of_le hi h.le)).trans (h i hi)
theorem Agree.block {w w' : World} (h : Agree w w') {b : Nat} {o : Obj} (hb : w.heap[b]? = some o) : w'.heap[b]? = some o := by
  rw [h b, hb]
  rcases Nat.lt_or_ge b w.heap.size with hlt | hge
  · exact hlt
  · rw [Array.getElem?_eq_none hge] at hb; cases hb
theorem Agree.cell {w w' : World} (h : Agree w w') {a : Addr} {v : Value} (hc : w.cell? a = some v) : w'.cell? a = some v := by
  have hb := World.block_lt_of_cell? w a hc
  unfold World.cell? at *
  rw [h _ hb]; exact hc
theorem Agree.of_below {w w' : World} (h : RowKit.Below w.heap.size w w') : Agree w w' := fun b hb => h.block b hb
theorem Agree.alloc (w : World) (o : Obj) : Agree w (w.alloc o) := fun b hb => RowKit.Below.heap_alloc w o b hb
theorem Agree.drew {a w : World} (h : Agree a w) : Agree a w.drew := h

/-- s only reads: where it gives a value the world is as it was, and in every world that holds all of this one's blocks it gives the same. -/
def SRO {α : Type} (P : Program) (s : Sem α) : Prop := ∀ w v w1, s.run P w = .ok v w1 → w1 = w ∧ ∀ w', Agree w w' → s.run P w' = .ok v w'

variable {P : Program}
theorem SRO.pure {α : Type} (a : α) : SRO P (Pure.pure a : Sem α) := by
  intro w v w1 h
  simp only [Sem.run_pure, Result.ok.injEq] at h
  obtain ⟨rfl, rfl⟩ := h
  exact ⟨rfl, fun w' _ => by simp⟩
theorem SRO.bind {α β : Type} {s : Sem α} {f : α → Sem β} (hs : SRO P s) (hf : ∀ a, SRO P (f a)) : SRO P (s >>= f) := by
  intro w v w1 h
  rw [Sem.run_bind] at h
  cases hr : s.run P w with
  | ok a w2 =>
    rw [hr] at h
    obtain ⟨rfl, h2⟩ := hs w a w2 hr
    obtain ⟨rfl, h3⟩ := hf a _ v w1 h
    exact ⟨rfl, fun w' hw => by rw [Sem.run_bind, h2 w' hw]; exact h3 w' hw⟩
  | halt x w2 => rw [hr] at h; cases h
theorem SRO.of_halt {α : Type} {s : Sem α} (h : ∀ w, ∃ x w', s.run P w = .halt x w') : SRO P s := by
  intro w v w1 hr
  obtain ⟨x, w', hx⟩ := h w
  rw [hx] at hr; cases hr
theorem SRO.stuck {α : Type} (m : String) : SRO P (stuck m : Sem α) := .of_halt fun w => ⟨_, w, rfl⟩
theorem SRO.unsupported {α : Type} (m : Unsupported) : SRO P (unsupported m : Sem α) := .of_halt fun w => ⟨_, w, rfl⟩
theorem SRO.bounds {α : Type} (k : IntKind) (x y : Int) (c : BoundsCode) : SRO P (boundsPanic k x y c : Sem α) := .of_halt fun w => by
  obtain ⟨s, w', h⟩ := run_boundsPanic (α := α) (P := P) (w := w) k x y c
  exact ⟨_, _, h⟩
theorem SRO.error {α : Type} (m : String) : SRO P (runtimePanic (.error m) : Sem α) := .of_halt fun w =>
  ⟨.panic (.iface P.rt.errorString (strVal m)), w, rfl⟩
theorem SRO.nilDeref {α : Type} : SRO P (runtimePanic .nilDeref : Sem α) := .of_halt fun w =>
  ⟨.panic (.iface P.rt.errorString (strVal _)), w, rfl⟩
theorem SRO.program : SRO P Go.program := by
  intro w v w1 h
  have h' : Result.ok P w = Result.ok v w1 := h
  simp only [Result.ok.injEq] at h'
  obtain ⟨rfl, rfl⟩ := h'
  exact ⟨rfl, fun w' _ => rfl⟩
theorem seen_agree {w w' : World} {p : Program} {at_ : Addr} {u : TypeId} {k : Addr} {b : Bool} (h : w'.heap[at_.block]? = w.heap[at_.block]?) :
    w'.seen p at_ u k b = w.seen p at_ u k b := by
  unfold World.seen; rw [h]
theorem SRO.load (a : Addr) (m : Mode) : SRO P (Go.load a m) := by
  intro w v w1 h
  simp only [Go.load, Sem.run] at h
  cases hc : w.cell? a with
  | some u =>
    rw [hc] at h
    simp only [Result.ok.injEq] at h
    obtain ⟨rfl, rfl⟩ := h
    exact ⟨rfl, fun w' hw => by simp [Go.load, Sem.run, hw.cell hc]⟩
  | none =>
    rw [hc] at h
    dsimp only at h
    cases hf : w.farLoad P a (m == .atomic) with
    | error e => rw [hf] at h; cases h
    | ok r =>
      rw [hf] at h
      obtain ⟨u, l⟩ := r
      simp only [Result.ok.injEq] at h
      obtain ⟨rfl, rfl⟩ := h
      refine ⟨rfl, fun w' hw => ?_⟩
      unfold World.farLoad at hf
      cases hb : w.heap[a.block]? with
      | none => rw [hb] at hf; cases hf
      | some o =>
        have hb' := hw.block hb
        rw [hb] at hf
        cases o with
        | view at_ t =>
          have hc' : w'.cell? a = none := by simp [World.cell?, hb']
          have hv : w'.viewLoad P at_ t a (m == .atomic) = w.viewLoad P at_ t a (m == .atomic) := by
            unfold World.viewLoad
            rcases Nat.lt_or_ge at_.block w.heap.size with hlt | hge
            · rw [seen_agree (hw _ hlt)]
            · exfalso
              dsimp only at hf
              have : ∃ e, w.seen P at_ t a (m == .atomic) = .error e := by
                unfold World.seen
                rw [Array.getElem?_eq_none hge]
                simp only [bind, Except.bind, Pure.pure, Except.pure, throw, throwThe, MonadExceptOf.throw]
                repeat' split
                all_goals first | exact ⟨_, rfl⟩ | (rename_i hx; revert hx; simp) 
              obtain ⟨e, he⟩ := this
              unfold World.viewLoad at hf
              rw [he] at hf
              cases hf
          simp only [Go.load, Sem.run, hc', World.farLoad, hb', hv]
          dsimp only at hf
          cases hv2 : w.viewLoad P at_ t a (m == .atomic) with
          | error e => rw [hv2] at hf; cases hf
          | ok r => rw [hv2] at hf; cases hf; rfl
        | _ => cases hf

theorem SRO.ite {α : Type} {c : Prop} [Decidable c] {s t : Sem α} (hs : SRO P s) (ht : SRO P t) : SRO P (if c then s else t) := by
  split
  · exact hs
  · exact ht
theorem SRO.typeInfo (t : TypeId) : SRO P (Go.typeInfo t) := by
  unfold Go.typeInfo
  refine SRO.bind SRO.program fun p => ?_
  split
  · exact SRO.pure _
  · exact SRO.stuck _
theorem SRO.underlying (t : TypeId) : SRO P (Go.underlying t) := by
  unfold Go.underlying
  refine SRO.bind SRO.program fun p => ?_
  split
  · exact SRO.pure _
  · exact SRO.stuck _
theorem SRO.sizeOf (t : TypeId) : SRO P (Go.sizeOf t) := SRO.bind (SRO.typeInfo t) fun _ => SRO.pure _
theorem SRO.isAgg (t : TypeId) : SRO P (Go.isAgg t) := by
  unfold Go.isAgg
  refine SRO.bind (SRO.underlying t) fun d => ?_
  split <;> exact SRO.pure _
theorem SRO.loadCellsFrom (a : Addr) (n : Nat) : ∀ (i : Nat) (acc : Array Value), SRO P (Go.loadCellsFrom a i n acc) := by
  induction n with
  | zero => exact fun i acc => SRO.pure _
  | succ n ih => exact fun i acc => SRO.bind (SRO.load _ _) fun v => ih _ _
theorem SRO.loadCells (a : Addr) (n : Nat) : SRO P (Go.loadCells a n) := SRO.loadCellsFrom a n 0 #[]
theorem SRO.loadVar (t : TypeId) (a : Addr) : SRO P (Go.loadVar t a) := by
  unfold Go.loadVar
  refine SRO.bind (SRO.isAgg t) fun b => ?_
  split
  · exact SRO.bind (SRO.sizeOf t) fun n => SRO.bind (SRO.loadCells a n) fun _ => SRO.pure _
  · exact SRO.load _ _
theorem SRO.asIntOf (v : Value) : SRO P (Go.asIntOf v) := by
  unfold Go.asIntOf
  split
  · exact SRO.pure _
  · exact SRO.unsupported _
  · exact SRO.stuck _
theorem SRO.asBool (v : Value) : SRO P (Go.asBool v) := by
  unfold Go.asBool
  split
  · exact SRO.pure _
  · exact SRO.stuck _
theorem SRO.asAgg (v : Value) : SRO P (Go.asAgg v) := by
  unfold Go.asAgg
  split
  · exact SRO.pure _
  · exact SRO.stuck _
theorem SRO.asAddr (v : Value) : SRO P (Go.asAddr v) := by
  unfold Go.asAddr
  split
  · exact SRO.pure _
  · exact SRO.nilDeref
  · exact SRO.stuck _
theorem SRO.sureAddr (v : Value) : SRO P (Instr.sureAddr v) := by
  unfold Instr.sureAddr
  split
  · exact SRO.pure _
  · exact SRO.stuck _
theorem SRO.part (t : TypeId) (cs : Array Value) (off : Nat) : SRO P (Go.part t cs off) := by
  unfold Go.part
  refine SRO.bind (SRO.isAgg t) fun b => ?_
  split
  · exact SRO.bind (SRO.sizeOf t) fun _ => SRO.pure _
  · split
    · exact SRO.pure _
    · exact SRO.stuck _
theorem SRO.loadAt (t : TypeId) (v : Value) : SRO P (Instr.loadAt t v) := SRO.bind (SRO.sureAddr v) fun a => SRO.loadVar t a
theorem SRO.field (t : TypeId) (x : Value) (i : Nat) : SRO P (Instr.field t x i) := by
  unfold Instr.field
  refine SRO.bind (SRO.underlying t) fun d => ?_
  split
  · split
    · exact SRO.bind (SRO.asAgg x) fun _ => SRO.part _ _ _
    · exact SRO.stuck _
  · exact SRO.stuck _
theorem SRO.extract (x : Value) (i : Nat) : SRO P (Instr.extract x i) := by
  unfold Instr.extract
  split
  · split
    · exact SRO.pure _
    · exact SRO.stuck _
  · exact SRO.stuck _
theorem SRO.index (t : TypeId) (x i : Value) : SRO P (Instr.index t x i) := by
  unfold Instr.index
  refine SRO.bind (SRO.asIntOf i) fun ⟨k, n⟩ => SRO.bind (SRO.underlying t) fun d => ?_
  split
  · split
    · exact SRO.bind (SRO.sizeOf _) fun _ => SRO.part _ _ _
    · exact SRO.bounds _ _ _ _
  · split
    · exact SRO.pure _
    · exact SRO.bounds _ _ _ _
  · exact SRO.stuck _
theorem SRO.indexAt (t : TypeId) (x i : Value) : SRO P (Instr.indexAt t x i) := by
  unfold Instr.indexAt
  repeat' (first | exact SRO.pure _ | exact SRO.stuck _ | exact SRO.unsupported _ | exact SRO.bounds _ _ _ _ | exact SRO.asIntOf _ | exact SRO.underlying _ | exact SRO.sureAddr _ | exact SRO.sizeOf _ | (refine SRO.bind ?_ (fun _ => ?_)) | split | dsimp only)
theorem SRO.sliceBound (x : Value) (y : Nat) (c : BoundsCode) : SRO P (Instr.sliceBound x y c) := by
  unfold Instr.sliceBound
  refine SRO.bind (SRO.asIntOf x) fun ⟨k, n⟩ => ?_
  dsimp only
  split
  · exact SRO.pure _
  · exact SRO.bounds _ _ _ _
theorem SRO.sliceBounds (b : Bool) (n c : Nat) (l h m : Option Value) : SRO P (Instr.sliceBounds b n c l h m) := by
  unfold Instr.sliceBounds
  repeat' (first | exact SRO.pure _ | exact SRO.stuck _ | exact SRO.unsupported _ | exact SRO.bounds _ _ _ _ | exact SRO.asIntOf _ | exact SRO.underlying _ | exact SRO.sureAddr _ | exact SRO.sizeOf _ | exact SRO.sliceBound _ _ _ | (refine SRO.bind ?_ (fun _ => ?_)) | split | dsimp only)
theorem SRO.slice (t : TypeId) (x : Value) (l h m : Option Value) : SRO P (Instr.slice t x l h m) := by
  unfold Instr.slice
  refine SRO.bind (SRO.underlying t) fun d => ?_
  split
  · split
    · exact SRO.bind (SRO.stuck _) fun _ => SRO.bind (SRO.sliceBounds _ _ _ _ _ _) fun _ => SRO.pure _
    · exact SRO.bind (SRO.sliceBounds _ _ _ _ _ _) fun _ => SRO.pure _
  · exact SRO.bind (SRO.sliceBounds _ _ _ _ _ _) fun _ => SRO.bind (SRO.sizeOf _) fun _ => SRO.pure _
  · refine SRO.bind (SRO.asAddr _) fun a => SRO.bind (SRO.underlying _) fun d => ?_
    split
    · exact SRO.bind (SRO.sliceBounds _ _ _ _ _ _) fun _ => SRO.bind (SRO.sizeOf _) fun _ => SRO.pure _
    · exact SRO.stuck _
  · exact SRO.stuck _
theorem SRO.sliceAt (t : TypeId) (x : Value) (l h m : Option Value) : SRO P (Instr.sliceAt t x l h m) := by
  unfold Instr.sliceAt
  refine SRO.bind (SRO.underlying t) fun d => ?_
  split
  · exact SRO.bind (SRO.sureAddr _) fun _ => SRO.bind (SRO.sliceBounds _ _ _ _ _ _) fun _ => SRO.bind (SRO.sizeOf _) fun _ => SRO.pure _
  · exact SRO.slice _ _ _ _ _
theorem SRO.unary (op : UnOp) (x : Value) : SRO P (Op.unary op x) := by
  unfold Op.unary
  split
  · unfold Op.intArith; exact SRO.pure _
  · unfold Op.intBits; exact SRO.pure _
  · exact SRO.pure _
  · exact SRO.pure _
  · exact SRO.pure _
  · exact SRO.unsupported _
  · exact SRO.unsupported _
  · exact SRO.stuck _
theorem SRO.binInt (op : BinOp) (t : TypeId) (k k' : IntKind) (a b : Int) : SRO P (binOp op t (.int k a) (.int k' b)) := by
  have h1 : ∀ op, SRO P (Op.intArith op k a b) := fun op => by unfold Op.intArith; split <;> first | exact SRO.pure _ | exact SRO.stuck _
  have h2 : ∀ op, SRO P (Op.intDiv op k a b) := fun op => by
    unfold Op.intDiv; split
    · exact SRO.error _
    · split <;> first | exact SRO.pure _ | exact SRO.stuck _
  have h3 : ∀ op, SRO P (Op.intBits op k a b) := fun op => by unfold Op.intBits; dsimp only; split <;> first | exact SRO.pure _ | exact SRO.stuck _
  have h4 : ∀ op, SRO P (Op.intCmp op a b) := fun op => by unfold Op.intCmp; split <;> first | exact SRO.pure _ | exact SRO.stuck _
  have h5 : ∀ op, SRO P (Op.shift op k a k' b) := fun op => by
    unfold Op.shift; split
    · exact SRO.error _
    · dsimp only; split <;> first | exact SRO.pure _ | exact SRO.stuck _
  cases op <;> unfold binOp <;> dsimp only <;> first | exact h5 _ | (split <;> first | exact SRO.stuck _ | exact h1 _ | exact h2 _ | exact h3 _ | exact h4 _)
theorem SRO.binString (op : BinOp) (t : TypeId) (a b : ByteArray) : SRO P (binOp op t (.string a) (.string b)) := by
  have h : ∀ op, SRO P (Op.stringOp op a b) := fun op => by
    unfold Op.stringOp; dsimp only; repeat' split
    all_goals first | exact SRO.pure _ | exact SRO.stuck _ | exact SRO.unsupported _
  cases op <;> unfold binOp <;> exact h _
theorem SRO.eqBool (t : TypeId) (a b : Bool) (n : Nat) : SRO P (Op.equalIn (n + 1) t (.bool a) (.bool b)) := by
  unfold Op.equalIn
  refine SRO.bind (SRO.underlying t) fun d => ?_
  cases d <;> first | exact SRO.pure _ | exact SRO.stuck _
theorem SRO.binBool (op : BinOp) (t : TypeId) (a b : Bool) : SRO P (binOp op t (.bool a) (.bool b)) := by
  cases op <;> first
    | exact SRO.stuck _
    | exact SRO.bind (SRO.eqBool t a b 9999) fun _ => SRO.pure _

theorem SRO.zeroValue (t : TypeId) : SRO P (Go.zeroValue t) := by
  unfold Go.zeroValue
  refine SRO.bind (SRO.typeInfo t) fun i => ?_
  split
  · exact SRO.pure _
  · exact SRO.unsupported _
theorem SRO.mapM {α β : Type} {f : α → Sem β} (hf : ∀ a, SRO P (f a)) (l : List α) : SRO P (l.mapM f) := by
  induction l with
  | nil => exact SRO.pure _
  | cons a l ih =>
    rw [List.mapM_cons]
    exact SRO.bind (hf a) fun b => SRO.bind ih fun bs => SRO.pure _
theorem SRO.build (t : TypeId) (parts : Array (Nat × Value)) : SRO P (Instr.build t parts) := by
  unfold Instr.build
  refine SRO.bind (SRO.zeroValue t) fun z => SRO.bind (SRO.underlying t) fun d => ?_
  split
  · rename_i fields
    refine SRO.bind ?_ fun places => ?_
    · rw [Array.mapM_eq_mapM_toList]
      exact SRO.bind (SRO.mapM (fun a => SRO.bind (SRO.sizeOf _) fun _ => SRO.pure _) _) fun _ => SRO.pure _
    · split
      · exact SRO.pure _
      · exact SRO.stuck _
  · refine SRO.bind (SRO.sizeOf _) fun n => ?_
    split
    · exact SRO.pure _
    · exact SRO.stuck _
  · exact SRO.stuck _

/-- The kinds of operation that only read: they may float. -/
def floats : Op → Bool
  | .move _ | .assign _ | .pick _ _ _ | .load _ _ | .nilCheck _ | .binOp _ _ _ _ _ | .unOp _ _ _ | .convert _ _ _ | .fieldAddr _ _ _ | .field _ _ _ | .indexAddr _ _ _ | .index _ _ _ | .slice _ _ _ _ _ | .extract _ _ | .build _ _ | .makeInterface _ _ => true
  | .call c => match c.callee with
    | .builtin .len => true
    | _ => false
  | _ => false

def isInt : Value → Bool
  | .int _ _ => true
  | _ => false
/-- An array of integers. -/
def intsB (P : Program) (t : TypeId) : Bool := match P.underlying t with
  | some (.array _ e) => match P.underlying e with
    | some (.int _) => true
    | _ => false
  | _ => false
theorem SRO.bindR {α β : Type} {s : Sem α} {f : α → Sem β} (hs : SRO P s) (hf : ∀ a, (∃ w w1, s.run P w = .ok a w1) → SRO P (f a)) : SRO P (s >>= f) := by
  intro w v w1 h
  rw [Sem.run_bind] at h
  cases hr : s.run P w with
  | ok a w2 =>
    rw [hr] at h
    obtain ⟨rfl, h2⟩ := hs w a w2 hr
    obtain ⟨rfl, h3⟩ := hf a ⟨_, _, hr⟩ _ v w1 h
    exact ⟨rfl, fun w' hw => by rw [Sem.run_bind, h2 w' hw]; exact h3 w' hw⟩
  | halt x w2 => rw [hr] at h; cases h
theorem SRO.forIn {α β : Type} {f : α → β → Sem (ForInStep β)} (hf : ∀ a b, SRO P (f a b)) (l : List α) : ∀ b, SRO P (ForIn.forIn l b f) := by
  induction l with
  | nil => exact fun b => SRO.pure b
  | cons a l ih =>
    intro b
    rw [List.forIn_cons]
    refine SRO.bind (hf a b) fun r => ?_
    cases r
    · exact SRO.pure _
    · exact ih _
theorem SRO.eqInt (t : TypeId) (k k' : IntKind) (a b : Int) (n : Nat) : SRO P (Op.equalIn (n + 1) t (.int k a) (.int k' b)) := by
  unfold Op.equalIn
  refine SRO.bind (SRO.underlying t) fun d => ?_
  cases d <;> first | exact SRO.stuck _ | exact SRO.ite (SRO.pure _) (SRO.stuck _)
theorem part_int {e : TypeId} {k : IntKind} {cs : Array Value} {off : Nat} {v : Value} {w w1 : World} (he : P.underlying e = some (.int k)) (hc : cs.toList.all isInt = true) (h : (part e cs off).run P w = .ok v w1) : ∃ k' n, v = .int k' n := by
  unfold part isAgg at h
  simp only [Sem.run_bind, run_underlying he, Result.andThen_ok, Sem.run_pure, Bool.false_eq_true, if_false] at h
  cases hv : cs[off]? with
  | none => rw [hv] at h; cases h
  | some u =>
    rw [hv] at h
    simp only [Sem.run_pure, Result.ok.injEq] at h
    obtain ⟨rfl, _⟩ := h
    have hm : u ∈ cs.toList := by
      obtain ⟨h1, h2⟩ := Array.getElem?_eq_some_iff.1 hv
      rw [← h2]
      simp
    have := List.all_eq_true.1 hc u hm
    cases u <;> first | exact ⟨_, _, rfl⟩ | cases this
theorem SRO.eqArr {t e : TypeId} {len : Nat} {k : IntKind} {xs ys : Array Value} (n : Nat) (hu : P.underlying t = some (.array len e)) (he : P.underlying e = some (.int k)) (hx : xs.toList.all isInt = true) (hy : ys.toList.all isInt = true) : SRO P (Op.equalIn (n + 2) t (.agg xs) (.agg ys)) := by
  intro w v w1 h
  rw [Op.equalIn, Sem.run_bind, run_underlying hu] at h
  simp only [Result.andThen_ok] at h
  have key : SRO P (do
      let n' ← Go.sizeOf e
      for i in [0:len] do
        if !(← Op.equalIn (n + 1) e (← Go.part e xs (i * n')) (← Go.part e ys (i * n'))) then return false
      Pure.pure true : Sem Bool) := by
    refine SRO.bind (SRO.sizeOf e) fun n' => ?_
    refine SRO.bind ?_ fun r => ?_
    · rw [Std.Legacy.Range.forIn_eq_forIn_range']
      refine SRO.forIn (fun i b => ?_) _ _
      refine SRO.bindR (SRO.part _ _ _) fun a ⟨_, _, ha⟩ => ?_
      obtain ⟨ka, na, rfl⟩ := part_int he hx ha
      refine SRO.bindR (SRO.part _ _ _) fun c ⟨_, _, hc⟩ => ?_
      obtain ⟨kc, nc, rfl⟩ := part_int he hy hc
      refine SRO.bind (SRO.eqInt _ _ _ _ _ _) fun r => ?_
      split <;> exact SRO.pure _
    · obtain ⟨r1, _⟩ := r
      cases r1 <;> exact SRO.pure _
  obtain ⟨h1, h2⟩ := key w v w1 h
  refine ⟨h1, fun w' hw => ?_⟩
  rw [Op.equalIn, Sem.run_bind, run_underlying hu]
  exact h2 w' hw
theorem SRO.guardAgg {op : BinOp} {t : TypeId} {x y : Operand} {a b : Array Value} (h : P.eqGuardType P.depth t = false) : SRO P (eqGuard op t x y (.agg a) (.agg b)) := by
  have e : ∀ w, (eqGuard op t x y (.agg a) (.agg b)).run P w = .ok () w := fun w => by
    unfold eqGuard
    by_cases ho : (!(op matches .eql | .neq)) = true <;> simp [ho, h]
  intro w v w1 hr
  rw [e] at hr
  cases hr
  exact ⟨rfl, fun w' _ => e w'⟩
theorem SRO.binAgg {op : BinOp} {t : TypeId} {xs ys : Array Value} (ho : (op matches .eql | .neq) = true) (ht : intsB P t = true) (hx : xs.toList.all isInt = true) (hy : ys.toList.all isInt = true) : SRO P (binOp op t (.agg xs) (.agg ys)) := by
  unfold intsB at ht
  split at ht
  · rename_i len e hu
    split at ht
    · rename_i k he
      cases op <;> first
        | (cases ho; done)
        | exact SRO.bind (SRO.eqArr 9998 hu he hx hy) fun _ => SRO.pure _
    · cases ht
  · cases ht
/-- With these values it does so. -/
def floatOK (P : Program) (op : Op) (ρ : Operand → Value) : Bool :=
  match op with
  | .move _ | .assign _ | .pick _ _ _ | .load _ _ | .unOp _ _ _ | .field _ _ _ | .indexAddr _ _ _ | .index _ _ _ | .slice _ _ _ _ _ | .extract _ _ | .build _ _ => true
  | .makeInterface _ _ => true
  | .fieldAddr s _ f => match P.underlying s with
    | some (.struct fs) => match fs[f]? with
      | some g => (P.info? g.type).any fun i => i.size != 0
      | none => false
    | _ => false
  | .nilCheck x => match ρ x with
    | .func _ _ _ => false
    | _ => true
  | .binOp o t x y _ => match ρ x, ρ y with
    | .int _ _, .int _ _ => true
    | .bool _, .bool _ => true
    | .string _, .string _ => true
    | .agg xs, .agg ys => !P.eqGuardType P.depth t && (o matches .eql | .neq) && intsB P t && xs.toList.all isInt && ys.toList.all isInt
    | _, _ => false
  | .convert src dst x => match P.underlying dst, ρ x with
    | some (.int _), .int _ _ => true
    | some .string, .slice _ _ _ => match P.underlying src with
      | some (.slice e) => match P.underlying e with
        | some (.int .u8) => true
        | _ => false
      | _ => false
    | _, _ => false
  | .call c => match c.callee with
    | .builtin .len => match c.args.toList.map ρ with
      | [.slice _ _ _] => true
      | [.string _] => true
      | [.map none] => true
      | _ => false
    | _ => false
  | _ => false

/-- What an operation that floats gives, in this world and in all that hold its blocks. -/
def Floats (P : Program) (s : Sem Next) : Prop := ∀ w n w1, s.run P w = .ok n w1 → ∃ v, n = .value v ∧ w1 = w ∧ ∀ w', Agree w w' → s.run P w' = .ok (.value v) w'

theorem Floats.of {s : Sem Value} (h : SRO P s) : Floats P (do Pure.pure (.value (← s))) := by
  intro w n w1 hr
  rw [Sem.run_bind] at hr
  cases hs : s.run P w with
  | halt x w2 => rw [hs] at hr; cases hr
  | ok v w2 =>
    rw [hs] at hr
    obtain ⟨rfl, h2⟩ := h w v w2 hs
    cases hr
    exact ⟨v, rfl, rfl, fun w' hw => by rw [Sem.run_bind, h2 w' hw]; rfl⟩
theorem Floats.pure (v : Value) : Floats P (Pure.pure (.value v)) := by
  intro w n w1 hr
  cases hr
  exact ⟨v, rfl, rfl, fun w' _ => rfl⟩
theorem Floats.of_halt {s : Sem Next} (h : ∀ w, ∃ x w', s.run P w = .halt x w') : Floats P s := by
  intro w v w1 hr
  obtain ⟨x, w', hx⟩ := h w
  rw [hx] at hr; cases hr

theorem SRO.underlying_bind {α : Type} {t : TypeId} {d : TypeDesc} {f : TypeDesc → Sem α} (h : P.underlying t = some d) (hf : SRO P (f d)) : SRO P (Go.underlying t >>= f) := by
  intro w v w1 hr
  rw [Sem.run_bind, run_underlying h] at hr
  obtain ⟨h1, h2⟩ := hf w v w1 hr
  exact ⟨h1, fun w' hw => by rw [Sem.run_bind, run_underlying h]; exact h2 w' hw⟩
theorem SRO.size_bind {α : Type} {t : TypeId} {i : TypeInfo} {f : Nat → Sem α} (h : P.info? t = some i) (hf : SRO P (f i.size)) : SRO P (Go.sizeOf t >>= f) := by
  have hr0 : ∀ w, (Go.sizeOf t).run P w = .ok i.size w := fun w => by simp [Go.sizeOf, Go.typeInfo, h]
  intro w v w1 hr
  rw [Sem.run_bind, hr0] at hr
  obtain ⟨h1, h2⟩ := hf w v w1 hr
  exact ⟨h1, fun w' hw => by rw [Sem.run_bind, hr0]; exact h2 w' hw⟩
theorem SRO.bytesToString (ao : Option Addr) (n c : Nat) : SRO P (Conv.bytesToString (.slice ao n c)) := by
  cases ao with
  | none => exact SRO.pure _
  | some a =>
    refine SRO.bind (SRO.loadCells a n) fun cs => SRO.bind ?_ fun _ => SRO.pure _
    rw [← Array.forIn_toList]
    refine SRO.forIn (fun v b => ?_) _ _
    split
    · exact SRO.pure _
    · exact SRO.bind (SRO.stuck _) fun _ => SRO.pure _

theorem floats_exec (P : Program) (o : Oper) (ρ : Operand → Value) (h : floatOK P o.op ρ = true) : Floats P (execOp ρ o) := by
  obtain ⟨dst, op, type, pos, after, guard⟩ := o
  cases op <;> dsimp only [floatOK] at h <;> try (cases h; done)
  case move x => exact Floats.pure _
  case assign x => exact Floats.pure _
  case pick c a b =>
    intro w n w1 hr
    simp only [execOp] at hr ⊢
    cases hc : ρ c <;> simp only [hc, asBool] at hr ⊢ <;> first | (cases hr; done) | skip
    cases hr
    exact ⟨_, rfl, rfl, fun _ _ => rfl⟩
  case load t a => exact Floats.of (SRO.loadAt _ _)
  case nilCheck x =>
    simp only [execOp]
    cases hx : ρ x <;> simp only [hx] at h ⊢ <;> try first | exact Floats.pure _ | (cases h; done)
    case pointer a =>
      cases a
      · exact Floats.of_halt fun w => ⟨.panic (.iface P.rt.errorString (strVal _)), w, rfl⟩
      · exact Floats.pure _
    case nilFunc => exact Floats.of_halt fun w => ⟨.panic (.iface P.rt.errorString (strVal _)), w, rfl⟩
    case nilIface => exact Floats.of_halt fun w => ⟨.panic (.iface P.rt.errorString (strVal _)), w, rfl⟩
  case binOp op t x y t' =>
    simp only [execOp]
    refine Floats.of ?_
    have hg : SRO P (eqGuard op t x y (ρ x) (ρ y)) := by
      revert h
      cases ρ x <;> cases ρ y <;> intro h <;> first
        | (cases h; done)
        | (unfold eqGuard; exact SRO.ite (SRO.pure _) (SRO.pure _))
        | (simp only [Bool.and_eq_true] at h; exact SRO.guardAgg (by simpa using h.1.1.1.1))
    refine SRO.bind hg fun _ => ?_
    revert h
    cases ρ x <;> cases ρ y <;> intro h <;> first
      | exact SRO.binInt _ _ _ _ _ _
      | exact SRO.binBool _ _ _ _
      | exact SRO.binString _ _ _ _
      | (cases h; done)
      | (simp only [Bool.and_eq_true] at h; exact SRO.binAgg h.1.1.1.2 h.1.1.2 h.1.2 h.2)
  case unOp op t x => exact Floats.of (SRO.unary _ _)
  case convert src dst x =>
    simp only [execOp]
    refine Floats.of ?_
    unfold Go.convert
    cases hd : P.underlying dst with
    | none => rw [hd] at h; cases h
    | some d =>
      rw [hd] at h
      cases d <;> try (cases h; done)
      case int k =>
        cases hx : ρ x <;> rw [hx] at h <;> try (cases h; done)
        refine SRO.bind (SRO.underlying src) fun d0 => SRO.underlying_bind hd ?_
        cases d0 <;> exact SRO.pure _
      case string =>
        cases hx : ρ x <;> rw [hx] at h <;> try (cases h; done)
        dsimp only at h
        cases hs : P.underlying src with
        | none => rw [hs] at h; cases h
        | some s =>
          rw [hs] at h
          cases s <;> try (cases h; done)
          case slice e =>
            dsimp only at h
            cases he : P.underlying e with
            | none => rw [he] at h; cases h
            | some d1 =>
              rw [he] at h
              cases d1 <;> try (cases h; done)
              case int k =>
                cases k <;> try (cases h; done)
                exact SRO.underlying_bind hs (SRO.underlying_bind hd (SRO.underlying_bind he (SRO.bytesToString _ _ _)))
  case fieldAddr s x f =>
    simp only [execOp]
    refine Floats.of ?_
    cases hs : P.underlying s with
    | none => rw [hs] at h; cases h
    | some d =>
      rw [hs] at h
      cases d <;> try (cases h; done)
      case struct fs =>
        dsimp only at h
        cases hf : fs[f]? with
        | none => rw [hf] at h; cases h
        | some g =>
          rw [hf] at h
          dsimp only at h
          cases hi : P.info? g.type with
          | none => rw [hi] at h; cases h
          | some i =>
            rw [hi] at h
            have hsz : i.size ≠ 0 := by simpa using h
            refine SRO.underlying_bind hs ?_
            dsimp only
            rw [hf]
            refine SRO.bind (SRO.sureAddr _) fun a => SRO.bind ?_ fun _ => SRO.pure _
            refine SRO.size_bind hi ?_
            rw [if_neg hsz]
            exact SRO.pure _
  case field t x f => exact Floats.of (SRO.field _ _ _)
  case indexAddr t x i => exact Floats.of (SRO.indexAt _ _ _)
  case index t x i => exact Floats.of (SRO.index _ _ _)
  case slice t x l h m => exact Floats.of (SRO.sliceAt _ _ _ _ _)
  case extract x i => exact Floats.of (SRO.extract _ _)
  case build t parts => exact Floats.of (SRO.build _ _)
  case makeInterface t x =>
    refine Floats.of ?_
    unfold Instr.makeInterface
    refine SRO.bind (SRO.underlying t) fun d => ?_
    split
    · exact SRO.stuck _
    · exact SRO.pure _
  case call c =>
    obtain ⟨callee, args, ats⟩ := c
    cases callee <;> try (cases h; done)
    case builtin b =>
      cases b <;> try (cases h; done)
      rw [BigFrame.execOp_builtin, BigFrame.builtin_len]
      refine Floats.of ?_
      have e : args.map ρ = (args.toList.map ρ).toArray := by apply Array.ext'; simp
      rw [e]
      dsimp only at h
      revert h
      generalize args.toList.map ρ = L
      intro h
      unfold Builtin.len_
      cases hat : ats[0]? with
      | none => cases L <;> exact SRO.stuck _
      | some t =>
        match L, h with
        | [.slice _ _ _], _ =>
          refine SRO.bind (SRO.underlying t) fun d => ?_
          cases d <;> first | exact SRO.pure _ | exact SRO.stuck _ | skip
          refine SRO.bind (SRO.underlying _) fun d => ?_
          cases d <;> first | exact SRO.pure _ | exact SRO.stuck _
        | [.string _], _ =>
          refine SRO.bind (SRO.underlying t) fun d => ?_
          cases d <;> first | exact SRO.pure _ | exact SRO.stuck _ | skip
          refine SRO.bind (SRO.underlying _) fun d => ?_
          cases d <;> first | exact SRO.pure _ | exact SRO.stuck _
        | [.map none], _ =>
          refine SRO.bind (SRO.underlying t) fun d => ?_
          cases d <;> first | exact SRO.pure _ | exact SRO.stuck _ | skip
          refine SRO.bind (SRO.underlying _) fun d => ?_
          cases d <;> first | exact SRO.pure _ | exact SRO.stuck _
end Go.Proofs.Ytohmmgggaegbbaa
namespace Go.Proofs.Ytohmmgggaegbbaa
set_option linter.unusedVariables false
set_option linter.unusedSimpArgs false
open Go
variable {P : Program} {ops : Array Oper} {md : Region.Mode} {Q : Exit → Act → World → Prop}

/-- The walk of a region in one order: what floats must be fit to (floatOK); behind what acts every block is as it was, or nothing that floats can still be to come (sink). -/
def wpOne (P : Program) (ops : Array Oper) (sink : Nat → Bool) (Q : Exit → Act → World → Prop) : List Nat → Act → World → Prop
  | [], a, w => Q .normal a w
  | i :: rest, a, w =>
    match ops[i]? with
    | none => False
    | some o =>
      if Region.wanted o (yielded ops a.tmps) then
        if floats o.op then floatOK P o.op a.eval = true ∧ o.wp P a w (wpOne P ops sink Q rest) (fun _ _ _ => False)
        else o.wp P a w (fun a' w' => (sink i = true ∨ Agree w w') ∧ wpOne P ops sink Q rest a' w') (fun _ _ _ => False)
      else wpOne P ops sink Q rest (a.put o.dst undef) w

def RunsNow (P : Program) (ops : Array Oper) (w : World) (o : Oper) (a : Act) (v : Value) : Prop :=
  (Region.wanted o (yielded ops a.tmps) = true ∧ ∀ w', Agree w w' → (execOp a.eval o).run P w' = .ok (.value v) w') ∨ (Region.wanted o (yielded ops a.tmps) = false ∧ v = undef)

inductive PendRun (P : Program) (ops : Array Oper) (w : World) : Act → List (Nat × Value) → Act → Prop
  | nil (a : Act) : PendRun P ops w a [] a
  | cons {a ag : Act} {i : Nat} {v : Value} {o : Oper} {l : List (Nat × Value)} (ho : ops[i]? = some o) (hr : RunsNow P ops w o a v) (h : PendRun P ops w (a.put o.dst v) l ag) : PendRun P ops w a ((i, v) :: l) ag

def NoSel (o : Oper) : Prop := ∀ cs b, o.op ≠ .select cs b

theorem RunsNow.put {w : World} {oi oj : Oper} {a : Act} {v u : Value} (hap : oi.apart ops oj = true) (hs : NoSel oj) (h : RunsNow P ops w oj (a.put oi.dst v) u) : RunsNow P ops w oj a u := by
  obtain ⟨h1, _, _⟩ := Oper.apart_spec hap
  unfold RunsNow at *
  rw [wanted_put oj a oi.dst v h1, execOp_put oj hs a oi.dst v h1] at h
  exact h
theorem RunsNow.put' {w : World} {oi oj : Oper} {a : Act} {v u : Value} (hap : oi.apart ops oj = true) (hs : NoSel oj) (h : RunsNow P ops w oj a u) : RunsNow P ops w oj (a.put oi.dst v) u := by
  obtain ⟨h1, _, _⟩ := Oper.apart_spec hap
  unfold RunsNow at *
  rw [wanted_put oj a oi.dst v h1, execOp_put oj hs a oi.dst v h1]
  exact h
theorem apart_symm {oi oj : Oper} (h : oi.apart ops oj = true) : oj.apart ops oi = true := by
  obtain ⟨h1, h2, h3⟩ := Oper.apart_spec h
  unfold Oper.apart
  cases hi : oi.dst with
  | none =>
    cases hj : oj.dst with
    | none => rfl
    | some d => simp; exact h3 d hj
  | some c =>
    cases hj : oj.dst with
    | none => simp; exact h1 c hi
    | some d =>
      have := h2 c hi
      rw [hj] at this
      simp
      exact ⟨⟨h3 d hj, fun e => this (by rw [e])⟩, h1 c hi⟩
theorem PendRun.mono {w w' : World} (hw : Agree w w') {a ag : Act} {l : List (Nat × Value)} (h : PendRun P ops w a l ag) : PendRun P ops w' a l ag := by
  induction h with
  | nil a => exact .nil a
  | cons ho hr _ ih => exact .cons ho (hr.imp (fun ⟨x, y⟩ => ⟨x, fun w2 h2 => y w2 (hw.trans h2)⟩) id) ih

theorem PendRun.pull {w : World} {i : Nat} {o : Oper} {v : Value} (hi : ops[i]? = some o) (hs : ∀ (j : Nat) (oj : Oper), ops[j]? = some oj → NoSel oj) {post : List (Nat × Value)} :
    ∀ (pre : List (Nat × Value)) {a ag : Act}, (∀ p ∈ pre, ∀ oj, ops[p.1]? = some oj → oj.apart ops o = true) → PendRun P ops w a (pre ++ (i, v) :: post) ag →
      RunsNow P ops w o a v ∧ PendRun P ops w (a.put o.dst v) (pre ++ post) ag := by
  intro pre
  induction pre with
  | nil =>
    intro a ag _ h
    cases h with
    | cons ho hr h => rw [hi] at ho; cases ho; exact ⟨hr, h⟩
  | cons p pre ih =>
    intro a ag hap h
    cases h with
    | @cons _ _ j u oj _ ho hr h =>
      have hj := hap (j, u) (List.mem_cons_self) oj ho
      obtain ⟨h1, h2⟩ := ih (fun q hq => hap q (List.mem_cons_of_mem _ hq)) h
      refine ⟨h1.put hj (hs i o hi), ?_⟩
      refine .cons ho (hr.put' (apart_symm hj) (hs j oj ho)) ?_
      rw [← Act.put_comm a u v (Oper.apart_spec hj).2.1]
      exact h2

theorem PendRun.push {w : World} {o : Oper} (hs : ∀ (j : Nat) (oj : Oper), ops[j]? = some oj → NoSel oj) (ho : NoSel o) {l : List (Nat × Value)} {a ag : Act} (h : PendRun P ops w a l ag)
    (hap : ∀ p ∈ l, ∀ oj, ops[p.1]? = some oj → oj.apart ops o = true) :
    execOp ag.eval o = execOp a.eval o ∧ Region.wanted o (yielded ops ag.tmps) = Region.wanted o (yielded ops a.tmps) ∧ ∀ u, PendRun P ops w (a.put o.dst u) l (ag.put o.dst u) := by
  induction h with
  | nil a => exact ⟨rfl, rfl, fun u => .nil _⟩
  | @cons a ag j v oj l hoj hr h ih =>
    have hj := hap (j, v) (List.mem_cons_self) oj hoj
    obtain ⟨h1, h2, h3⟩ := Oper.apart_spec hj
    obtain ⟨i1, i2, i3⟩ := ih (fun q hq => hap q (List.mem_cons_of_mem _ hq))
    refine ⟨i1.trans (execOp_put o ho a _ _ h1), i2.trans (wanted_put o a _ _ h1), fun u => ?_⟩
    refine .cons hoj (hr.put' (apart_symm hj) (hs j oj hoj)) ?_
    rw [← Act.put_comm a v u h2]
    exact i3 u
theorem PendRun.snoc {w : World} {l : List (Nat × Value)} {a ag : Act} {c : Nat} {oc : Oper} {v : Value} (h : PendRun P ops w a l ag) (hoc : ops[c]? = some oc) (hr : RunsNow P ops w oc ag v) :
    PendRun P ops w a (l ++ [(c, v)]) (ag.put oc.dst v) := by
  induction h with
  | nil a => exact .cons hoc hr (.nil _)
  | cons ho hr' _ ih => exact .cons ho hr' (ih hr)
theorem PendRun.defers {w : World} {l : List (Nat × Value)} {a ag : Act} (h : PendRun P ops w a l ag) (d : Deferred) :
    PendRun P ops w { a with defers := d :: a.defers } l { ag with defers := d :: ag.defers } := by
  induction h with
  | nil a => exact .nil _
  | @cons a ag j v oj l hoj hr h ih =>
    refine .cons hoj hr ?_
    rw [← Act.put_defers]
    exact ih

/-- The operations that i waits for are in G. -/
def DepsIn (md : Region.Mode) (ops : Array Oper) (G : Nat → Prop) (i : Nat) : Prop := ∀ o, ops[i]? = some o → ∀ e ∈ o.after, Region.binds md e = true → G e.on
def WaitsOn (md : Region.Mode) (ops : Array Oper) (k j : Nat) : Prop := ∃ o, ops[k]? = some o ∧ ∃ e ∈ o.after, Region.binds md e = true ∧ e.on = j
def FloatsAt (ops : Array Oper) (i : Nat) : Prop := ∀ o, ops[i]? = some o → floats o.op = true
def With (G : Nat → Prop) (i : Nat) (j : Nat) : Prop := G j ∨ j = i

def OrdOK (md : Region.Mode) (ops : Array Oper) (sink : Nat → Bool) : (Nat → Prop) → List Nat → Prop
  | _, [] => True
  | G, i :: l => DepsIn md ops G i ∧ (FloatsAt ops i ∨ ((∀ j, j < ops.size → ¬ G j → DepsIn md ops G j → j = i) ∧ (sink i = true → ∀ j, G j → ∃ k, With G i k ∧ WaitsOn md ops k j))) ∧ OrdOK md ops sink (With G i) l

variable {sink : Nat → Bool}
theorem DepsIn.mono {G G' : Nat → Prop} (h : ∀ j, G j → G' j) {i : Nat} (hd : DepsIn md ops G i) : DepsIn md ops G' i := fun o ho e he hb => h _ (hd o ho e he hb)
theorem OrdOK.congr {l : List Nat} : ∀ {G G' : Nat → Prop}, (∀ j, G j ↔ G' j) → OrdOK md ops sink G l → OrdOK md ops sink G' l := by
  intro G G' h
  have : G = G' := funext fun j => propext (h j)
  rw [this]; exact id
theorem OrdOK.pull {l : List Nat} {i : Nat} : ∀ (pre : List Nat) {G : Nat → Prop}, (∀ j ∈ pre, FloatsAt ops j) → DepsIn md ops G i → OrdOK md ops sink G (pre ++ i :: l) → OrdOK md ops sink (With G i) (pre ++ l) := by
  intro pre
  induction pre with
  | nil => intro G _ _ h; exact h.2.2
  | cons p pre ih =>
    intro G hf hd h
    refine ⟨h.1.mono (fun j => Or.inl), .inl (hf p List.mem_cons_self), ?_⟩
    refine OrdOK.congr (fun j => ?_) (ih (fun j hj => hf j (List.mem_cons_of_mem _ hj)) (hd.mono (fun j => Or.inl)) h.2.2)
    simp only [With, or_assoc, or_comm (a := j = p)]
/-- What stands ahead of i in the order does not wait for i. -/
theorem OrdOK.noWait {l : List Nat} {i : Nat} : ∀ (pre : List Nat) {G : Nat → Prop}, ¬ G i → i ∉ pre → OrdOK md ops sink G (pre ++ i :: l) → ∀ j ∈ pre, ¬ WaitsOn md ops j i := by
  intro pre
  induction pre with
  | nil => intro G _ _ _ j hj; cases hj
  | cons p pre ih =>
    intro G hG hn h j hj hw
    rcases List.mem_cons.1 hj with rfl | hj
    · obtain ⟨o, ho, e, he, hb, rfl⟩ := hw
      exact hG (h.1 o ho e he hb)
    · refine ih (G := With G p) (fun hh => ?_) (fun hh => hn (List.mem_cons_of_mem _ hh)) h.2.2 j hj hw
      rcases hh with hh | hh
      · exact hG hh
      · exact hn (by rw [hh]; exact List.mem_cons_self)
theorem OrdOK.at {l : List Nat} {i : Nat} : ∀ (pre : List Nat) {G : Nat → Prop}, OrdOK md ops sink G (pre ++ i :: l) → OrdOK md ops sink (fun j => G j ∨ j ∈ pre) (i :: l) := by
  intro pre
  induction pre with
  | nil => intro G h; exact OrdOK.congr (fun j => by simp) h
  | cons p pre ih =>
    intro G h
    exact OrdOK.congr (fun j => by simp [With, or_assoc]) (ih h.2.2)

theorem upon_carry {o : Oper} {a ag : Act} {K K' : Act → World → Prop} {r : Result Next} (hv : ∀ v w', K (ag.put o.dst v) w' → K' (a.put o.dst v) w')
    (hd : ∀ d w', K ({ ag with defers := d :: ag.defers }.put o.dst undef) w' → K' ({ a with defers := d :: a.defers }.put o.dst undef) w')
    (h : o.upon P ag K (fun _ _ _ => False) r) : o.upon P a K' Q r := by
  cases r with
  | ok n w' =>
    cases n <;> simp only [Oper.upon] at h ⊢
    case value v => exact hv _ _ h
    case skip => exact hv _ _ h
    case defer d => exact hd _ _ h
    case enter f args =>
      refine Calls.mono h fun e w'' he => ?_
      cases e with
      | returned v => exact hv _ _ he
      | panicked c => exact he.elim
      | outgrown => obtain ⟨_, _, hx⟩ := he; exact hx.elim
    case row row args => exact Rows.mono h fun u w'' he => hv _ _ he
  | halt x w' => cases x <;> simp only [Oper.upon] at h

theorem RunsNow.wpOp {w : World} {i : Nat} {o : Oper} {a : Act} {v : Value} (hi : ops[i]? = some o) (h : RunsNow P ops w o a v) {K : Act → World → Prop} (hk : K (a.put o.dst v) w) : wpOp P ops Q i K a w := by
  unfold Go.wpOp
  simp only [hi]
  rcases h with ⟨hw, hr⟩ | ⟨hw, rfl⟩
  · rw [if_pos hw]
    left
    unfold Oper.wp
    rw [hr w (Agree.refl w)]
    exact hk
  · rw [hw]
    exact hk

theorem runsNow_of_wp {w : World} {o : Oper} {a : Act} {K : Act → World → Prop} (hw : Region.wanted o (yielded ops a.tmps) = true) (hf : floatOK P o.op a.eval = true)
    (h : o.wp P a w K (fun _ _ _ => False)) : ∃ v, RunsNow P ops w o a v ∧ K (a.put o.dst v) w := by
  unfold Oper.wp at h
  cases hr : (execOp a.eval o).run P w with
  | halt x w' => rw [hr] at h; cases x <;> simp only [Oper.upon] at h
  | ok n w' =>
    obtain ⟨v, rfl, rfl, h2⟩ := floats_exec P o a.eval hf w n w' hr
    rw [hr] at h
    exact ⟨v, .inl ⟨hw, h2⟩, h⟩

/-- All that is known while the order goes its own way. -/
structure OneInv (P : Program) (md : Region.Mode) (ops : Array Oper) (sink : Nat → Bool) (Q : Exit → Act → World → Prop) (listed : Array Bool) (pend : List (Nat × Value)) (rem : List Nat) (a ag : Act) (w : World) : Prop where
  size : listed.size = ops.size
  closed : ∀ j, listed.getD j false = true → DepsIn md ops (fun k => listed.getD k false = true) j
  parts : ∀ j, j < ops.size → listed.getD j false = true ∨ j ∈ pend.map (·.1) ++ rem
  apart : ∀ j ∈ pend.map (·.1) ++ rem, j < ops.size ∧ listed.getD j false = false
  nodup : (pend.map (·.1) ++ rem).Nodup
  fl : ∀ j ∈ pend.map (·.1), FloatsAt ops j
  ord : OrdOK md ops sink (fun k => listed.getD k false = true) (pend.map (·.1) ++ rem)
  run : PendRun P ops w a pend ag
  wp : wpOne P ops sink Q rem ag w

theorem getD_tf {listed : Array Bool} {j : Nat} (h : j < listed.size) : listed.getD j true = listed.getD j false := by
  simp [Array.getD, h]
theorem ready_iff {listed : Array Bool} {j : Nat} (hs : listed.size = ops.size) : j ∈ Region.ready md ops listed ↔ j < ops.size ∧ listed.getD j false = false ∧ DepsIn md ops (fun k => listed.getD k false = true) j := by
  rw [mem_ready]
  constructor
  · rintro ⟨h0, o, ho, h⟩
    have hlt : j < ops.size := (Array.getElem?_eq_some_iff.1 ho).1
    refine ⟨hlt, by rw [← getD_tf (by omega)]; exact h0, fun o' ho' => ?_⟩
    rw [ho] at ho'; cases ho'
    exact h
  · rintro ⟨hlt, h0, h⟩
    exact ⟨by rw [getD_tf (by omega)]; exact h0, ops[j], Array.getElem?_eq_getElem hlt, h _ (Array.getElem?_eq_getElem hlt)⟩
theorem getD_setIf {listed : Array Bool} {i j : Nat} (h : i < listed.size) : (listed.setIfInBounds i true).getD j false = true ↔ With (fun k => listed.getD k false = true) i j := by
  by_cases hij : i = j
  · subst hij
    simp [With, Array.getD, h]
  · rw [getD_set_ne false hij]
    simp only [With]
    exact ⟨Or.inl, fun hh => hh.elim id (fun e => absurd e.symm hij)⟩

theorem closed_set {listed : Array Bool} {i : Nat} (hs : listed.size = ops.size) (hi : i < ops.size) (hc : ∀ j, listed.getD j false = true → DepsIn md ops (fun k => listed.getD k false = true) j)
    (hd : DepsIn md ops (fun k => listed.getD k false = true) i) : ∀ j, (listed.setIfInBounds i true).getD j false = true → DepsIn md ops (fun k => (listed.setIfInBounds i true).getD k false = true) j := by
  intro j hj
  have up : ∀ k, listed.getD k false = true → (listed.setIfInBounds i true).getD k false = true := fun k hk => (getD_setIf (by omega)).2 (.inl hk)
  rcases (getD_setIf (by omega)).1 hj with h | h
  · exact (hc j h).mono up
  · rw [h]; exact hd.mono up

/-- What is asked of the operations: any two of them are apart, or one waits for the other. -/
def PairsOK (md : Region.Mode) (ops : Array Oper) : Prop := ∀ i j (oi oj : Oper), ops[i]? = some oi → ops[j]? = some oj → i ≠ j → oi.apart ops oj = true ∨ WaitsOn md ops i j ∨ WaitsOn md ops j i

theorem OneInv.apartPre {listed : Array Bool} {pre : List (Nat × Value)} {l : List Nat} {i : Nat} {o : Oper} (hp : PairsOK md ops) (hi : ops[i]? = some o)
    (hd : DepsIn md ops (fun k => listed.getD k false = true) i) (hun : listed.getD i false = false) (hpre : ∀ j ∈ pre.map (·.1), listed.getD j false = false) (hn : i ∉ pre.map (·.1))
    (hord : OrdOK md ops sink (fun k => listed.getD k false = true) (pre.map (·.1) ++ i :: l)) : ∀ p ∈ pre, ∀ oj, ops[p.1]? = some oj → oj.apart ops o = true := by
  intro p hpp oj hoj
  have hpm : p.1 ∈ pre.map (·.1) := List.mem_map_of_mem hpp
  have hne : p.1 ≠ i := fun e => hn (e ▸ hpm)
  rcases hp p.1 i oj o hoj hi hne with h | h | h
  · exact h
  · exact absurd h (hord.noWait _ (by simp [hun]) hn p.1 hpm)
  · obtain ⟨o', ho', e, he, hb, heq⟩ := h
    have := hd o' ho' e he hb
    rw [heq, hpre _ hpm] at this
    cases this

theorem wpAny_of_one (hs : ∀ (j : Nat) (oj : Oper), ops[j]? = some oj → NoSel oj) (hp : PairsOK md ops) :
    ∀ (fuel : Nat) (listed : Array Bool) (pend : List (Nat × Value)) (rem : List Nat) (a ag : Act) (w : World),
      pend.length + rem.length ≤ fuel → OneInv P md ops sink Q listed pend rem a ag w → wpAny P md ops Q fuel listed a w := by
  have stop : ∀ (listed : Array Bool) (pend : List (Nat × Value)) (rem : List Nat) (a ag : Act) (w : World), OneInv P md ops sink Q listed pend rem a ag w → Region.ready md ops listed = [] → Q .normal a w := by
    intro listed pend rem a ag w I hr
    cases hl : pend.map (·.1) ++ rem with
    | nil =>
      obtain ⟨h1, h2⟩ := List.append_eq_nil_iff.1 hl
      have h1' : pend = [] := by simpa using h1
      subst h1'; subst h2
      have hrun := I.run
      cases hrun
      exact I.wp
    | cons i l =>
      have ha := I.apart i (by rw [hl]; exact List.mem_cons_self)
      have ho := I.ord
      rw [hl] at ho
      have : i ∈ Region.ready md ops listed := (ready_iff I.size).2 ⟨ha.1, ha.2, ho.1⟩
      rw [hr] at this
      cases this
  intro fuel
  induction fuel with
  | zero =>
    intro listed pend rem a ag w hlen I
    have hp0 : pend = [] := List.eq_nil_of_length_eq_zero (by omega)
    have hr0 : rem = [] := List.eq_nil_of_length_eq_zero (by omega)
    subst hp0; subst hr0
    have hready : Region.ready md ops listed = [] := by
      cases h : Region.ready md ops listed with
      | nil => rfl
      | cons j l =>
        have hj : j ∈ Region.ready md ops listed := by rw [h]; exact List.mem_cons_self
        obtain ⟨hlt, h0, _⟩ := (ready_iff I.size).1 hj
        rcases I.parts j hlt with h1 | h1
        · rw [h0] at h1; cases h1
        · cases h1
    exact ⟨hready, stop _ _ _ _ _ _ I hready⟩
  | succ fuel ih =>
    intro listed pend rem a ag w hlen I
    refine ⟨stop _ _ _ _ _ _ I, ?_⟩
    intro i hi
    obtain ⟨hlt, hun, hd⟩ := (ready_iff I.size).1 hi
    obtain ⟨o, ho⟩ : ∃ o, ops[i]? = some o := ⟨_, Array.getElem?_eq_getElem hlt⟩
    -- an operation that is pending comes up
    have hpull : ∀ (pend : List (Nat × Value)) (rem : List Nat) (ag : Act), pend.length + rem.length ≤ fuel + 1 → OneInv P md ops sink Q listed pend rem a ag w → i ∈ pend.map (·.1) →
        wpOp P ops Q i (wpAny P md ops Q fuel (listed.setIfInBounds i true)) a w := by
      intro pend rem ag hlen I hm
      obtain ⟨⟨i', v⟩, hmem, rfl⟩ := List.mem_map.1 hm
      obtain ⟨pre, post, rfl⟩ := List.append_of_mem hmem
      dsimp only at *
      have hord := I.ord
      have hnd := I.nodup
      simp only [List.map_append, List.map_cons, List.append_assoc, List.cons_append] at hord hnd
      have hn : i' ∉ pre.map (·.1) := by
        intro hh
        have := List.nodup_append.1 hnd
        exact this.2.2 i' hh i' List.mem_cons_self rfl
      have hpre : ∀ j ∈ pre.map (·.1), listed.getD j false = false := fun j hj => (I.apart j (by simp only [List.map_append, List.append_assoc]; exact List.mem_append_left _ hj)).2
      obtain ⟨h1, h2⟩ := PendRun.pull ho hs pre (OneInv.apartPre hp ho hd hun hpre hn hord) I.run
      refine h1.wpOp ho ?_
      refine ih _ (pre ++ post) rem _ ag w (by simp at hlen ⊢; omega) ?_
      have hsub : ∀ j, j ∈ (pre ++ post).map (·.1) ++ rem → j ∈ (pre ++ (i', v) :: post).map (·.1) ++ rem ∧ j ≠ i' := by
        intro j hj
        simp only [List.map_append, List.map_cons, List.append_assoc, List.cons_append] at hj ⊢
        refine ⟨?_, ?_⟩
        · rcases List.mem_append.1 hj with h | h
          · exact List.mem_append_left _ h
          · exact List.mem_append_right _ (List.mem_cons_of_mem _ h)
        · rintro rfl
          have hnd2 := List.nodup_append.1 hnd
          rcases List.mem_append.1 hj with h | h
          · exact hn h
          · exact (List.nodup_cons.1 hnd2.2.1).1 h
      refine ⟨by simpa using I.size, closed_set I.size hlt I.closed hd, ?_, ?_, ?_, ?_, ?_, h2, I.wp⟩
      · intro j hj
        rcases I.parts j hj with h | h
        · exact .inl ((getD_setIf (by have := I.size; omega)).2 (.inl h))
        · by_cases hji : j = i'
          · exact .inl ((getD_setIf (by have := I.size; omega)).2 (.inr hji))
          · right
            simp only [List.map_append, List.map_cons, List.append_assoc, List.cons_append] at h ⊢
            rcases List.mem_append.1 h with h | h
            · exact List.mem_append_left _ h
            · rcases List.mem_cons.1 h with h | h
              · exact absurd h hji
              · exact List.mem_append_right _ h
      · intro j hj
        obtain ⟨h1, h2⟩ := hsub j hj
        refine ⟨(I.apart j h1).1, ?_⟩
        rw [getD_set_ne false (Ne.symm h2)]
        exact (I.apart j h1).2
      · simp only [List.map_append, List.append_assoc]
        exact (List.nodup_cons.1 ((List.Perm.nodup_iff List.perm_middle).1 hnd)).2
      · intro j hj
        refine I.fl j ?_
        simp only [List.map_append, List.map_cons] at hj ⊢
        rcases List.mem_append.1 hj with h | h
        · exact List.mem_append_left _ h
        · exact List.mem_append_right _ (List.mem_cons_of_mem _ h)
      · have := OrdOK.pull (pre.map (·.1)) (fun j hj => I.fl j (by simp only [List.map_append]; exact List.mem_append_left _ hj)) hd hord
        simp only [List.map_append, List.append_assoc]
        exact OrdOK.congr (fun j => (getD_setIf (by have := I.size; omega)).symm) this
    -- on along the order till i has been met
    have hgo : ∀ (rem : List Nat) (pend : List (Nat × Value)) (ag : Act), pend.length + rem.length ≤ fuel + 1 → OneInv P md ops sink Q listed pend rem a ag w →
        wpOp P ops Q i (wpAny P md ops Q fuel (listed.setIfInBounds i true)) a w := by
      intro rem
      induction rem with
      | nil =>
        intro pend ag hlen I
        rcases I.parts i hlt with h | h
        · rw [hun] at h; cases h
        · exact hpull pend [] ag hlen I (by simpa using h)
      | cons c rem ihr =>
        intro pend ag hlen I
        have hc := I.apart c (by simp)
        obtain ⟨oc, hoc⟩ : ∃ oc, ops[c]? = some oc := ⟨_, Array.getElem?_eq_getElem hc.1⟩
        have hat := OrdOK.at (pend.map (·.1)) I.ord
        have hwp := I.wp
        simp only [wpOne, hoc] at hwp
        by_cases hfl : floats oc.op = true
        · -- it floats: it joins those that are pending
          have hnext : ∃ v, RunsNow P ops w oc ag v ∧ wpOne P ops sink Q rem (ag.put oc.dst v) w := by
            by_cases hw : Region.wanted oc (yielded ops ag.tmps) = true
            · rw [if_pos hw, if_pos hfl] at hwp
              exact runsNow_of_wp hw hwp.1 hwp.2
            · rw [if_neg hw] at hwp
              exact ⟨undef, .inr ⟨by simpa using hw, rfl⟩, hwp⟩
          obtain ⟨v, hrn, hwp'⟩ := hnext
          have hrun : PendRun P ops w a (pend ++ [(c, v)]) (ag.put oc.dst v) := by
            exact I.run.snoc hoc hrn
          have e : (pend ++ [(c, v)]).map (·.1) ++ rem = pend.map (·.1) ++ c :: rem := by simp
          refine ihr (pend ++ [(c, v)]) (ag.put oc.dst v) (by simp at hlen ⊢; omega) ⟨I.size, I.closed, ?_, ?_, ?_, ?_, ?_, hrun, hwp'⟩
          · rw [e]; exact I.parts
          · rw [e]; exact I.apart
          · rw [e]; exact I.nodup
          · intro j hj
            simp only [List.map_append, List.map_cons, List.map_nil] at hj
            rcases List.mem_append.1 hj with h | h
            · exact I.fl j h
            · simp at h; subst h; intro o' ho'; rw [hoc] at ho'; cases ho'; exact hfl
          · rw [e]; exact I.ord
        · -- it acts
          by_cases him : i ∈ pend.map (·.1)
          · exact hpull pend (c :: rem) ag hlen I him
          · rcases hat.2.1 with hf | ⟨honly, hsink⟩
            · exact absurd (hf oc hoc) hfl
            have hci : i = c := honly i hlt (by simp only [not_or]; exact ⟨by simp [hun], him⟩) (hd.mono fun j hj => .inl hj)
            subst hci
            rw [ho] at hoc; cases hoc
            have hpre : ∀ j ∈ pend.map (·.1), listed.getD j false = false := fun j hj => (I.apart j (List.mem_append_left _ hj)).2
            have hap := OneInv.apartPre hp ho hd hun hpre him I.ord
            obtain ⟨e1, e2, e3⟩ := PendRun.push hs (hs i o ho) I.run hap
            have hnd := I.nodup
            have hstep : ∀ w', (sink i = true ∨ Agree w w') → ∀ a' ag', wpOne P ops sink Q rem ag' w' → PendRun P ops w a' pend ag' → wpAny P md ops Q fuel (listed.setIfInBounds i true) a' w' := by
              intro w' hsa a' ag' hw' hrun'
              have hrun2 : PendRun P ops w' a' pend ag' := by
                rcases hsa with hsa | hsa
                · -- the sink: nothing is pending
                  have hnil : pend = [] := by
                    rcases List.eq_nil_or_concat pend with h | ⟨pre, ⟨j, u⟩, h⟩
                    · exact h
                    · exfalso
                      rw [List.concat_eq_append] at h
                      subst h
                      have hjm : j ∈ (pre ++ [(j, u)]).map (·.1) := by simp
                      have hju := hpre j hjm
                      obtain ⟨k, hk, hwt⟩ := hsink hsa j (.inr hjm)
                      have hord := I.ord
                      simp only [List.map_append, List.map_cons, List.map_nil, List.append_assoc, List.singleton_append] at hord hnd
                      have hjn : j ∉ pre.map (·.1) := fun hh => (List.nodup_append.1 hnd).2.2 j hh j List.mem_cons_self rfl
                      have hself : ¬ WaitsOn md ops j j := by
                        intro hh
                        obtain ⟨o', ho', e, he, hb, heq⟩ := hh
                        have h0 := (OrdOK.at (pre.map (·.1)) hord).1 o' ho' e he hb
                        rw [heq] at h0
                        rcases h0 with h0 | h0
                        · rw [hju] at h0; cases h0
                        · exact hjn h0
                      obtain ⟨o', ho', e, he, hb, heq⟩ := hwt
                      rcases hk with (hk | hk) | hk
                      · have := I.closed k hk o' ho' e he hb
                        rw [heq, hju] at this; cases this
                      · simp only [List.map_append, List.map_cons, List.map_nil, List.mem_append, List.mem_singleton] at hk
                        rcases hk with hk | hk
                        · exact hord.noWait _ (by simp [hju]) hjn k hk ⟨o', ho', e, he, hb, heq⟩
                        · subst hk; exact hself ⟨o', ho', e, he, hb, heq⟩
                      · subst hk
                        have := hd o' ho' e he hb
                        rw [heq, hju] at this; cases this
                  subst hnil
                  cases hrun'
                  exact .nil _
                · exact hrun'.mono hsa
              refine ih _ pend rem a' ag' w' (by simp at hlen ⊢; omega) ?_
              have hsub : ∀ j, j ∈ pend.map (·.1) ++ rem → j ∈ pend.map (·.1) ++ i :: rem ∧ j ≠ i := by
                intro j hj
                refine ⟨?_, ?_⟩
                · rcases List.mem_append.1 hj with h | h
                  · exact List.mem_append_left _ h
                  · exact List.mem_append_right _ (List.mem_cons_of_mem _ h)
                · rintro rfl
                  rcases List.mem_append.1 hj with h | h
                  · exact him h
                  · exact (List.nodup_cons.1 (List.nodup_append.1 hnd).2.1).1 h
              refine ⟨by simpa using I.size, closed_set I.size hlt I.closed hd, ?_, ?_, ?_, I.fl, ?_, hrun2, hw'⟩
              · intro j hj
                rcases I.parts j hj with h | h
                · exact .inl ((getD_setIf (by have := I.size; omega)).2 (.inl h))
                · by_cases hji : j = i
                  · exact .inl ((getD_setIf (by have := I.size; omega)).2 (.inr hji))
                  · right
                    rcases List.mem_append.1 h with h | h
                    · exact List.mem_append_left _ h
                    · rcases List.mem_cons.1 h with h | h
                      · exact absurd h hji
                      · exact List.mem_append_right _ h
              · intro j hj
                obtain ⟨h1, h2⟩ := hsub j hj
                refine ⟨(I.apart j h1).1, ?_⟩
                rw [getD_set_ne false (Ne.symm h2)]
                exact (I.apart j h1).2
              · exact (List.nodup_cons.1 ((List.Perm.nodup_iff List.perm_middle).1 hnd)).2
              · exact OrdOK.congr (fun j => (getD_setIf (by have := I.size; omega)).symm) (OrdOK.pull (pend.map (·.1)) I.fl hd I.ord)
            unfold Go.wpOp
            simp only [ho]
            by_cases hw : Region.wanted o (yielded ops ag.tmps) = true
            · rw [if_pos hw, if_neg hfl] at hwp
              rw [← e2, if_pos hw]
              left
              unfold Oper.wp at hwp ⊢
              rw [e1] at hwp
              refine upon_carry (fun v w' hk => ?_) (fun d w' hk => ?_) hwp
              · exact hstep w' hk.1 _ _ hk.2 (e3 v)
              · exact hstep w' hk.1 _ _ hk.2 ((PendRun.push hs (hs i o ho) (I.run.defers d) hap).2.2 undef)
            · rw [if_neg hw] at hwp
              rw [← e2, if_neg hw]
              exact hstep w (.inr (Agree.refl w)) _ _ hwp (e3 undef)
    exact hgo rem pend ag hlen I

/-! The check of an order, by evaluation. -/
def depsB (md : Region.Mode) (ops : Array Oper) (G : Array Bool) (i : Nat) : Bool :=
  match ops[i]? with
  | none => true
  | some o => o.after.toList.all fun e => !Region.binds md e || G.getD e.on false
def waitsB (md : Region.Mode) (ops : Array Oper) (k j : Nat) : Bool :=
  match ops[k]? with
  | none => false
  | some o => o.after.toList.any fun e => Region.binds md e && e.on == j
def floatsB (ops : Array Oper) (i : Nat) : Bool :=
  match ops[i]? with
  | none => true
  | some o => floats o.op
def ordB (md : Region.Mode) (ops : Array Oper) (sink : Nat → Bool) : Array Bool → List Nat → Bool
  | _, [] => true
  | G, i :: l => decide (i < G.size) && depsB md ops G i && (floatsB ops i || ((List.range ops.size).all fun j => G.getD j false || !depsB md ops G j || j == i)) &&
      (floatsB ops i || !sink i || (List.range ops.size).all fun j => !G.getD j false || (List.range ops.size).any fun k => (G.getD k false || k == i) && waitsB md ops k j) && ordB md ops sink (G.setIfInBounds i true) l
def pairsB (md : Region.Mode) (ops : Array Oper) : Bool :=
  (List.range ops.size).all fun i => (List.range ops.size).all fun j => i == j || waitsB md ops i j || waitsB md ops j i || match ops[i]?, ops[j]? with
    | some oi, some oj => oi.apart ops oj
    | _, _ => true
/-- 'snk': those behind which nothing that floats is still to come. -/
def oneB (md : Region.Mode) (ops : Array Oper) (snk ord : List Nat) : Bool :=
  Region.noSelect ops && pairsB md ops && ordB md ops (fun i => snk.contains i) (Array.replicate ops.size false) ord &&
    (List.range ops.size).all (fun j => ord.contains j) && decide ord.Nodup && ord.all (fun j => decide (j < ops.size)) && decide (ord.length ≤ ops.size)

theorem depsB_spec {G : Array Bool} {i : Nat} : depsB md ops G i = true ↔ DepsIn md ops (fun k => G.getD k false = true) i := by
  unfold depsB DepsIn
  cases h : ops[i]? with
  | none => simp
  | some o =>
    simp only [List.all_eq_true, Option.some.injEq, forall_eq', Array.mem_toList_iff, Bool.or_eq_true, Bool.not_eq_true']
    exact ⟨fun h e he hb => (h e he).resolve_left (by simp [hb]), fun h e he => by
      cases hb : Region.binds md e
      · exact .inl rfl
      · exact .inr (h e he hb)⟩
theorem waitsB_spec {k j : Nat} (h : waitsB md ops k j = true) : WaitsOn md ops k j := by
  unfold waitsB at h
  cases ho : ops[k]? with
  | none => rw [ho] at h; cases h
  | some o =>
    rw [ho] at h
    simp only [List.any_eq_true, Bool.and_eq_true, beq_iff_eq, Array.mem_toList_iff] at h
    exact ⟨o, ho, h⟩
theorem floatsB_spec {i : Nat} (h : floatsB ops i = true) : FloatsAt ops i := by
  intro o ho
  simpa [floatsB, ho] using h
theorem ordB_spec (l : List Nat) : ∀ (G : Array Bool), G.size = ops.size → ordB md ops sink G l = true → OrdOK md ops sink (fun k => G.getD k false = true) l := by
  induction l with
  | nil => intro G _ _; trivial
  | cons i l ih =>
    intro G hG h
    simp only [ordB, Bool.and_eq_true, decide_eq_true_eq] at h
    obtain ⟨⟨⟨⟨h0, h1⟩, h2⟩, h3⟩, h4⟩ := h
    refine ⟨depsB_spec.1 h1, ?_, OrdOK.congr (fun j => getD_setIf h0) (ih _ (by simpa using hG) h4)⟩
    cases hf : floatsB ops i with
    | true => exact .inl (floatsB_spec hf)
    | false =>
      simp only [hf, Bool.false_or, List.all_eq_true, List.mem_range] at h2 h3
      refine .inr ⟨fun j hj hn hd => ?_, fun hs j hj => ?_⟩
      · have := h2 j hj
        simp only [Bool.or_eq_true, beq_iff_eq, Bool.not_eq_true'] at this
        rcases this with (h | h) | h
        · exact absurd h hn
        · rw [depsB_spec.2 hd] at h; cases h
        · exact h
      · simp only [hs, Bool.not_true, Bool.false_or] at h3
        rw [List.all_eq_true] at h3
        have hjl : j < ops.size := by
          rcases Nat.lt_or_ge j G.size with hh | hh
          · omega
          · replace hj : G.getD j false = true := hj
            rw [Array.getD_eq_getD_getElem?, Array.getElem?_eq_none hh] at hj; cases hj
        have := h3 j (List.mem_range.2 hjl)
        simp only [hj, Bool.not_true, Bool.false_or, List.any_eq_true, Bool.and_eq_true, Bool.or_eq_true, beq_iff_eq] at this
        obtain ⟨k, _, hk, hw⟩ := this
        exact ⟨k, hk, waitsB_spec hw⟩
theorem pairsB_spec (h : pairsB md ops = true) : PairsOK md ops := by
  intro i j oi oj hi hj hne
  simp only [pairsB, List.all_eq_true, List.mem_range] at h
  have := h i (Array.getElem?_eq_some_iff.1 hi).1 j (Array.getElem?_eq_some_iff.1 hj).1
  simp only [hi, hj, Bool.or_eq_true, beq_iff_eq] at this
  rcases this with ((h | h) | h) | h
  · exact absurd h hne
  · exact .inr (.inl (waitsB_spec h))
  · exact .inr (.inr (waitsB_spec h))
  · exact .inl h

/-- A REGION THAT DRAWS, WALKED IN ONE ORDER. -/
theorem wp_one {id : Nat} {a : Act} {w : World} {l : List Oper} (snk ord : List Nat) (hm : P.follows .mixedOrders = true) (hB : oneB .any l.toArray snk ord = true)
    (h : wpOne P l.toArray (fun i => snk.contains i) Q ord a w.drew) : (Code.region id l.toArray true).wp P Q a w := by
  simp only [oneB, Bool.and_eq_true, decide_eq_true_eq] at hB
  obtain ⟨⟨⟨⟨⟨⟨hsel, hpair⟩, hord⟩, hall⟩, hnd⟩, hlt⟩, hlen⟩ := hB
  refine wp_region_any hm ?_
  refine wpAny_of_one (fun j oj hj cs b => Region.noSelect_spec hsel j oj cs b hj) (pairsB_spec hpair) _ _ [] ord a a _ ?_ ⟨by simp, ?_, ?_, ?_, by simpa using hnd, by simp, ?_, .nil _, h⟩
  · simpa using hlen
  · intro j hj
    exfalso
    rw [Array.getD_eq_getD_getElem?, Array.getElem?_replicate] at hj
    split at hj <;> cases hj
  · intro j hj
    right
    have := List.all_eq_true.1 hall j (List.mem_range.2 hj)
    simpa using this
  · intro j hj
    refine ⟨by simpa using List.all_eq_true.1 hlt j (by simpa using hj), ?_⟩
    rw [Array.getD_eq_getD_getElem?, Array.getElem?_replicate]
    split <;> rfl
  · exact ordB_spec _ _ (by simp) hord

/-! The steps. -/
section
variable {a : Act} {w : World} {i : Nat} {rest : List Nat} {o : Oper}
theorem wpOne_nil (h : Q .normal a w) : wpOne P ops sink Q [] a w := h
theorem wpOne_float (ho : ops[i]? = some o) (hf : floats o.op = true) (hw : Region.wanted o (yielded ops a.tmps) = true) (hok : floatOK P o.op a.eval = true)
    (h : ∀ K : Act → World → Prop, (∀ a w, wpOne P ops sink Q rest a w → K a w) → o.wp P a w K (fun _ _ _ => False)) : wpOne P ops sink Q (i :: rest) a w := by
  simp only [wpOne, ho, if_pos hw, if_pos hf]
  exact ⟨hok, h _ fun _ _ h => h⟩
theorem wpOne_skip (ho : ops[i]? = some o) (hw : Region.wanted o (yielded ops a.tmps) = false) (h : wpOne P ops sink Q rest (a.put o.dst undef) w) : wpOne P ops sink Q (i :: rest) a w := by
  simp only [wpOne, ho, hw]
  exact h
theorem wpOne_sink (ho : ops[i]? = some o) (hf : floats o.op = false) (hs : sink i = true) (hw : Region.wanted o (yielded ops a.tmps) = true)
    (h : ∀ K : Act → World → Prop, (∀ a w, wpOne P ops sink Q rest a w → K a w) → o.wp P a w K (fun _ _ _ => False)) : wpOne P ops sink Q (i :: rest) a w := by
  simp only [wpOne, ho, if_pos hw, hf, hs]
  exact h _ fun _ _ h => ⟨.inl trivial, h⟩
theorem wpOne_act (ho : ops[i]? = some o) (hf : floats o.op = false) (hw : Region.wanted o (yielded ops a.tmps) = true)
    (h : ∀ K : Act → World → Prop, (∀ a' w', (Agree w w' ∧ wpOne P ops sink Q rest a' w') → K a' w') → o.wp P a w K (fun _ _ _ => False)) : wpOne P ops sink Q (i :: rest) a w := by
  simp only [wpOne, ho, if_pos hw, hf]
  exact h _ fun _ _ h => ⟨.inr h.1, h.2⟩
end
#print axioms wp_one
end Go.Proofs.Ytohmmgggaegbbaa
/- Small laws on slices that are read or owned, for whatever program. No condition. -/
namespace Go.Proofs.Ytohmmgggaegbbaa
set_option linter.unusedVariables false
set_option linter.unusedSimpArgs false
open Go Go.RowKit

theorem below_trans {a b c : World} (h : Below a.heap.size a b) (k : Below b.heap.size b c) : Below a.heap.size a c := h.trans (k.mono h.size)

/-- The slice (ao, n, cap) of elements of so many cells reads as the cells xs. -/
def Sl (w : World) (size : Nat) (ao : Option Addr) (n cap : Nat) (xs : List Value) : Prop :=
  xs.length = n * size ∧ n ≤ cap ∧ cap ≤ maxLen ∧ (0 < n → ∃ b off, ao = some ⟨b, off, none⟩ ∧ ∀ i (h : i < xs.length), w.cell? ⟨b, off + i, none⟩ = some xs[i])

def vb (x : UInt8) : Value := .int .u8 (x.toNat : Int)
def vl (x : UInt64) : Value := .int .u64 (x.toNat : Int)
def vd (x : UInt32) : Value := .int .u32 (x.toNat : Int)
def u8s (l : List UInt8) : List Value := l.map vb
def u64s (l : List UInt64) : List Value := l.map vl
def u32s (l : List UInt32) : List Value := l.map vd
@[simp] theorem length_u8s (l : List UInt8) : (u8s l).length = l.length := by simp [u8s]
@[simp] theorem length_u64s (l : List UInt64) : (u64s l).length = l.length := by simp [u64s]
@[simp] theorem length_u32s (l : List UInt32) : (u32s l).length = l.length := by simp [u32s]
theorem one_u8s (l : List UInt8) : ∀ u ∈ u8s l, u.oneCell' = true := by
  intro u hu; obtain ⟨x, _, rfl⟩ := List.mem_map.1 hu; rfl
theorem one_u64s (l : List UInt64) : ∀ u ∈ u64s l, u.oneCell' = true := by
  intro u hu; obtain ⟨x, _, rfl⟩ := List.mem_map.1 hu; rfl
theorem one_u32s (l : List UInt32) : ∀ u ∈ u32s l, u.oneCell' = true := by
  intro u hu; obtain ⟨x, _, rfl⟩ := List.mem_map.1 hu; rfl

section
variable {w w' : World} {size : Nat} {ao : Option Addr} {n cap : Nat} {xs : List Value}
theorem Sl.nil (w : World) (size : Nat) : Sl w size none 0 0 [] := ⟨by simp, Nat.le_refl _, by unfold maxLen; omega, fun h => absurd h (by omega)⟩
theorem Sl.agree (h : Sl w size ao n cap xs) (hw : Agree w w') : Sl w' size ao n cap xs := by
  obtain ⟨h1, h2, h3, h4⟩ := h
  refine ⟨h1, h2, h3, fun hn => ?_⟩
  obtain ⟨b, off, e, hc⟩ := h4 hn
  exact ⟨b, off, e, fun i hi => hw.cell (hc i hi)⟩
theorem Sl.below (h : Sl w size ao n cap xs) (hb : Below w.heap.size w w') : Sl w' size ao n cap xs := h.agree (Agree.of_below hb)
theorem Sl.drew (h : Sl w size ao n cap xs) : Sl w.drew size ao n cap xs := h
theorem Sl.of_owns {base : Nat} {e : TypeId} (h : w.ownsRow base e size (.slice ao n cap) n xs) : Sl w size ao n cap xs := by
  rcases h.2 with ⟨hv, hn⟩ | ⟨g, cap', cur, hv, hb, hg, hnc, hcm, hcs, ht⟩
  · simp only [Value.slice.injEq] at hv
    obtain ⟨rfl, rfl, rfl⟩ := hv
    exact ⟨h.1, Nat.le_refl _, by unfold maxLen; omega, fun h => absurd h (by omega)⟩
  · simp only [Value.slice.injEq, true_and] at hv
    obtain ⟨rfl, rfl⟩ := hv
    refine ⟨h.1, hnc, hcm, fun _ => ⟨g, 0, rfl, fun i hi => ?_⟩⟩
    rw [cell_of_row w g (0 + i) cur e (0, 0) hg, ← Array.getElem?_toList, Nat.zero_add]
    have hlen := h.1
    have : (cur.toList.take (n * size))[i]? = some xs[i] := by rw [ht]; exact List.getElem?_eq_getElem hi
    rw [List.getElem?_take] at this
    split at this
    · exact this
    · cases this
theorem owns_form {base : Nat} {e : TypeId} {v : Value} (h : w.ownsRow base e size v n xs) : ∃ ao cap, v = .slice ao n cap := by
  rcases h.2 with ⟨rfl, rfl⟩ | ⟨g, cap', cur, rfl, _⟩
  · exact ⟨_, _, rfl⟩
  · exact ⟨_, _, rfl⟩
theorem owns_mono {base base' : Nat} {e : TypeId} {v : Value} (h : w.ownsRow base e size v n xs) (hb : base' ≤ base) : w.ownsRow base' e size v n xs := by
  refine ⟨h.1, h.2.imp id ?_⟩
  rintro ⟨g, cap', cur, h1, h2, h3⟩
  exact ⟨g, cap', cur, h1, Nat.le_trans hb h2, h3⟩
theorem owns_agree {base : Nat} {e : TypeId} {v : Value} (h : w.ownsRow base e size v n xs) (hw : Agree w w') : w'.ownsRow base e size v n xs := by
  refine ⟨h.1, h.2.imp id ?_⟩
  rintro ⟨g, cap', cur, h1, h2, h3, h4⟩
  exact ⟨g, cap', cur, h1, h2, hw.block h3, h4⟩
theorem Sl.cell {x : Value} {i : Nat} (h : Sl w 1 ao n cap xs) (hi : xs[i]? = some x) : ∃ b off, ao = some ⟨b, off, none⟩ ∧ w.cell? ⟨b, off + i, none⟩ = some x := by
  obtain ⟨h1, h2, h3, h4⟩ := h
  obtain ⟨hlt, hx⟩ := List.getElem?_eq_some_iff.1 hi
  obtain ⟨b, off, e, hc⟩ := h4 (by omega)
  exact ⟨b, off, e, by rw [hc i hlt, hx]⟩
theorem Sl.len (h : Sl w 1 ao n cap xs) : xs.length = n := by have := h.1; omega
end

/-- The element type's row of the table. -/
def ElemInfo (P : Program) (e : TypeId) (z : Value) (size bytes : Nat) : Prop := ∃ i, P.info? e = some i ∧ i.zero = some z ∧ i.size = size ∧ i.bytes = bytes ∧ z.cells.size = size ∧ 0 < size
theorem elem_of {P : Program} {e : TypeId} {z : Value} {size bytes : Nat} (h : (P.info? e).map (fun i => (i.zero, i.size, i.bytes)) = some (some z, size, bytes)) (hz : z.cells.size = size) (h0 : 0 < size) : ElemInfo P e z size bytes := by
  obtain ⟨i, h1, h2, h3, h4⟩ := info_parts h
  exact ⟨i, h1, h2, h3, h4, hz, h0⟩

section
variable {P : Program} {w : World} {t e : TypeId} {z : Value} {size bytes : Nat}
theorem run_append_Sl {base : Nat} {ty : TypeId} {ao : Option Addr} {n cap : Nat} {xs : List Value} {ao' : Option Addr} {m cap' : Nat} {ys : List Value}
    (ht : P.underlying t = some (.slice e)) (hE : ElemInfo P e z size bytes) (hown : w.ownsRow base e size (.slice ao n cap) n xs) (hs : Sl w size ao' m cap' ys) (h1 : ∀ u ∈ ys, u.oneCell' = true)
    (hb : (n + m) * bytes ≤ 140737488355328) (hl : n + m ≤ maxLen) (hbase : base ≤ w.heap.size) :
    ∃ ao2 cap2 w', (Builtin.append_ #[t, t] ty #[.slice ao n cap, .slice ao' m cap']).run P w = .ok (.slice ao2 (n + m) cap2) w' ∧
      w'.ownsRow base e size (.slice ao2 (n + m) cap2) (n + m) (xs ++ ys) ∧ w.grownBy w' (Value.ownBlock (.slice ao n cap)) := by
  obtain ⟨i, hi, hz, hsz, hby, hzs, h0⟩ := hE
  obtain ⟨s1, s2, s3, s4⟩ := hs
  have fin : ∀ (ad : Addr), ao' = some ad → (∀ j u, ys[j]? = some u → w.cell? (ad.add j) = some u) → ∃ ao2 cap2 w', (Builtin.append_ #[t, t] ty #[.slice ao n cap, .slice ao' m cap']).run P w = .ok (.slice ao2 (n + m) cap2) w' ∧
      w'.ownsRow base e size (.slice ao2 (n + m) cap2) (n + m) (xs ++ ys) ∧ w.grownBy w' (Value.ownBlock (.slice ao n cap)) := by
    intro ad had hnews
    subst had
    obtain ⟨v', w', hr, ho, hg, _⟩ := run_append_own (P := P) w base t ty e i z size bytes ht hi hz hsz hby hzs h0 _ n xs hown ad m cap' ys s1 hnews h1 hl hb hbase
    obtain ⟨ao2, cap2, rfl⟩ := owns_form ho
    exact ⟨ao2, cap2, w', hr, ho, hg⟩
  by_cases hm : 0 < m
  · obtain ⟨b, off, rfl, hc⟩ := s4 hm
    refine fin _ rfl fun j u hu => ?_
    obtain ⟨hj, rfl⟩ := List.getElem?_eq_some_iff.1 hu
    rw [← hc j hj]
    congr 1
    unfold Addr.add
    split <;> simp_all
  · obtain rfl : m = 0 := by omega
    have hy : ys = [] := List.eq_nil_of_length_eq_zero (by simpa using s1)
    subst hy
    cases ao' with
    | some ad => exact fin ad rfl fun j u hu => by simp at hu
    | none =>
      refine ⟨ao, cap, w, ?_, by simpa using hown, ⟨rfl, rfl, rfl, Nat.le_refl _, fun _ _ _ => rfl⟩⟩
      have hcap : n ≤ cap := (Sl.of_owns hown).2.1
      cases ao with
      | none => simp [Builtin.append_, run_underlying ht, sizeOf, typeInfo, hi, Builtin.lenOf, Builtin.firstCells, hcap]
      | some a => simp [Builtin.append_, run_underlying ht, sizeOf, typeInfo, hi, Builtin.lenOf, Builtin.firstCells, hcap, storeCells]

theorem wp_append {o : Oper} {a : Act} {K : Act → World → Prop} {Q : Exit → Act → World → Prop} (s x : Operand) (t : TypeId)
    (ho : o.op = .call { callee := .builtin .append, args := #[s, x], argTypes := #[t, t] })
    {base : Nat} {ao : Option Addr} {n cap : Nat} {xs : List Value} {ao' : Option Addr} {m cap' : Nat} {ys : List Value}
    (hsv : a.eval s = .slice ao n cap) (hxv : a.eval x = .slice ao' m cap')
    (ht : P.underlying t = some (.slice e)) (hE : ElemInfo P e z size bytes) (hown : w.ownsRow base e size (.slice ao n cap) n xs) (hs : Sl w size ao' m cap' ys) (h1 : ∀ u ∈ ys, u.oneCell' = true)
    (hb : (n + m) * bytes ≤ 140737488355328) (hl : n + m ≤ maxLen) (hbase : base ≤ w.heap.size)
    (h : ∀ ao2 cap2 w', w'.ownsRow base e size (.slice ao2 (n + m) cap2) (n + m) (xs ++ ys) → w.grownBy w' (Value.ownBlock (.slice ao n cap)) → K (a.put o.dst (.slice ao2 (n + m) cap2)) w') : o.wp P a w K Q := by
  obtain ⟨ao2, cap2, w', hr, h2, h3⟩ := run_append_Sl (P := P) (w := w) (ty := o.type) ht hE hown hs h1 hb hl hbase
  unfold Oper.wp execOp
  simp only [ho, resolve, invoke, builtin, Sem.run_bind, Sem.run_pure, Result.andThen_ok, List.map_toArray, List.map_cons, List.map_nil, hsv, hxv, hr]
  exact h ao2 cap2 w' h2 h3
theorem wpl_append {ops : Array Oper} {rest : List Oper} {o : Oper} {a : Act} {Q : Exit → Act → World → Prop} (hgd : o.guard = none) (s x : Operand) (t : TypeId)
    (ho : o.op = .call { callee := .builtin .append, args := #[s, x], argTypes := #[t, t] })
    {base : Nat} {ao : Option Addr} {n cap : Nat} {xs : List Value} {ao' : Option Addr} {m cap' : Nat} {ys : List Value}
    (hsv : a.eval s = .slice ao n cap) (hxv : a.eval x = .slice ao' m cap')
    (ht : P.underlying t = some (.slice e)) (hE : ElemInfo P e z size bytes) (hown : w.ownsRow base e size (.slice ao n cap) n xs) (hs : Sl w size ao' m cap' ys) (h1 : ∀ u ∈ ys, u.oneCell' = true)
    (hb : (n + m) * bytes ≤ 140737488355328) (hl : n + m ≤ maxLen) (hbase : base ≤ w.heap.size)
    (h : ∀ ao2 cap2 w', w'.ownsRow base e size (.slice ao2 (n + m) cap2) (n + m) (xs ++ ys) → w.grownBy w' (Value.ownBlock (.slice ao n cap)) → wpList P ops Q rest (a.put o.dst (.slice ao2 (n + m) cap2)) w') : wpList P ops Q (o :: rest) a w :=
  wpList_plain hgd fun _ hK => wp_append s x t ho hsv hxv ht hE hown hs h1 hb hl hbase fun ao2 cap2 w' h2 h3 => hK _ _ (h ao2 cap2 w' h2 h3)

theorem wpl_make {ops : Array Oper} {rest : List Oper} {o : Oper} {a : Act} {Q : Exit → Act → World → Prop} (hgd : o.guard = none) (l c : Operand) (t : TypeId)
    (ho : o.op = Op.makeSlice t l c) {kl kc : IntKind} {L C : Int} (n : Nat) (hl : a.eval l = .int kl L) (hc : a.eval c = .int kc C)
    (ht : P.underlying t = some (.slice e)) (hE : ElemInfo P e z size bytes) (hL : L = (n : Int)) (hC : C = (n : Int)) (hb : bytes * n ≤ 281474976710656) (hm : n ≤ maxLen)
    (h : ∀ w', w'.ownsRow w.heap.size e size (.slice (some ⟨w.heap.size, 0, none⟩) n n) n (madeCells z.cells (n * size)).toList → w.grownBy w' none → wpList P ops Q rest (a.put o.dst (.slice (some ⟨w.heap.size, 0, none⟩) n n)) w') : wpList P ops Q (o :: rest) a w := by
  obtain ⟨i, hi, hz, hsz, hby, hzs, h0⟩ := hE
  subst hby
  exact wpList_make_full w hgd l c t ho w.heap.size e i z size ht hi hz hsz kl kc L C n hl hc hL hC hb hm (Nat.le_refl _) h
theorem made_one (z : Value) (n : Nat) (h : z.cells = #[z]) : (madeCells z.cells (n * 1)).toList = List.replicate n z := by
  rw [h, Nat.mul_one]; exact toList_madeCells_one z n

/-- A []byte as a string. -/
def str (l : List UInt8) : Value := .string ⟨l.toArray⟩
theorem foldl_push (l : List UInt8) : ∀ s : ByteArray, (l.map fun x => ((x.toNat : Nat) : Int)).foldl (fun r n => r.push (UInt8.ofNat n.toNat)) s = ⟨s.data ++ l.toArray⟩ := by
  induction l with
  | nil => intro s; simp
  | cons x l ih =>
    intro s
    rw [List.map_cons, List.foldl_cons, ih]
    congr 1
    simp [ByteArray.push]
theorem run_string {src dst : TypeId} {ao : Option Addr} {n cap : Nat} {l : List UInt8} (hs : P.underlying src = some (.slice e)) (he : P.underlying e = some (.int .u8)) (hd : P.underlying dst = some .string)
    (h : Sl w 1 ao n cap (u8s l)) : (convert src dst (.slice ao n cap)).run P w = .ok (str l) w := by
  rw [run_convert_bytes_string w src dst e ao n cap hs he hd]
  obtain ⟨h1, h2, h3, h4⟩ := h
  have hn : n = l.length := by simpa using h1.symm
  cases ao with
  | none =>
    by_cases hn0 : 0 < n
    · obtain ⟨b, off, e, _⟩ := h4 hn0; cases e
    · have : l = [] := List.eq_nil_of_length_eq_zero (by omega)
      subst this
      rfl
  | some ad =>
    have hload : (loadCells ad n).run P w = .ok (((l.map fun x => ((x.toNat : Nat) : Int)).map (Value.int .u8)).toArray) w := by
      have e : (l.map fun x => ((x.toNat : Nat) : Int)).map (Value.int .u8) = u8s l := by simp [u8s, vb, Function.comp_def]
      rw [e]
      have := run_firstCells_some (P := P) w 1 n ad n 0 (u8s l) (by simpa using h1) (fun j u hu => ?_)
      · simpa [Builtin.firstCells] using this
      · obtain ⟨hj, rfl⟩ := List.getElem?_eq_some_iff.1 hu
        obtain ⟨b, off, e, hc⟩ := h4 (by rw [hn]; simp at hj; omega)
        cases e
        rw [← hc j hj]
        congr 1
        unfold Addr.add
        split <;> simp_all
    rw [run_bytesToString w ad n cap _ hload, foldl_push]
    simp [str, ByteArray.empty, ByteArray.emptyWithCapacity]
    rfl
end

/-- The post of a call that gives one value: it says R of it, and what was there is as it was. -/
def Ret (w : World) (R : Value → World → Prop) (e : Ending) (w' : World) : Prop := ∃ v, e = .returned v ∧ R v w' ∧ Below w.heap.size w w'
/-- Bytes in new memory. -/
def OwnB (base : Nat) (e : TypeId) (xs : List Value) (v : Value) (w' : World) : Prop := ∃ ao cap, v = .slice ao xs.length cap ∧ w'.ownsRow base e 1 (.slice ao xs.length cap) xs.length xs
/-- A slice that reads so. -/
def RdB (xs : List Value) (v : Value) (w' : World) : Prop := ∃ ao cap, v = .slice ao xs.length cap ∧ Sl w' 1 ao xs.length cap xs
end Go.Proofs.Ytohmmgggaegbbaa
/- The engine, part 1: heaplets, frames by slots, code in small lemmas. For whatever program. No condition. -/
namespace Go.Proofs.Ytohmmgggaegbbaa
set_option linter.unusedVariables false
set_option linter.unusedSimpArgs false
open Go Go.RowKit

/-! Heaplets: a part of the memory, block by block. -/
abbrev Heaplet := Nat → Option Obj
def Heaplet.le (N M : Heaplet) : Prop := ∀ k o, N k = some o → M k = some o
def whole (w : World) : Heaplet := fun k => w.heap[k]?
def single (b : Nat) (o : Obj) : Heaplet := fun k => if k = b then some o else none
def upd (N : Heaplet) (b : Nat) (o : Obj) : Heaplet := fun k => if k = b then some o else N k
def join2 (A B : Heaplet) : Heaplet := fun k => (A k).or (B k)
def cellOf (N : Heaplet) (b i : Nat) : Option Value := match N b with
  | some (.cells c _ _) => c[i]?
  | _ => none
theorem Heaplet.le_refl (N : Heaplet) : N.le N := fun _ _ h => h
theorem Heaplet.le_trans {A B C : Heaplet} (h : A.le B) (k : B.le C) : A.le C := fun x o e => k x o (h x o e)
theorem cellOf_le {N M : Heaplet} (h : N.le M) {b i : Nat} {v : Value} (hc : cellOf N b i = some v) : cellOf M b i = some v := by
  unfold cellOf at hc ⊢
  split at hc
  · rename_i c t f e; rw [h _ _ e]; exact hc
  · cases hc

def Apart (A B : Heaplet) : Prop := ∀ k, A k = none ∨ B k = none
/-- The world holds these heaplets, apart from each other; what lies outside of memory is as in E. -/
structure Hp (E : World) (L : List Heaplet) (w : World) : Prop where
  os : w.os = E.os
  tape : w.tape = E.tape
  output : w.output = E.output
  sub : ∀ N ∈ L, N.le (whole w)
  sep : L.Pairwise Apart
theorem Apart.symm {A B : Heaplet} (h : Apart A B) : Apart B A := fun k => (h k).symm
theorem Apart.le {A B A' B' : Heaplet} (h : Apart A B) (ha : A'.le A) (hb : B'.le B) : Apart A' B' := fun k => by
  cases hA : A' k with
  | none => exact .inl rfl
  | some o =>
    cases hB : B' k with
    | none => exact .inr rfl
    | some o' =>
      have h1 := ha _ _ hA
      have h2 := hb _ _ hB
      rcases h k with h | h <;> simp_all

section
variable {E : World} {L L' : List Heaplet} {w : World} {N A B : Heaplet}
theorem Hp.perm (h : Hp E L w) (p : L.Perm L') : Hp E L' w :=
  ⟨h.os, h.tape, h.output, fun N hN => h.sub N (p.mem_iff.2 hN), (p.pairwise_iff fun h => h.symm).1 h.sep⟩
theorem Hp.drop (h : Hp E L w) (p : L'.Sublist L) : Hp E L' w :=
  ⟨h.os, h.tape, h.output, fun N hN => h.sub N (p.subset hN), h.sep.sublist p⟩
theorem Hp.drew (h : Hp E L w) : Hp E L w.drew := ⟨h.os, h.tape, h.output, h.sub, h.sep⟩
theorem Hp.cell (h : Hp E L w) (hN : N ∈ L) {b i : Nat} {v : Value} (hc : cellOf N b i = some v) : w.cell? ⟨b, i, none⟩ = some v := by
  have h1 := cellOf_le (h.sub N hN) hc
  unfold cellOf Go.Proofs.Ytohmmgggaegbbaa.whole at h1
  unfold World.cell?
  split at h1
  · rename_i e; rw [e]; simpa using h1
  · cases h1
theorem Hp.lt (h : Hp E L w) (hN : N ∈ L) {b : Nat} {o : Obj} (hb : N b = some o) : b < w.heap.size := by
  have := h.sub N hN _ _ hb
  exact (Array.getElem?_eq_some_iff.1 this).1
theorem Hp.whole (w : World) : Hp w [whole w] w := ⟨rfl, rfl, rfl, fun N hN => by simp at hN; subst hN; exact Heaplet.le_refl _, by simp⟩
theorem Hp.env {E' : World} (h : Hp E L w) (ho : E.os = E'.os) (ht : E.tape = E'.tape) (hu : E.output = E'.output) : Hp E' L w := ⟨h.os.trans ho, h.tape.trans ht, h.output.trans hu, h.sub, h.sep⟩
theorem Hp.agree {w' : World} (h : Hp E (L ++ [Go.Proofs.Ytohmmgggaegbbaa.whole w]) w') : Agree w w' := fun b hb => by
  have := h.sub (Go.Proofs.Ytohmmgggaegbbaa.whole w) (by simp) b w.heap[b] (by simp [Go.Proofs.Ytohmmgggaegbbaa.whole, hb])
  simpa [Go.Proofs.Ytohmmgggaegbbaa.whole, hb] using this
theorem Hp.below {w' : World} (h : Hp w (L ++ [Go.Proofs.Ytohmmgggaegbbaa.whole w]) w') : Below w.heap.size w w' := by
  have ha := h.agree
  exact ⟨h.os, h.tape, h.output, ha.le, ha⟩
theorem Hp.of_below {w' : World} (h : Below w.heap.size w w') : Hp w [Go.Proofs.Ytohmmgggaegbbaa.whole w] w' :=
  ⟨h.os, h.tape, h.output, fun N hN k o hk => by
    simp at hN; subst hN
    have hlt : k < w.heap.size := (Array.getElem?_eq_some_iff.1 hk).1
    exact (h.block k hlt).trans hk, by simp⟩
/-- The last heaplet is taken apart again. -/
theorem Hp.refine {R : Heaplet} (h : Hp E (L ++ [R]) w) (hs : ∀ N ∈ L', N.le R) (hp : L'.Pairwise Apart) : Hp E (L ++ L') w := by
  refine ⟨h.os, h.tape, h.output, fun N hN => ?_, ?_⟩
  · rcases List.mem_append.1 hN with hN | hN
    · exact h.sub N (by simp [hN])
    · exact Heaplet.le_trans (hs N hN) (h.sub R (by simp))
  · rw [List.pairwise_append]
    have := List.pairwise_append.1 h.sep
    refine ⟨this.1, hp, fun a ha b hb => ?_⟩
    exact (this.2.2 a ha R (by simp)).le (Heaplet.le_refl _) (hs b hb)
theorem Hp.push (h : Hp E L w) {w' : World} (hos : w'.os = w.os) (ht : w'.tape = w.tape) (hu : w'.output = w.output) (ha : Agree w w') {N : Heaplet} (hN : N.le (Go.Proofs.Ytohmmgggaegbbaa.whole w')) (hnew : ∀ k o, N k = some o → w.heap.size ≤ k) : Hp E (N :: L) w' := by
  refine ⟨hos.trans h.os, ht.trans h.tape, hu.trans h.output, fun M hM => ?_, ?_⟩
  · rcases List.mem_cons.1 hM with rfl | hM
    · exact hN
    · intro k o hk
      have hlt := h.lt hM hk
      exact (ha k hlt).trans (h.sub M hM k o hk)
  · rw [List.pairwise_cons]
    refine ⟨fun M hM k => ?_, h.sep⟩
    cases hk : N k with
    | none => exact .inl rfl
    | some o =>
      right
      cases hm : M k with
      | none => rfl
      | some o' => exact absurd (h.lt hM hm) (by have := hnew _ _ hk; omega)
theorem Hp.alloc (h : Hp E L w) (o : Obj) : Hp E (single w.heap.size o :: L) (w.alloc o) := by
  refine h.push (w' := w.alloc o) rfl rfl rfl (Agree.alloc _ _) (fun k o' hk => ?_) (fun k o' hk => ?_)
  · unfold single at hk
    split at hk
    · rename_i e; subst e; cases hk; exact heap_alloc_new w o
    · cases hk
  · unfold single at hk
    split at hk
    · rename_i e; omega
    · cases hk
/-- One block of the first heaplet turns. -/
theorem Hp.put (h : Hp E (N :: L) w) {b : Nat} {o o' : Obj} (hb : N b = some o) {w' : World} (hos : w'.os = w.os) (ht : w'.tape = w.tape) (hu : w'.output = w.output)
    (hnew : w'.heap[b]? = some o') (hold : ∀ k, k ≠ b → k < w.heap.size → w'.heap[k]? = w.heap[k]?) : Hp E (upd N b o' :: L) w' := by
  have hs := List.pairwise_cons.1 h.sep
  refine ⟨hos.trans h.os, ht.trans h.tape, hu.trans h.output, fun M hM => ?_, ?_⟩
  · rcases List.mem_cons.1 hM with rfl | hM'
    · intro k o2 hk
      unfold upd at hk
      split at hk
      · rename_i e; subst e; cases hk; exact hnew
      · rename_i e; exact (hold k e (h.lt (List.mem_cons_self ..) hk)).trans (h.sub N (List.mem_cons_self ..) _ _ hk)
    · intro k o2 hk
      have hne : k ≠ b := by
        rintro rfl
        rcases hs.1 M hM' k with h1 | h1
        · rw [hb] at h1; cases h1
        · rw [hk] at h1; cases h1
      exact (hold k hne (h.lt (List.mem_cons_of_mem _ hM') hk)).trans (h.sub M (List.mem_cons_of_mem _ hM') _ _ hk)
  · rw [List.pairwise_cons]
    refine ⟨fun M hM k => ?_, hs.2⟩
    have h0 := hs.1 M hM k
    unfold upd
    split
    · rename_i e; subst e
      rcases h0 with h1 | h1
      · rw [hb] at h1; cases h1
      · exact .inr h1
    · exact h0
theorem Hp.merge (h : Hp E (A :: B :: L) w) : Hp E (join2 A B :: L) w := by
  have hs := List.pairwise_cons.1 h.sep
  have hs2 := List.pairwise_cons.1 hs.2
  refine ⟨h.os, h.tape, h.output, fun M hM => ?_, ?_⟩
  · rcases List.mem_cons.1 hM with rfl | hM
    · intro k o hk
      unfold join2 at hk
      cases hA : A k with
      | none => rw [hA] at hk; exact h.sub B (by simp) _ _ (by simpa using hk)
      | some x => rw [hA] at hk; exact h.sub A (by simp) _ _ (by rw [hA]; simpa using hk)
    · exact h.sub M (by simp [hM])
  · rw [List.pairwise_cons]
    refine ⟨fun M hM k => ?_, hs2.2⟩
    rcases hs.1 M (by simp [hM]) k with h1 | h1
    · rcases hs2.1 M hM k with h2 | h2
      · exact .inl (by simp [join2, h1, h2])
      · exact .inr h2
    · exact .inr h1
theorem join2_left {A B : Heaplet} : A.le (join2 A B) := fun k o h => by simp [join2, h]
theorem join2_right {A B : Heaplet} (h : Apart A B) : B.le (join2 A B) := fun k o hk => by
  rcases h k with h | h
  · simp [join2, h, hk]
  · rw [h] at hk; cases hk
end

/-! Frames by slots. -/
theorem beq_no {i j : Nat} (h : ¬ i = j) : Nat.beq i j = false := by
  cases e : Nat.beq i j with
  | false => rfl
  | true => exact absurd (Nat.eq_of_beq_eq_true e) h
def lk : List (Nat × Value) → Nat → Option Value
  | [], _ => none
  | (j, v) :: t, i => bif Nat.beq j i then some v else lk t i
def ev (l : List (Nat × Value)) : Operand → Option Value
  | .tmp t => lk l t
  | .const v => some v
  | .global g => some (.pointer (some ⟨g, 0, none⟩))
  | .func f => some (.func (.func f) #[] #[])
structure Fr (n : Nat) (l : List (Nat × Value)) (a : Act) : Prop where
  defers : a.defers = []
  size : a.tmps.size = n
  get : ∀ i v, lk l i = some v → a.tmps[i]? = some v
theorem Fr.eval {n : Nat} {l : List (Nat × Value)} {a : Act} (h : Fr n l a) {x : Operand} {v : Value} (hx : ev l x = some v) : a.eval x = v := by
  cases x with
  | tmp t =>
    have := h.get t v hx
    simp [Act.eval, Array.getD_eq_getD_getElem?, this]
  | const c => simpa [ev, Act.eval] using hx
  | global g => simpa [ev, Act.eval] using hx
  | func f => simpa [ev, Act.eval] using hx
theorem Fr.put {n : Nat} {l : List (Nat × Value)} {a : Act} (h : Fr n l a) {d : Nat} {v : Value} (hd : d < n) : Fr n ((d, v) :: l) (a.put (some d) v) := by
  refine ⟨h.defers, by simp [Act.put, h.size], fun i u hi => ?_⟩
  have hs := h.size
  simp only [Act.put, lk] at hi ⊢
  by_cases e : d = i
  · subst e
    simp at hi
    subst hi
    simp [hs, hd]
  · have : Nat.beq d i = false := beq_no e
    rw [this] at hi
    rw [Array.getElem?_setIfInBounds_ne e]
    exact h.get i u hi
theorem Fr.skip {n : Nat} {l : List (Nat × Value)} {a : Act} (h : Fr n l a) {d : Nat} {v : Value} (hl : lk l d = none) : Fr n l (a.put (some d) v) := by
  refine ⟨h.defers, by simp [Act.put, h.size], fun i u hi => ?_⟩
  have hne : d ≠ i := by rintro rfl; rw [hl] at hi; cases hi
  simp only [Act.put]
  rw [Array.getElem?_setIfInBounds_ne hne]
  exact h.get i u hi
theorem Fr.init {n : Nat} {args : Array Value} {l : List (Nat × Value)} (hn : args.size ≤ n) (hl : ∀ i v, lk l i = some v → args[i]? = some v) :
    Fr n l { tmps := args ++ Array.replicate (n - args.size) undef, defers := [] } := by
  refine ⟨rfl, by simp; omega, fun i v h => ?_⟩
  have h := hl i v h
  have hlt := (Array.getElem?_eq_some_iff.1 h).1
  rw [Array.getElem?_append_left hlt]; exact h

/-- Some slots of a frame. -/
inductive Keeps (l : List (Nat × Value)) : List (Nat × Value) → Prop
  | nil : Keeps l []
  | cons {i : Nat} {v : Value} {t : List (Nat × Value)} (h : lk l i = some v) (k : Keeps l t) : Keeps l ((i, v) :: t)
theorem Keeps.lk {l l' : List (Nat × Value)} (h : Keeps l l') : ∀ i v, lk l' i = some v → lk l i = some v := by
  induction h with
  | nil => intro i v h; cases h
  | cons h k ih =>
    intro i v hi
    unfold Go.Proofs.Ytohmmgggaegbbaa.lk at hi
    rename_i j u t
    by_cases e : j = i
    · subst e; simp at hi; subst hi; exact h
    · have : Nat.beq j i = false := beq_no e
      rw [this] at hi
      exact ih i v hi

/-- What holds of every frame with these slots and every world with these heaplets. -/
def At (n : Nat) (l : List (Nat × Value)) (E : World) (L : List Heaplet) (K : Act → World → Prop) : Prop := ∀ a w, Fr n l a → Hp E L w → K a w
section
variable {P : Program} {n : Nat} {l l' : List (Nat × Value)} {E : World} {L L' : List Heaplet} {K K' : Act → World → Prop} {Q : Exit → Act → World → Prop}
theorem At.keep (hk : Keeps l l') (h : At n l' E L K) : At n l E L K := fun a w hf hw => h a w ⟨hf.defers, hf.size, fun i v hi => hf.get i v (hk.lk i v hi)⟩ hw
theorem At.perm (p : L.Perm L') (h : At n l E L' K) : At n l E L K := fun a w hf hw => h a w hf (hw.perm p)
theorem At.sub (p : L'.Sublist L) (h : At n l E L' K) : At n l E L K := fun a w hf hw => h a w hf (hw.drop p)
theorem At.mono (hk : ∀ a w, K' a w → K a w) (h : At n l E L K') : At n l E L K := fun a w hf hw => hk a w (h a w hf hw)
theorem At.merge {A B : Heaplet} (h : Apart A B → At n l E (join2 A B :: L) K) : At n l E (A :: B :: L) K := fun a w hf hw => h ((List.pairwise_cons.1 hw.sep).1 B (by simp)) a w hf hw.merge
theorem At.norm (h : At n l E L K) : At n l E L (Exit.then K Q .normal) := h
theorem At.thenExit {id : Nat} (h : At n l E L (Q (.exit id))) : At n l E L (Exit.then K Q (.exit id)) := h
theorem At.thenRet (h : At n l E L (Q .ret)) : At n l E L (Exit.then K Q .ret) := h
theorem At.inNorm {id : Nat} (h : At n l E L (Q .normal)) : At n l E L (Exit.inBlock id Q .normal) := h
theorem At.inRet {id : Nat} (h : At n l E L (Q .ret)) : At n l E L (Exit.inBlock id Q .ret) := h
theorem At.inHit {id : Nat} (h : At n l E L (Q .normal)) : At n l E L (Exit.inBlock id Q (.exit id)) := fun a w hf hw => by simpa [Exit.inBlock] using h a w hf hw
theorem At.inMiss {id id' : Nat} (hn : Nat.beq id' id = false) (h : At n l E L (Q (.exit id'))) : At n l E L (Exit.inBlock id Q (.exit id')) := fun a w hf hw => by
  have : id' ≠ id := Nat.ne_of_beq_eq_false hn
  simpa [Exit.inBlock, this] using h a w hf hw
theorem At.seq {x y : Code} (h : ∀ K, (∀ {l' E' L'}, At n l' E' L' (y.wp P Q) → At n l' E' L' K) → At n l E L (x.wp P (Exit.then K Q))) : At n l E L ((Code.seq x y).wp P Q) :=
  fun a w hf hw => wp_seq (h _ (fun h => h) a w hf hw)
theorem At.block {id : Nat} {c : Code} (h : At n l E L (c.wp P (Exit.inBlock id Q))) : At n l E L ((Code.block id c).wp P Q) := fun a w hf hw => wp_block (h a w hf hw)
theorem At.skip (h : At n l E L (Q .normal)) : At n l E L (Code.skip.wp P Q) := fun a w hf hw => wp_skip (h a w hf hw)
theorem At.exit {id : Nat} (h : At n l E L (Q (.exit id))) : At n l E L ((Code.exit id).wp P Q) := fun a w hf hw => wp_exit (h a w hf hw)
theorem At.ret (h : At n l E L (Q .ret)) : At n l E L (Code.ret.wp P Q) := fun a w hf hw => wp_ret (h a w hf hw)
theorem At.cond {c : Operand} {x y : Code} {t : Bool} (hc : ev l c = some (.bool t)) (ht : t = true → At n l E L (x.wp P Q)) (hf : t = false → At n l E L (y.wp P Q)) : At n l E L ((Code.cond c x y).wp P Q) :=
  fun a w h hw => wp_cond_split (h.eval hc) (fun e => ht e a w h hw) (fun e => hf e a w h hw)
/-- A test whose slot holds a proposition. -/
theorem At.condP {c : Operand} {x y : Code} {p : Prop} [Decidable p] (hc : ev l c = some (.bool (decide p))) (ht : p → At n l E L (x.wp P Q)) (hf : ¬ p → At n l E L (y.wp P Q)) : At n l E L ((Code.cond c x y).wp P Q) :=
  At.cond hc (fun e => ht (of_decide_eq_true e)) (fun e => hf (of_decide_eq_false e))
theorem At.condB {c : Operand} {x y : Code} {b : Bool} (hc : ev l c = some (.bool b)) (ht : b = true → At n l E L (x.wp P Q)) (hf : b = false → At n l E L (y.wp P Q)) : At n l E L ((Code.cond c x y).wp P Q) := At.cond hc ht hf
theorem At.condT {c : Operand} {x y : Code} (hc : ev l c = some (.bool true)) (h : At n l E L (x.wp P Q)) : At n l E L ((Code.cond c x y).wp P Q) := At.cond hc (fun _ => h) (fun e => by cases e)
theorem At.condF {c : Operand} {x y : Code} (hc : ev l c = some (.bool false)) (h : At n l E L (y.wp P Q)) : At n l E L ((Code.cond c x y).wp P Q) := At.cond hc (fun e => by cases e) (fun _ => h)
theorem At.region {id : Nat} {ops : List Oper} (h : At n l E L (wpList P ops.toArray Q ops)) : At n l E L ((Code.region id ops.toArray false).wp P Q) := fun a w hf hw => wp_region_lit (h a w hf hw)
theorem At.opsNil {ops : Array Oper} (h : At n l E L (Q .normal)) : At n l E L (wpList P ops Q []) := h
theorem At.drawn {id : Nat} {ops : List Oper} (snk ord : List Nat) (hm : P.follows .mixedOrders = true) (hB : oneB .any ops.toArray snk ord = true)
    (h : At n l E L (wpOne P ops.toArray (fun i => snk.contains i) Q ord)) : At n l E L ((Code.region id ops.toArray true).wp P Q) := fun a w hf hw => wp_one snk ord hm hB (h a w.drew hf hw.drew)
theorem At.oneNil {ops : Array Oper} {sink : Nat → Bool} (h : At n l E L (Q .normal)) : At n l E L (wpOne P ops sink Q []) := h
/-- The round's end. -/
def Back (n : Nat) (E : World) (I : List (Nat × Value) → List Heaplet → Nat → Prop) (m : Nat) (a : Act) (w : World) : Prop := ∃ l L m', I l L m' ∧ m' < m ∧ Fr n l a ∧ Hp E L w
theorem At.loop {c : Code} (I : List (Nat × Value) → List Heaplet → Nat → Prop) {l0 : List (Nat × Value)} {L0 : List Heaplet} {m0 : Nat} (hl : Keeps l l0) (hL : L.Perm L0) (h0 : I l0 L0 m0)
    (round : ∀ l L m, I l L m → At n l E L (c.wp P (Exit.then (Back n E I m) Q))) : At n l E L ((Code.loop c).wp P Q) := by
  intro a w hf hw
  have h1 : Back n E I (m0 + 1) a w := ⟨l0, L0, m0, h0, Nat.lt_succ_self _, ⟨hf.defers, hf.size, fun i v hi => hf.get i v (hl.lk i v hi)⟩, hw.perm hL⟩
  clear h0 hl hL hf hw
  -- the measure is carried outside
  have key : ∀ m a w, Back n E I (m + 1) a w → ∀ (b : Frame) (k : List Item) (cs : List Frame), ∃ e a' w', Q e a' w' ∧ Arrives P (lone (b.at a (.code c :: .inLoop c :: k)) cs w) b k cs e a' w' := by
    intro m
    induction m using Nat.strongRecOn with
    | _ m ih =>
      intro a w hb b k cs
      obtain ⟨l, L, m', hI, hlt, hf, hw⟩ := hb
      obtain ⟨e, a₁, w₁, hq, harr⟩ := round l L m' hI a w hf hw b (.inLoop c :: k) cs
      cases e with
      | normal =>
        obtain ⟨l2, L2, m2, hI2, hlt2, hf2, hw2⟩ := hq
        obtain ⟨e₂, a₂, w₂, hq₂, harr₂⟩ := ih m2 (by omega) a₁ w₁ ⟨l2, L2, m2, hI2, Nat.lt_succ_self _, hf2, hw2⟩ b k cs
        exact ⟨e₂, a₂, w₂, hq₂, .of_steps (Steps.trans harr (.one step_inLoop)) harr₂⟩
      | exit id => exact ⟨_, a₁, w₁, hq, .pass (x := .inLoop c) rfl (fun _ _ => .inl (by simp)) harr⟩
      | goto l => exact ⟨_, a₁, w₁, hq, .pass (x := .inLoop c) rfl (fun _ _ => .inl (by simp)) harr⟩
      | ret => exact ⟨_, a₁, w₁, hq, .pass (x := .inLoop c) rfl (fun _ _ => .inl (by simp)) harr⟩
      | panic ch => exact ⟨_, a₁, w₁, hq, .pass (x := .inLoop c) rfl (fun _ _ => .inl (by simp)) harr⟩
      | outgrown => exact ⟨_, a₁, w₁, hq, .pass (x := .inLoop c) rfl (fun _ _ => .inl (by simp)) harr⟩
  intro b k cs
  obtain ⟨e, a', w', hq, harr⟩ := key m0 a w h1 b k cs
  exact ⟨e, a', w', hq, .of_steps (.one step_loop) harr⟩
theorem At.back {I : List (Nat × Value) → List Heaplet → Nat → Prop} {m m' : Nat} (hl : Keeps l l') (hL : L.Perm L') (hI : I l' L' m') (hm : m' < m) : At n l E L (Back n E I m) := fun _ _ hf hw =>
  ⟨l', L', m', hI, hm, ⟨hf.defers, hf.size, fun i v hi => hf.get i v (hl.lk i v hi)⟩, hw.perm hL⟩
/-- Ways meet again: what holds where they meet. -/
theorem At.meet {c : Code} (I : List (Nat × Value) → List Heaplet → Prop) (hI : ∀ l L, I l L → At n l E L K) (hb : ∀ K', (∀ {l L l' L'}, Keeps l l' → L.Perm L' → I l' L' → At n l E L K') → At n l E L (c.wp P (Exit.then K' Q))) : At n l E L (c.wp P (Exit.then K Q)) :=
  hb K fun hk hp hi => At.keep hk (At.perm hp (hI _ _ hi))
end

/-! Functions. -/
/-- The call uses up the heaplets L0, reads Lr, and gives a value and heaplets of which Post holds; the rest R is as it was. -/
def Fn (P : Program) (f : FuncId) (args : Array Value) (L0 Lr : List Heaplet) (Post : Value → List Heaplet → Prop) : Prop :=
  ∀ (E w : World) (R : Heaplet), Hp E (L0 ++ [R]) w → (∀ N ∈ Lr, N.le R) → Calls P f args w fun e w' => ∃ v L1, e = .returned v ∧ Post v L1 ∧ Hp E (L1 ++ [R]) w'
/-- The end of a function's walk. -/
def Done (E : World) (R : Heaplet) (Post : Value → List Heaplet → Prop) (e : Ending) (w' : World) : Prop := ∃ v L1, e = .returned v ∧ Post v L1 ∧ Hp E (L1 ++ [R]) w'
section
variable {P : Program} {f : FuncId} {args : Array Value} {L0 Lr : List Heaplet} {Post : Value → List Heaplet → Prop}
theorem Fn.mono {Post' : Value → List Heaplet → Prop} (h : Fn P f args L0 Lr Post) (hp : ∀ v L, Post v L → Post' v L) : Fn P f args L0 Lr Post' := fun E w R hw hr =>
  (h E w R hw hr).mono fun _ _ ⟨v, L1, he, hP, hh⟩ => ⟨v, L1, he, hp _ _ hP, hh⟩
theorem Fn.more {Lr' : List Heaplet} (h : Fn P f args L0 Lr Post) (hs : ∀ N ∈ Lr, N ∈ Lr') : Fn P f args L0 Lr' Post := fun E w R hw hr => h E w R hw fun N hN => hr N (hs N hN)
theorem Fn.of_at {fn : Func} {c : Code} {n : Nat} {l : List (Nat × Value)} (hf : P.funcs[f]? = some fn) (hb : fn.body = some c) (hn : fn.ntmps = n) (hs : args.size ≤ n) (hl : ∀ i v, lk l i = some v → args[i]? = some v)
    (h : ∀ (E : World) (R : Heaplet), (∀ N ∈ Lr, N.le R) → At n l E (L0 ++ [R]) (c.wp P (bodyPost P fn (Done E R Post)))) : Fn P f args L0 Lr Post := by
  intro E w R hw hr
  refine calls_of_wp hf hb ?_
  subst hn
  exact h E R hr _ _ (Fr.init hs hl) hw
/-- The arguments as slots. -/
def slots : Nat → List Value → List (Nat × Value)
  | _, [] => []
  | k, v :: t => (k, v) :: slots (k + 1) t
theorem slots_get (l : List Value) : ∀ k i v, lk (slots k l) i = some v → k ≤ i ∧ l[i - k]? = some v := by
  induction l with
  | nil => intro k i v h; cases h
  | cons x t ih =>
    intro k i v h
    simp only [slots, lk] at h
    by_cases e : k = i
    · subst e; simp at h; subst h; simp
    · have : Nat.beq k i = false := beq_no e
      rw [this] at h
      obtain ⟨h1, h2⟩ := ih _ _ _ h
      refine ⟨by omega, ?_⟩
      rw [show i - k = (i - (k + 1)) + 1 from by omega]; simpa using h2
theorem Fn.enter {vs : List Value} {fn : Func} {c : Code} {n : Nat} (hf : P.funcs[f]? = some fn) (hb : fn.body = some c) (hn : fn.ntmps = n) (hs : Nat.ble vs.length n = true)
    (h : ∀ (E : World) (R : Heaplet), (∀ N ∈ Lr, N.le R) → At n (slots 0 vs) E (L0 ++ [R]) (c.wp P (bodyPost P fn (Done E R Post)))) : Fn P f vs.toArray L0 Lr Post :=
  Fn.of_at hf hb hn (by simpa using hs) (fun i v hi => by have := (slots_get vs 0 i v hi).2; simpa using this) h
/-- The values of the results. -/
inductive Res (P : Program) (l : List (Nat × Value)) (L : List Heaplet) : List ResultVar → List Value → Prop
  | nil : Res P l L [] []
  | tmp {t : Nat} {v : Value} {rs : List ResultVar} {vs : List Value} (h : lk l t = some v) (k : Res P l L rs vs) : Res P l L (.tmp t :: rs) (v :: vs)
  | cell {t : Nat} {T : TypeId} {v : Value} {a : Addr} {rs : List ResultVar} {vs : List Value} (h : lk l t = some (.pointer (some a))) (hv : ∀ E w, Hp E L w → (loadVar T a).run P w = .ok v w) (k : Res P l L rs vs) : Res P l L (.cell t T :: rs) (v :: vs)
theorem results_res {fn : Func} {n : Nat} {l : List (Nat × Value)} {a : Act} {E w : World} {L : List Heaplet} (hf : Fr n l a) (hw : Hp E L w)
    {rs : List ResultVar} {vs : List Value} (h : Res P l L rs vs) (e : fn.results = rs.toArray) :
      (results fn a.tmps).run P w = .ok (if h : vs.length = 1 then vs[0] else .tuple vs.toArray) w := by
  have key : ∀ {rs : List ResultVar} {vs : List Value}, Res P l L rs vs →
      (rs.mapM (m := Sem) fun
        | .tmp t => pure (a.tmps.getD t undef)
        | .cell x t => do loadVar t (← asAddr (a.tmps.getD x undef))).run P w = .ok vs w := by
    intro rs vs h
    induction h with
    | nil => rfl
    | tmp ht _ ih =>
      have := hf.get _ _ ht
      simp only [List.mapM_cons, Array.getD_eq_getD_getElem?, this, Option.getD_some] at ih ⊢
      rw [Sem.run_bind]
      simp only [Sem.run_pure, Result.andThen_ok]
      rw [Sem.run_bind, ih]
      rfl
    | cell ht hv _ ih =>
      have := hf.get _ _ ht
      simp only [List.mapM_cons, Array.getD_eq_getD_getElem?, this, Option.getD_some] at ih ⊢
      rw [Sem.run_bind, Sem.run_bind, show ∀ x, asAddr (Value.pointer (some x)) = pure x from fun _ => rfl]
      simp only [Sem.run_pure, Result.andThen_ok, hv E w hw]
      rw [Sem.run_bind, ih]
      rfl
  unfold results
  rw [e, List.mapM_toArray]
  have step : ∀ s : Sem (List Value), s.run P w = .ok vs w → (do
      let vs ← Functor.map List.toArray s
      pure (if h : vs.size = 1 then vs[0] else .tuple vs) : Sem Value).run P w = .ok (if h : vs.length = 1 then vs[0] else .tuple vs.toArray) w := by
    intro s hs
    rw [map_eq_pure_bind, Sem.run_bind, Sem.run_bind, hs]
    rfl
  exact step _ (key h)
theorem At.ret1 {n : Nat} {l : List (Nat × Value)} {E : World} {L L1 L2 : List Heaplet} {R : Heaplet} {fn : Func} {r : ResultVar} {v : Value} (hr : fn.results = #[r]) (hv : Res P l L [r] [v]) (hs : L2.Sublist L) (hL : L2.Perm (L1 ++ [R])) (hP : Post v L1) :
    At n l E L (bodyPost P fn (Done E R Post) .ret) := fun a w hf hw =>
  ⟨hf.defers, v, by
    have := results_res (P := P) (w := w) (fn := fn) hf hw hv hr
    simpa using this, v, L1, rfl, hP, (hw.drop hs).perm hL⟩
theorem At.retN {n : Nat} {l : List (Nat × Value)} {E : World} {L L1 L2 : List Heaplet} {R : Heaplet} {fn : Func} {rs : List ResultVar} {vs : List Value} (hr : fn.results = rs.toArray)
    (hv : Res P l L rs vs) (hn : (vs.length == 1) = false) (hs : L2.Sublist L) (hL : L2.Perm (L1 ++ [R])) (hP : Post (.tuple vs.toArray) L1) :
    At n l E L (bodyPost P fn (Done E R Post) .ret) := fun a w hf hw =>
  ⟨hf.defers, _, by
    have := results_res (P := P) (w := w) (fn := fn) hf hw hv hr
    have hn' : ¬ vs.length = 1 := by simpa using hn
    rw [dif_neg hn'] at this
    exact this, _, L1, rfl, hP, (hw.drop hs).perm hL⟩
end
end Go.Proofs.Ytohmmgggaegbbaa
namespace Go.Proofs.Ytohmmgggaegbbaa
set_option linter.unusedVariables false
set_option linter.unusedSimpArgs false
open Go
variable {P : Program} {ops : Array Oper} {md : Region.Mode} {Q : Exit → Act → World → Prop} {sink : Nat → Bool}

/-- How a region that draws is walked: what floats is taken; where several act, each of them may be the first ('fork', to the chain's end 'nofork'). -/
inductive Plan where
  | done
  | take (i : Nat) (p : Plan)
  | fork (i : Nat) (sink : Bool) (p rest : Plan)
  | nofork

def wpPlan (P : Program) (ops : Array Oper) (Q : Exit → Act → World → Prop) : Plan → Act → World → Prop
  | .done, a, w => Q .normal a w
  | .take i p, a, w =>
    match ops[i]? with
    | none => False
    | some o =>
      if Region.wanted o (yielded ops a.tmps) then floatOK P o.op a.eval = true ∧ o.wp P a w (wpPlan P ops Q p) (fun _ _ _ => False)
      else wpPlan P ops Q p (a.put o.dst undef) w
  | .fork i sink p rest, a, w =>
    (match ops[i]? with
     | none => False
     | some o =>
       if Region.wanted o (yielded ops a.tmps) then o.wp P a w (fun a' w' => (sink = true ∨ Agree w w') ∧ wpPlan P ops Q p a' w') (fun _ _ _ => False)
       else wpPlan P ops Q p (a.put o.dst undef) w) ∧ wpPlan P ops Q rest a w
  | .nofork, _, _ => True

def Plan.heads : Plan → List Nat
  | .fork i _ _ rest => i :: rest.heads
  | _ => []
mutual
def PlanOK (md : Region.Mode) (ops : Array Oper) : Plan → (Nat → Prop) → Prop
  | .done, G => ∀ j, j < ops.size → G j
  | .take i p, G => (i < ops.size ∧ ¬ G i ∧ DepsIn md ops G i ∧ FloatsAt ops i) ∧ PlanOK md ops p (With G i)
  | .fork i snk p rest, G => (∀ j, j < ops.size → ¬ G j → DepsIn md ops G j → j ∈ i :: rest.heads) ∧
      ((i < ops.size ∧ ¬ G i ∧ DepsIn md ops G i) ∧ (snk = true → ∀ j, G j → ∃ k, With G i k ∧ WaitsOn md ops k j) ∧ PlanOK md ops p (With G i)) ∧ ChainOK md ops rest G
  | .nofork, _ => False
def ChainOK (md : Region.Mode) (ops : Array Oper) : Plan → (Nat → Prop) → Prop
  | .fork i snk p rest, G => ((i < ops.size ∧ ¬ G i ∧ DepsIn md ops G i) ∧ (snk = true → ∀ j, G j → ∃ k, With G i k ∧ WaitsOn md ops k j) ∧ PlanOK md ops p (With G i)) ∧ ChainOK md ops rest G
  | .nofork, _ => True
  | _, _ => False
end
theorem PlanOK.congr {p : Plan} {G G' : Nat → Prop} (h : ∀ j, G j ↔ G' j) (hp : PlanOK md ops p G) : PlanOK md ops p G' := by
  have : G = G' := funext fun j => propext (h j)
  rwa [← this]
/-- One of those that may act first: its own step is among the plan's. -/
theorem chain_get {i : Nat} : ∀ {p : Plan} {G : Nat → Prop} {a : Act} {w : World}, ChainOK md ops p G → i ∈ p.heads → wpPlan P ops Q p a w →
    ∃ (snk : Bool) (q : Plan), ((i < ops.size ∧ ¬ G i ∧ DepsIn md ops G i) ∧ (snk = true → ∀ j, G j → ∃ k, With G i k ∧ WaitsOn md ops k j) ∧ PlanOK md ops q (With G i)) ∧
      (match ops[i]? with
       | none => False
       | some o =>
         if Region.wanted o (yielded ops a.tmps) then o.wp P a w (fun a' w' => (snk = true ∨ Agree w w') ∧ wpPlan P ops Q q a' w') (fun _ _ _ => False)
         else wpPlan P ops Q q (a.put o.dst undef) w)
  | .fork c snk q rest, G, a, w => fun hc hi hw => by
    rcases List.mem_cons.1 hi with rfl | hi
    · exact ⟨snk, q, hc.1, hw.1⟩
    · exact chain_get hc.2 hi hw.2
  | .done, _, _, _ => fun hc => hc.elim
  | .take _ _, _, _, _ => fun hc => hc.elim
  | .nofork, _, _, _ => fun _ hi => by cases hi

structure PlanInv (P : Program) (md : Region.Mode) (ops : Array Oper) (Q : Exit → Act → World → Prop) (listed : Array Bool) (pend : List (Nat × Value)) (rem : Plan) (a ag : Act) (w : World) : Prop where
  size : listed.size = ops.size
  closed : ∀ j, listed.getD j false = true → DepsIn md ops (fun k => listed.getD k false = true) j
  apart : ∀ j ∈ pend.map (·.1), j < ops.size ∧ listed.getD j false = false
  nodup : (pend.map (·.1)).Nodup
  fl : ∀ j ∈ pend.map (·.1), FloatsAt ops j
  ord : OrdOK md ops (fun _ => false) (fun k => listed.getD k false = true) (pend.map (·.1))
  plan : PlanOK md ops rem (fun k => listed.getD k false = true ∨ k ∈ pend.map (·.1))
  run : PendRun P ops w a pend ag
  wp : wpPlan P ops Q rem ag w

theorem OrdOK.noWait' {i : Nat} : ∀ (pre : List Nat) {G : Nat → Prop}, ¬ G i → i ∉ pre → OrdOK md ops sink G pre → ∀ j ∈ pre, ¬ WaitsOn md ops j i := by
  intro pre
  induction pre with
  | nil => intro G _ _ _ j hj; cases hj
  | cons p pre ih =>
    intro G hG hn h j hj hw
    rcases List.mem_cons.1 hj with rfl | hj
    · obtain ⟨o, ho, e, he, hb, rfl⟩ := hw
      exact hG (h.1 o ho e he hb)
    · refine ih (G := With G p) (fun hh => ?_) (fun hh => hn (List.mem_cons_of_mem _ hh)) h.2.2 j hj hw
      rcases hh with hh | hh
      · exact hG hh
      · exact hn (by rw [hh]; exact List.mem_cons_self)
theorem OrdOK.snoc {c : Nat} : ∀ (pre : List Nat) {G : Nat → Prop}, OrdOK md ops sink G pre → DepsIn md ops (fun k => G k ∨ k ∈ pre) c → FloatsAt ops c → OrdOK md ops sink G (pre ++ [c]) := by
  intro pre
  induction pre with
  | nil => intro G _ hd hf; exact ⟨hd.mono (fun j hj => by simpa using hj), .inl hf, trivial⟩
  | cons p pre ih =>
    intro G h hd hf
    refine ⟨h.1, h.2.1, ih h.2.2 (hd.mono fun j hj => ?_) hf⟩
    simp only [With, List.mem_cons] at hj ⊢
    rcases hj with hj | hj | hj
    · exact .inl (.inl hj)
    · exact .inl (.inr hj)
    · exact .inr hj
def unl (listed : Array Bool) : Nat := listed.toList.count false
theorem unl_set {listed : Array Bool} {i : Nat} (hi : i < listed.size) (h : listed.getD i false = false) : unl (listed.setIfInBounds i true) + 1 = unl listed := by
  have h0 : listed[i] = false := by simpa [Array.getD, hi] using h
  unfold unl
  have this : listed.toList[i]'(by simpa using hi) = false := by simpa using h0
  have hp : 0 < listed.toList.count false := by
    rw [List.count_pos_iff]; rw [← this]; exact List.getElem_mem _
  rw [Array.toList_setIfInBounds, List.count_set (by simpa using hi), this]
  show listed.toList.count false - 1 + 0 + 1 = _
  omega
theorem unl_zero {listed : Array Bool} (h : unl listed = 0) {j : Nat} (hj : j < listed.size) : listed.getD j false = true := by
  unfold unl at h
  rw [List.count_eq_zero] at h
  have : listed[j] ∈ listed.toList := by rw [Array.mem_toList_iff]; exact Array.getElem_mem hj
  simp only [Array.getD, hj, dite_true]
  cases hx : listed[j] with
  | true => simp [hx]
  | false => rw [hx] at this; exact absurd this h

theorem apartPre' {listed : Array Bool} {pre : List (Nat × Value)} {i : Nat} {o : Oper} (hp : PairsOK md ops) (hi : ops[i]? = some o)
    (hd : DepsIn md ops (fun k => listed.getD k false = true) i) (hpre : ∀ j ∈ pre.map (·.1), listed.getD j false = false) (hn : i ∉ pre.map (·.1))
    (hnw : ∀ j ∈ pre.map (·.1), ¬ WaitsOn md ops j i) : ∀ p ∈ pre, ∀ oj, ops[p.1]? = some oj → oj.apart ops o = true := by
  intro p hpp oj hoj
  have hpm : p.1 ∈ pre.map (·.1) := List.mem_map_of_mem hpp
  have hne : p.1 ≠ i := fun e => hn (e ▸ hpm)
  rcases hp p.1 i oj o hoj hi hne with h | h | h
  · exact h
  · exact absurd h (hnw p.1 hpm)
  · obtain ⟨o', ho', e, he, hb, heq⟩ := h
    have := hd o' ho' e he hb
    rw [heq, hpre _ hpm] at this
    cases this

theorem wpAny_of_plan (hs : ∀ (j : Nat) (oj : Oper), ops[j]? = some oj → NoSel oj) (hp : PairsOK md ops) :
    ∀ (fuel : Nat) (listed : Array Bool) (pend : List (Nat × Value)) (rem : Plan) (a ag : Act) (w : World),
      unl listed ≤ fuel → PlanInv P md ops Q listed pend rem a ag w → wpAny P md ops Q fuel listed a w := by
  -- nothing is ready: all has been done
  have stop : ∀ (rem : Plan) (listed : Array Bool) (pend : List (Nat × Value)) (a ag : Act) (w : World), PlanInv P md ops Q listed pend rem a ag w → Region.ready md ops listed = [] → Q .normal a w := by
    intro rem listed pend a ag w I hr
    have hnil : pend = [] := by
      cases pend with
      | nil => rfl
      | cons p pend =>
        have ha := I.apart p.1 (by simp)
        have : p.1 ∈ Region.ready md ops listed := (ready_iff I.size).2 ⟨ha.1, ha.2, I.ord.1⟩
        rw [hr] at this
        cases this
    subst hnil
    have hrun := I.run
    cases hrun
    have hpl := I.plan
    cases rem with
    | done => exact I.wp
    | take i p =>
      have h0 := hpl.1
      have : i ∈ Region.ready md ops listed := (ready_iff I.size).2 ⟨h0.1, by simpa using h0.2.1, h0.2.2.1.mono fun j hj => by simpa using hj⟩
      rw [hr] at this; cases this
    | fork i snk p rest =>
      have h0 := hpl.2.1.1
      have : i ∈ Region.ready md ops listed := (ready_iff I.size).2 ⟨h0.1, by simpa using h0.2.1, h0.2.2.mono fun j hj => by simpa using hj⟩
      rw [hr] at this; cases this
    | nofork => exact hpl.elim
  intro fuel
  induction fuel with
  | zero =>
    intro listed pend rem a ag w hlen I
    have hready : Region.ready md ops listed = [] := by
      cases h : Region.ready md ops listed with
      | nil => rfl
      | cons j l =>
        have hj : j ∈ Region.ready md ops listed := by rw [h]; exact List.mem_cons_self
        obtain ⟨hlt, h0, _⟩ := (ready_iff I.size).1 hj
        rw [unl_zero (by omega) (by rw [I.size]; exact hlt)] at h0; cases h0
    exact ⟨hready, stop _ _ _ _ _ _ I hready⟩
  | succ fuel ih =>
    intro listed pend rem a ag w hlen I
    refine ⟨stop _ _ _ _ _ _ I, ?_⟩
    intro i hi
    obtain ⟨hlt, hun, hd⟩ := (ready_iff I.size).1 hi
    obtain ⟨o, ho⟩ : ∃ o, ops[i]? = some o := ⟨_, Array.getElem?_eq_getElem hlt⟩
    have hil : i < listed.size := by rw [I.size]; exact hlt
    have hcnt : unl (listed.setIfInBounds i true) ≤ fuel := by have := unl_set hil hun; omega
    have hpull : ∀ (pend : List (Nat × Value)) (rem : Plan) (ag : Act), PlanInv P md ops Q listed pend rem a ag w → i ∈ pend.map (·.1) →
        wpOp P ops Q i (wpAny P md ops Q fuel (listed.setIfInBounds i true)) a w := by
      intro pend rem ag I hm
      obtain ⟨⟨i', v⟩, hmem, rfl⟩ := List.mem_map.1 hm
      obtain ⟨pre, post, rfl⟩ := List.append_of_mem hmem
      dsimp only at *
      have hord := I.ord
      have hnd := I.nodup
      simp only [List.map_append, List.map_cons] at hord hnd
      have hn : i' ∉ pre.map (·.1) := by
        intro hh
        have := List.nodup_append.1 hnd
        exact this.2.2 i' hh i' List.mem_cons_self rfl
      have hpre : ∀ j ∈ pre.map (·.1), listed.getD j false = false := fun j hj => (I.apart j (by simp only [List.map_append]; exact List.mem_append_left _ hj)).2
      obtain ⟨h1, h2⟩ := PendRun.pull ho hs pre (apartPre' hp ho hd hpre hn (hord.noWait _ (by simp [hun]) hn)) I.run
      refine h1.wpOp ho ?_
      refine ih _ (pre ++ post) rem _ ag w hcnt ?_
      have hsub : ∀ j, j ∈ (pre ++ post).map (·.1) → j ∈ (pre ++ (i', v) :: post).map (·.1) ∧ j ≠ i' := by
        intro j hj
        simp only [List.map_append, List.map_cons] at hj ⊢
        refine ⟨?_, ?_⟩
        · rcases List.mem_append.1 hj with h | h
          · exact List.mem_append_left _ h
          · exact List.mem_append_right _ (List.mem_cons_of_mem _ h)
        · rintro rfl
          have hnd2 := List.nodup_append.1 hnd
          rcases List.mem_append.1 hj with h | h
          · exact hn h
          · exact (List.nodup_cons.1 hnd2.2.1).1 h
      refine ⟨by simpa using I.size, closed_set I.size hlt I.closed hd, ?_, ?_, ?_, ?_, ?_, h2, I.wp⟩
      · intro j hj
        obtain ⟨h1, h2⟩ := hsub j hj
        refine ⟨(I.apart j h1).1, ?_⟩
        rw [getD_set_ne false (Ne.symm h2)]
        exact (I.apart j h1).2
      · simp only [List.map_append]
        exact (List.nodup_cons.1 ((List.Perm.nodup_iff List.perm_middle).1 hnd)).2
      · intro j hj
        exact I.fl j (hsub j hj).1
      · have := OrdOK.pull (pre.map (·.1)) (fun j hj => I.fl j (by simp only [List.map_append]; exact List.mem_append_left _ hj)) hd hord
        simp only [List.map_append]
        exact OrdOK.congr (fun j => (getD_setIf hil).symm) this
      · refine PlanOK.congr (fun j => ?_) I.plan
        rw [getD_setIf hil]
        simp only [With, List.map_append, List.map_cons, List.mem_append, List.mem_cons]
        constructor
        · rintro (h | h | h | h)
          · exact .inl (.inl h)
          · exact .inr (.inl h)
          · exact .inl (.inr h)
          · exact .inr (.inr h)
        · rintro ((h | h) | h | h)
          · exact .inl h
          · exact .inr (.inr (.inl h))
          · exact .inr (.inl h)
          · exact .inr (.inr (.inr h))
    have hact : ∀ (pend : List (Nat × Value)) (rem : Plan) (ag : Act), PlanInv P md ops Q listed pend rem a ag w → i ∉ pend.map (·.1) →
        (∃ (snk : Bool) (q : Plan), ((i < ops.size ∧ ¬ (listed.getD i false = true ∨ i ∈ pend.map (·.1)) ∧ DepsIn md ops (fun k => listed.getD k false = true ∨ k ∈ pend.map (·.1)) i) ∧
            (snk = true → ∀ j, (listed.getD j false = true ∨ j ∈ pend.map (·.1)) → ∃ k, With (fun k => listed.getD k false = true ∨ k ∈ pend.map (·.1)) i k ∧ WaitsOn md ops k j) ∧
            PlanOK md ops q (With (fun k => listed.getD k false = true ∨ k ∈ pend.map (·.1)) i)) ∧
          (match ops[i]? with
           | none => False
           | some o =>
             if Region.wanted o (yielded ops ag.tmps) then o.wp P ag w (fun a' w' => (snk = true ∨ Agree w w') ∧ wpPlan P ops Q q a' w') (fun _ _ _ => False)
             else wpPlan P ops Q q (ag.put o.dst undef) w)) →
        wpOp P ops Q i (wpAny P md ops Q fuel (listed.setIfInBounds i true)) a w := by
      intro pend rem ag I him ⟨snk, q, ⟨_, hsink, hq⟩, hwp⟩
      simp only [ho] at hwp
      have hpre : ∀ j ∈ pend.map (·.1), listed.getD j false = false := fun j hj => (I.apart j hj).2
      have hap := apartPre' hp ho hd hpre him (I.ord.noWait' _ (by simp [hun]) him)
      obtain ⟨e1, e2, e3⟩ := PendRun.push hs (hs i o ho) I.run hap
      have hstep : ∀ w', (snk = true ∨ Agree w w') → ∀ a' ag', wpPlan P ops Q q ag' w' → PendRun P ops w a' pend ag' → wpAny P md ops Q fuel (listed.setIfInBounds i true) a' w' := by
        intro w' hsa a' ag' hw' hrun'
        have hrun2 : PendRun P ops w' a' pend ag' := by
          rcases hsa with hsa | hsa
          · have hnil : pend = [] := by
              rcases List.eq_nil_or_concat pend with h | ⟨pre, ⟨j, u⟩, h⟩
              · exact h
              · exfalso
                rw [List.concat_eq_append] at h
                subst h
                have hjm : j ∈ (pre ++ [(j, u)]).map (·.1) := by simp
                have hju := hpre j hjm
                obtain ⟨k, hk, hwt⟩ := hsink hsa j (.inr hjm)
                have hord := I.ord
                have hnd := I.nodup
                simp only [List.map_append, List.map_cons, List.map_nil] at hord hnd
                have hjn : j ∉ pre.map (·.1) := fun hh => (List.nodup_append.1 hnd).2.2 j hh j List.mem_cons_self rfl
                have hself : ¬ WaitsOn md ops j j := by
                  intro hh
                  obtain ⟨o', ho', e, he, hb, heq⟩ := hh
                  have h0 := (OrdOK.at (pre.map (·.1)) hord).1 o' ho' e he hb
                  rw [heq] at h0
                  rcases h0 with h0 | h0
                  · rw [hju] at h0; cases h0
                  · exact hjn h0
                obtain ⟨o', ho', e, he, hb, heq⟩ := hwt
                rcases hk with (hk | hk) | hk
                · have := I.closed k hk o' ho' e he hb
                  rw [heq, hju] at this; cases this
                · simp only [List.map_append, List.map_cons, List.map_nil, List.mem_append, List.mem_singleton] at hk
                  rcases hk with hk | hk
                  · exact hord.noWait _ (by simp [hju]) hjn k hk ⟨o', ho', e, he, hb, heq⟩
                  · subst hk; exact hself ⟨o', ho', e, he, hb, heq⟩
                · subst hk
                  have := hd o' ho' e he hb
                  rw [heq, hju] at this; cases this
            subst hnil
            cases hrun'
            exact .nil _
          · exact hrun'.mono hsa
        refine ih _ pend q a' ag' w' hcnt ?_
        have hne : ∀ j ∈ pend.map (·.1), j ≠ i := fun j hj e => him (e ▸ hj)
        refine ⟨by simpa using I.size, closed_set I.size hlt I.closed hd, ?_, I.nodup, I.fl, ?_, ?_, hrun2, hw'⟩
        · intro j hj
          refine ⟨(I.apart j hj).1, ?_⟩
          rw [getD_set_ne false (Ne.symm (hne j hj))]
          exact (I.apart j hj).2
        · have hup : ∀ (l : List Nat) {G G' : Nat → Prop}, (∀ j, G j → G' j) → (∀ j ∈ l, FloatsAt ops j) → OrdOK md ops (fun _ => false) G l → OrdOK md ops (fun _ => false) G' l := by
            intro l
            induction l with
            | nil => intro G G' _ _ _; trivial
            | cons j l ihl =>
              intro G G' hG hf h
              exact ⟨h.1.mono hG, .inl (hf j List.mem_cons_self), ihl (fun k hk => hk.imp (hG k) id) (fun k hk => hf k (List.mem_cons_of_mem _ hk)) h.2.2⟩
          exact hup _ (fun j hj => (getD_setIf hil).2 (.inl hj)) I.fl I.ord
        · refine PlanOK.congr (fun j => ?_) hq
          rw [getD_setIf hil]
          simp only [With]
          constructor
          · rintro ((h | h) | h)
            · exact .inl (.inl h)
            · exact .inr h
            · exact .inl (.inr h)
          · rintro ((h | h) | h)
            · exact .inl (.inl h)
            · exact .inr h
            · exact .inl (.inr h)
      unfold Go.wpOp
      simp only [ho]
      by_cases hw : Region.wanted o (yielded ops ag.tmps) = true
      · rw [if_pos hw] at hwp
        rw [← e2, if_pos hw]
        left
        unfold Oper.wp at hwp ⊢
        rw [e1] at hwp
        refine upon_carry (fun v w' hk => ?_) (fun d w' hk => ?_) hwp
        · exact hstep w' hk.1 _ _ hk.2 (e3 v)
        · exact hstep w' hk.1 _ _ hk.2 ((PendRun.push hs (hs i o ho) (I.run.defers d) hap).2.2 undef)
      · rw [if_neg hw] at hwp
        rw [← e2, if_neg hw]
        exact hstep w (.inr (Agree.refl w)) _ _ hwp (e3 undef)
    have hgo : ∀ (rem : Plan) (pend : List (Nat × Value)) (ag : Act), PlanInv P md ops Q listed pend rem a ag w →
        wpOp P ops Q i (wpAny P md ops Q fuel (listed.setIfInBounds i true)) a w := by
      intro rem
      induction rem with
      | done =>
        intro pend ag I
        rcases I.plan i hlt with h | h
        · rw [hun] at h; cases h
        · exact hpull pend .done ag I h
      | nofork => intro pend ag I; exact I.plan.elim
      | take c p ihp =>
        intro pend ag I
        obtain ⟨⟨hc1, hc2, hc3, hc4⟩, hpl⟩ := I.plan
        obtain ⟨oc, hoc⟩ : ∃ oc, ops[c]? = some oc := ⟨_, Array.getElem?_eq_getElem hc1⟩
        have hwp := I.wp
        simp only [wpPlan, hoc] at hwp
        have hnext : ∃ v, RunsNow P ops w oc ag v ∧ wpPlan P ops Q p (ag.put oc.dst v) w := by
          by_cases hw : Region.wanted oc (yielded ops ag.tmps) = true
          · rw [if_pos hw] at hwp
            exact runsNow_of_wp hw hwp.1 hwp.2
          · rw [if_neg hw] at hwp
            exact ⟨undef, .inr ⟨by simpa using hw, rfl⟩, hwp⟩
        obtain ⟨v, hrn, hwp'⟩ := hnext
        have e : (pend ++ [(c, v)]).map (·.1) = pend.map (·.1) ++ [c] := by simp
        refine ihp (pend ++ [(c, v)]) (ag.put oc.dst v) ⟨I.size, I.closed, ?_, ?_, ?_, ?_, ?_, I.run.snoc hoc hrn, hwp'⟩
        · rw [e]; intro j hj
          rcases List.mem_append.1 hj with h | h
          · exact I.apart j h
          · simp at h; subst h; exact ⟨hc1, by simpa using fun h => hc2 (.inl h)⟩
        · rw [e]
          refine List.nodup_append.2 ⟨I.nodup, by simp, fun x hx y hy => ?_⟩
          simp at hy; subst hy
          intro e; subst e; exact hc2 (.inr hx)
        · rw [e]; intro j hj
          rcases List.mem_append.1 hj with h | h
          · exact I.fl j h
          · simp at h; subst h; exact hc4
        · rw [e]; exact I.ord.snoc _ hc3 hc4
        · refine PlanOK.congr (fun j => ?_) hpl
          rw [e]
          simp only [With, List.mem_append, List.mem_singleton, or_assoc]
      | fork c snk p rest _ _ =>
        intro pend ag I
        by_cases him : i ∈ pend.map (·.1)
        · exact hpull pend _ ag I him
        · refine hact pend _ ag I him ?_
          obtain ⟨hall, hone, hrest⟩ := I.plan
          have hmem := hall i hlt (by simp only [not_or]; exact ⟨by simp [hun], him⟩) (hd.mono fun j hj => .inl hj)
          have hchain : ChainOK md ops (.fork c snk p rest) (fun k => listed.getD k false = true ∨ k ∈ pend.map (·.1)) := ⟨hone, hrest⟩
          exact chain_get hchain hmem I.wp
    exact hgo rem pend ag I

/-! The check of a plan, by evaluation. -/
mutual
def planB (md : Region.Mode) (ops : Array Oper) : Plan → Array Bool → Bool
  | .done, G => (List.range ops.size).all fun j => G.getD j false
  | .take i p, G => decide (i < ops.size) && !G.getD i false && depsB md ops G i && floatsB ops i && planB md ops p (G.setIfInBounds i true)
  | .fork i snk p rest, G => ((List.range ops.size).all fun j => G.getD j false || !depsB md ops G j || (i :: rest.heads).contains j) &&
      (decide (i < ops.size) && !G.getD i false && depsB md ops G i) && (!snk || (List.range ops.size).all fun j => !G.getD j false || (List.range ops.size).any fun k => (G.getD k false || k == i) && waitsB md ops k j) &&
      planB md ops p (G.setIfInBounds i true) && chainB md ops rest G
  | .nofork, _ => false
def chainB (md : Region.Mode) (ops : Array Oper) : Plan → Array Bool → Bool
  | .fork i snk p rest, G => (decide (i < ops.size) && !G.getD i false && depsB md ops G i) && (!snk || (List.range ops.size).all fun j => !G.getD j false || (List.range ops.size).any fun k => (G.getD k false || k == i) && waitsB md ops k j) &&
      planB md ops p (G.setIfInBounds i true) && chainB md ops rest G
  | .nofork, _ => true
  | _, _ => false
end
theorem sinkB_spec {G : Array Bool} {i : Nat} {snk : Bool} (hG : G.size = ops.size)
    (h : (!snk || (List.range ops.size).all fun j => !G.getD j false || (List.range ops.size).any fun k => (G.getD k false || k == i) && waitsB md ops k j) = true) :
    snk = true → ∀ j, G.getD j false = true → ∃ k, With (fun k => G.getD k false = true) i k ∧ WaitsOn md ops k j := by
  intro hs j hj
  rw [hs, Bool.not_true, Bool.false_or, List.all_eq_true] at h
  have hjl : j < ops.size := by
    rcases Nat.lt_or_ge j G.size with hh | hh
    · omega
    · rw [Array.getD_eq_getD_getElem?, Array.getElem?_eq_none hh] at hj; cases hj
  have := h j (List.mem_range.2 hjl)
  simp only [hj, Bool.not_true, Bool.false_or, List.any_eq_true, Bool.and_eq_true, Bool.or_eq_true, beq_iff_eq] at this
  obtain ⟨k, _, hk, hw⟩ := this
  exact ⟨k, hk, waitsB_spec hw⟩
theorem planB_spec : ∀ (p : Plan), (∀ G : Array Bool, G.size = ops.size → planB md ops p G = true → PlanOK md ops p (fun k => G.getD k false = true)) ∧
    (∀ G : Array Bool, G.size = ops.size → chainB md ops p G = true → ChainOK md ops p (fun k => G.getD k false = true)) := by
  intro p
  induction p with
  | done =>
    refine ⟨fun G hG h => ?_, fun G _ h => by simp [chainB] at h⟩
    intro j hj
    simp only [planB, List.all_eq_true, List.mem_range] at h
    exact h j hj
  | nofork => exact ⟨fun G _ h => by simp [planB] at h, fun G _ _ => trivial⟩
  | take i p ih =>
    refine ⟨fun G hG h => ?_, fun G _ h => by simp [chainB] at h⟩
    simp only [planB, Bool.and_eq_true, decide_eq_true_eq, Bool.not_eq_true'] at h
    obtain ⟨⟨⟨⟨h0, h1⟩, h2⟩, h3⟩, h4⟩ := h
    exact ⟨⟨h0, by simp [h1], depsB_spec.1 h2, floatsB_spec h3⟩, PlanOK.congr (fun j => getD_setIf (by omega)) (ih.1 _ (by simpa using hG) h4)⟩
  | fork i snk p rest ihp ihr =>
    refine ⟨fun G hG h => ?_, fun G hG h => ?_⟩
    · simp only [planB, Bool.and_eq_true, decide_eq_true_eq, Bool.not_eq_true'] at h
      obtain ⟨⟨⟨⟨ha, ⟨h0, h1⟩, h2⟩, h3⟩, h4⟩, h5⟩ := h
      refine ⟨fun j hj hn hd => ?_, ⟨⟨h0, by simp [h1], depsB_spec.1 h2⟩, sinkB_spec hG h3, PlanOK.congr (fun j => getD_setIf (by omega)) (ihp.1 _ (by simpa using hG) h4)⟩, ihr.2 G hG h5⟩
      have := List.all_eq_true.1 ha j (List.mem_range.2 hj)
      have hn' : G.getD j false = false := by simpa using hn
      rw [depsB_spec.2 hd, hn'] at this
      simpa using this
    · simp only [chainB, Bool.and_eq_true, decide_eq_true_eq, Bool.not_eq_true'] at h
      obtain ⟨⟨⟨⟨⟨h0, h1⟩, h2⟩, h3⟩, h4⟩, h5⟩ := h
      exact ⟨⟨⟨h0, by simp [h1], depsB_spec.1 h2⟩, sinkB_spec hG h3, PlanOK.congr (fun j => getD_setIf (by omega)) (ihp.1 _ (by simpa using hG) h4)⟩, ihr.2 G hG h5⟩

def planOKB (md : Region.Mode) (ops : Array Oper) (p : Plan) : Bool := Region.noSelect ops && pairsB md ops && planB md ops p (Array.replicate ops.size false)
/-- A REGION THAT DRAWS, WALKED BY A PLAN. -/
theorem wp_plan {id : Nat} {a : Act} {w : World} {l : List Oper} (p : Plan) (hm : P.follows .mixedOrders = true) (hB : planOKB .any l.toArray p = true)
    (h : wpPlan P l.toArray Q p a w.drew) : (Code.region id l.toArray true).wp P Q a w := by
  simp only [planOKB, Bool.and_eq_true] at hB
  obtain ⟨⟨hsel, hpair⟩, hplan⟩ := hB
  refine wp_region_any hm ?_
  have hrep : ∀ j, (Array.replicate l.toArray.size false).getD j false = false := by
    intro j
    rw [Array.getD_eq_getD_getElem?, Array.getElem?_replicate]
    split <;> rfl
  refine wpAny_of_plan (fun j oj hj cs b => Region.noSelect_spec hsel j oj cs b hj) (pairsB_spec hpair) _ _ [] p a a _ ?_ ⟨by simp, ?_, by simp, by simp, by simp, trivial, ?_, .nil _, h⟩
  · unfold unl
    rw [Array.toList_replicate, List.count_replicate]
    simp
  · intro j hj
    rw [hrep] at hj; cases hj
  · exact PlanOK.congr (fun j => by simp) ((planB_spec p).1 _ (by simp) hplan)

section
variable {a : Act} {w : World} {i : Nat} {p rest : Plan} {o : Oper}
theorem wpPlan_done (h : Q .normal a w) : wpPlan P ops Q .done a w := h
theorem wpPlan_take (ho : ops[i]? = some o) (hw : Region.wanted o (yielded ops a.tmps) = true) (hok : floatOK P o.op a.eval = true)
    (h : ∀ K : Act → World → Prop, (∀ a w, wpPlan P ops Q p a w → K a w) → o.wp P a w K (fun _ _ _ => False)) : wpPlan P ops Q (.take i p) a w := by
  simp only [wpPlan, ho, if_pos hw]
  exact ⟨hok, h _ fun _ _ h => h⟩
theorem wpPlan_skip (ho : ops[i]? = some o) (hw : Region.wanted o (yielded ops a.tmps) = false) (h : wpPlan P ops Q p (a.put o.dst undef) w) : wpPlan P ops Q (.take i p) a w := by
  simp only [wpPlan, ho, hw]
  exact h
theorem wpPlan_sink (ho : ops[i]? = some o) (hw : Region.wanted o (yielded ops a.tmps) = true)
    (h : ∀ K : Act → World → Prop, (∀ a w, wpPlan P ops Q p a w → K a w) → o.wp P a w K (fun _ _ _ => False)) (hr : wpPlan P ops Q rest a w) : wpPlan P ops Q (.fork i true p rest) a w := by
  simp only [wpPlan, ho, if_pos hw]
  exact ⟨h _ fun _ _ h => ⟨.inl trivial, h⟩, hr⟩
theorem wpPlan_act {snk : Bool} (ho : ops[i]? = some o) (hw : Region.wanted o (yielded ops a.tmps) = true)
    (h : ∀ K : Act → World → Prop, (∀ a' w', (Agree w w' ∧ wpPlan P ops Q p a' w') → K a' w') → o.wp P a w K (fun _ _ _ => False)) (hr : wpPlan P ops Q rest a w) : wpPlan P ops Q (.fork i snk p rest) a w := by
  simp only [wpPlan, ho, if_pos hw]
  exact ⟨h _ fun _ _ h => ⟨.inr h.1, h.2⟩, hr⟩
theorem wpPlan_pass {snk : Bool} (ho : ops[i]? = some o) (hw : Region.wanted o (yielded ops a.tmps) = false) (h : wpPlan P ops Q p (a.put o.dst undef) w) (hr : wpPlan P ops Q rest a w) : wpPlan P ops Q (.fork i snk p rest) a w := by
  simp only [wpPlan, ho, hw]
  exact ⟨h, hr⟩
end
#print axioms wp_plan
end Go.Proofs.Ytohmmgggaegbbaa
/- A drawn region walked in one order, where what is read stays as it is (a property S of worlds). No condition. -/
namespace Go.Proofs.Ytohmmgggaegbbaa.St
set_option linter.unusedVariables false
set_option linter.unusedSimpArgs false
open Go Go.Proofs.Ytohmmgggaegbbaa
section
variable {P : Program} {ops : Array Oper} {md : Region.Mode} {S : World → Prop} {sink : Nat → Bool} {Q : Exit → Act → World → Prop}
def wpOne (P : Program) (ops : Array Oper) : (World → Prop) → (Nat → Bool) → (Exit → Act → World → Prop) → List Nat → Act → World → Prop
  | _, _, Q, [], a, w => Q .normal a w
  | S, sink, Q, i :: rest, a, w =>
    match ops[i]? with
    | none => False
    | some o =>
      if Region.wanted o (yielded ops a.tmps) then
        if floats o.op then ∃ v, (∀ w', S w' → (execOp a.eval o).run P w' = .ok (.value v) w') ∧ wpOne P ops S sink Q rest (a.put o.dst v) w
        else o.wp P a w (fun a' w' => ∃ S' : World → Prop, ((∀ u, S' u → S u) ∨ sink i = true) ∧ S' w' ∧ wpOne P ops S' sink Q rest a' w') (fun _ _ _ => False)
      else wpOne P ops S sink Q rest (a.put o.dst undef) w
/-- Operations that neither read nor write memory, and are listed. -/
def pureOp : Op → Bool
  | .move _ | .assign _ | .extract _ _ => true
  | _ => false
def PureAt (ops : Array Oper) (pl : Nat → Bool) (j : Nat) : Prop := pl j = true ∧ ∃ o, ops[j]? = some o ∧ pureOp o.op = true
def SinkOK (md : Region.Mode) (ops : Array Oper) (sink pl : Nat → Bool) : (Nat → Prop) → List Nat → Prop
  | _, [] => True
  | G, i :: l => (FloatsAt ops i ∨ (sink i = true → ∀ j, G j → ¬ FloatsAt ops j ∨ PureAt ops pl j ∨ ∃ k, With G i k ∧ ¬ PureAt ops pl k ∧ WaitsOn md ops k j)) ∧ SinkOK md ops sink pl (With G i) l
theorem SinkOK.congr {pl : Nat → Bool} {l : List Nat} : ∀ {G G' : Nat → Prop}, (∀ j, G j ↔ G' j) → SinkOK md ops sink pl G l → SinkOK md ops sink pl G' l := by
  intro G G' h
  have : G = G' := funext fun j => propext (h j)
  rw [this]; exact id
theorem SinkOK.pull {pl : Nat → Bool} {l : List Nat} {i : Nat} : ∀ (pre : List Nat) {G : Nat → Prop}, (∀ j ∈ pre, FloatsAt ops j) → SinkOK md ops sink pl G (pre ++ i :: l) → SinkOK md ops sink pl (With G i) (pre ++ l) := by
  intro pre
  induction pre with
  | nil => intro G _ h; exact h.2
  | cons p pre ih =>
    intro G hf h
    refine ⟨.inl (hf p List.mem_cons_self), ?_⟩
    refine SinkOK.congr (fun j => ?_) (ih (fun j hj => hf j (List.mem_cons_of_mem _ hj)) h.2)
    simp only [With, or_assoc, or_comm (a := j = p)]
theorem SinkOK.at {pl : Nat → Bool} {l : List Nat} {i : Nat} : ∀ (pre : List Nat) {G : Nat → Prop}, SinkOK md ops sink pl G (pre ++ i :: l) → SinkOK md ops sink pl (fun j => G j ∨ j ∈ pre) (i :: l) := by
  intro pre
  induction pre with
  | nil => intro G h; exact SinkOK.congr (fun j => by simp) h
  | cons p pre ih =>
    intro G h
    exact SinkOK.congr (fun j => by simp [With, or_assoc]) (ih h.2)
def RunsNow (P : Program) (ops : Array Oper) (S : World → Prop) (o : Oper) (a : Act) (v : Value) : Prop :=
  (Region.wanted o (yielded ops a.tmps) = true ∧ ∀ w', S w' → (execOp a.eval o).run P w' = .ok (.value v) w') ∨ (Region.wanted o (yielded ops a.tmps) = false ∧ v = undef)
inductive PendRun (P : Program) (ops : Array Oper) (S : World → Prop) : Act → List (Nat × Value) → Act → Prop
  | nil (a : Act) : PendRun P ops S a [] a
  | cons {a ag : Act} {i : Nat} {v : Value} {o : Oper} {l : List (Nat × Value)} (ho : ops[i]? = some o) (hr : RunsNow P ops S o a v) (h : PendRun P ops S (a.put o.dst v) l ag) : PendRun P ops S a ((i, v) :: l) ag
theorem pure_run {S S' : World → Prop} {o : Oper} {ρ : Operand → Value} {v : Value} (hp : pureOp o.op = true) (hS : ∃ w, S w) (h : ∀ w', S w' → (execOp ρ o).run P w' = .ok (.value v) w') : ∀ w', (execOp ρ o).run P w' = .ok (.value v) w' := by
  obtain ⟨w, hw⟩ := hS
  have h1 := h w hw
  intro w'
  rcases o with ⟨d, op, ty, pos, aft, g⟩
  cases op <;> simp only [pureOp, Bool.false_eq_true] at hp
  case move x =>
    simp only [execOp, Sem.run_pure, Result.ok.injEq, and_true] at h1 ⊢
    exact h1
  case assign x =>
    simp only [execOp, Sem.run_pure, Result.ok.injEq, and_true] at h1 ⊢
    exact h1
  case extract x i =>
    have e : ∀ w, (execOp ρ ⟨d, .extract x i, ty, pos, aft, g⟩).run P w = ((Instr.extract (ρ x) i).run P w).andThen fun v w => .ok (.value v) w := fun w => by
      show ((do let v ← Instr.extract (ρ x) i; pure (.value v)) : Sem Next).run P w = _
      rw [Sem.run_bind]; rfl
    rw [e] at h1 ⊢
    unfold Instr.extract at h1 ⊢
    cases hx : ρ x <;> simp only [hx] at h1 ⊢
    case tuple vs =>
      cases hv : vs[i]? with
      | none => simp only [hv] at h1; cases h1
      | some u =>
        simp only [hv, Sem.run_pure, Result.andThen_ok, Result.ok.injEq, and_true] at h1 ⊢
        exact h1
    all_goals cases h1
theorem RunsNow.swap {S S' : World → Prop} {o : Oper} {a : Act} {v : Value} (hp : pureOp o.op = true) (hS : ∃ w, S w) (h : RunsNow P ops S o a v) : RunsNow P ops S' o a v :=
  h.imp (fun h => ⟨h.1, fun w' _ => pure_run (S' := S') hp hS h.2 w'⟩) id
theorem PendRun.mono {S S' : World → Prop} (hi : ∀ u, S' u → S u) : ∀ {l : List (Nat × Value)} {a ag : Act}, PendRun P ops S a l ag → PendRun P ops S' a l ag := by
  intro l a ag h
  induction h with
  | nil a => exact .nil a
  | @cons a ag i v o l ho hr h ih => exact .cons ho (hr.imp (fun h => ⟨h.1, fun w' hw' => h.2 w' (hi w' hw')⟩) id) ih
theorem PendRun.swap {S S' : World → Prop} {pl : Nat → Bool} (hS : ∃ w, S w) : ∀ {l : List (Nat × Value)} {a ag : Act}, PendRun P ops S a l ag → (∀ p ∈ l, PureAt ops pl p.1) → PendRun P ops S' a l ag := by
  intro l a ag h
  induction h with
  | nil a => intro _; exact .nil a
  | @cons a ag i v o l ho hr h ih =>
    intro hp
    obtain ⟨_, o', ho', hpo⟩ := hp (i, v) List.mem_cons_self
    rw [ho] at ho'; cases ho'
    exact .cons ho (hr.swap hpo hS) (ih fun p hpp => hp p (List.mem_cons_of_mem _ hpp))
theorem RunsNow.put {oi oj : Oper} {a : Act} {v u : Value} (hap : oi.apart ops oj = true) (hs : NoSel oj) (h : RunsNow P ops S oj (a.put oi.dst v) u) : RunsNow P ops S oj a u := by
  obtain ⟨h1, _, _⟩ := Oper.apart_spec hap
  unfold RunsNow at *
  rw [wanted_put oj a oi.dst v h1, execOp_put oj hs a oi.dst v h1] at h
  exact h
theorem RunsNow.put' {oi oj : Oper} {a : Act} {v u : Value} (hap : oi.apart ops oj = true) (hs : NoSel oj) (h : RunsNow P ops S oj a u) : RunsNow P ops S oj (a.put oi.dst v) u := by
  obtain ⟨h1, _, _⟩ := Oper.apart_spec hap
  unfold RunsNow at *
  rw [wanted_put oj a oi.dst v h1, execOp_put oj hs a oi.dst v h1]
  exact h
theorem PendRun.pull {i : Nat} {o : Oper} {v : Value} (hi : ops[i]? = some o) (hs : ∀ (j : Nat) (oj : Oper), ops[j]? = some oj → NoSel oj) {post : List (Nat × Value)} :
    ∀ (pre : List (Nat × Value)) {a ag : Act}, (∀ p ∈ pre, ∀ oj, ops[p.1]? = some oj → oj.apart ops o = true) → PendRun P ops S a (pre ++ (i, v) :: post) ag →
      RunsNow P ops S o a v ∧ PendRun P ops S (a.put o.dst v) (pre ++ post) ag := by
  intro pre
  induction pre with
  | nil =>
    intro a ag _ h
    cases h with
    | cons ho hr h => rw [hi] at ho; cases ho; exact ⟨hr, h⟩
  | cons p pre ih =>
    intro a ag hap h
    cases h with
    | @cons _ _ j u oj _ ho hr h =>
      have hj := hap (j, u) (List.mem_cons_self) oj ho
      obtain ⟨h1, h2⟩ := ih (fun q hq => hap q (List.mem_cons_of_mem _ hq)) h
      refine ⟨h1.put hj (hs i o hi), ?_⟩
      refine .cons ho (hr.put' (apart_symm hj) (hs j oj ho)) ?_
      rw [← Act.put_comm a u v (Oper.apart_spec hj).2.1]
      exact h2

theorem PendRun.push {o : Oper} (hs : ∀ (j : Nat) (oj : Oper), ops[j]? = some oj → NoSel oj) (ho : NoSel o) {l : List (Nat × Value)} {a ag : Act} (h : PendRun P ops S a l ag)
    (hap : ∀ p ∈ l, ∀ oj, ops[p.1]? = some oj → oj.apart ops o = true) :
    execOp ag.eval o = execOp a.eval o ∧ Region.wanted o (yielded ops ag.tmps) = Region.wanted o (yielded ops a.tmps) ∧ ∀ u, PendRun P ops S (a.put o.dst u) l (ag.put o.dst u) := by
  induction h with
  | nil a => exact ⟨rfl, rfl, fun u => .nil _⟩
  | @cons a ag j v oj l hoj hr h ih =>
    have hj := hap (j, v) (List.mem_cons_self) oj hoj
    obtain ⟨h1, h2, h3⟩ := Oper.apart_spec hj
    obtain ⟨i1, i2, i3⟩ := ih (fun q hq => hap q (List.mem_cons_of_mem _ hq))
    refine ⟨i1.trans (execOp_put o ho a _ _ h1), i2.trans (wanted_put o a _ _ h1), fun u => ?_⟩
    refine .cons hoj (hr.put' (apart_symm hj) (hs j oj hoj)) ?_
    rw [← Act.put_comm a v u h2]
    exact i3 u
theorem PendRun.snoc {l : List (Nat × Value)} {a ag : Act} {c : Nat} {oc : Oper} {v : Value} (h : PendRun P ops S a l ag) (hoc : ops[c]? = some oc) (hr : RunsNow P ops S oc ag v) :
    PendRun P ops S a (l ++ [(c, v)]) (ag.put oc.dst v) := by
  induction h with
  | nil a => exact .cons hoc hr (.nil _)
  | cons ho hr' _ ih => exact .cons ho hr' (ih hr)
theorem PendRun.defers {l : List (Nat × Value)} {a ag : Act} (h : PendRun P ops S a l ag) (d : Deferred) :
    PendRun P ops S { a with defers := d :: a.defers } l { ag with defers := d :: ag.defers } := by
  induction h with
  | nil a => exact .nil _
  | @cons a ag j v oj l hoj hr h ih =>
    refine .cons hoj hr ?_
    rw [← Act.put_defers]
    exact ih

theorem RunsNow.wpOp {w : World} (hSw : S w) {i : Nat} {o : Oper} {a : Act} {v : Value} (hi : ops[i]? = some o) (h : RunsNow P ops S o a v) {K : Act → World → Prop} (hk : K (a.put o.dst v) w) : wpOp P ops Q i K a w := by
  unfold Go.wpOp
  simp only [hi]
  rcases h with ⟨hw, hr⟩ | ⟨hw, rfl⟩
  · rw [if_pos hw]
    left
    unfold Oper.wp
    rw [hr w hSw]
    exact hk
  · rw [hw]
    exact hk

/-- All that is known while the order goes its own way. -/
structure OneInv (P : Program) (md : Region.Mode) (ops : Array Oper) (S : World → Prop) (sink pl : Nat → Bool) (Q : Exit → Act → World → Prop) (listed : Array Bool) (pend : List (Nat × Value)) (rem : List Nat) (a ag : Act) (w : World) : Prop where
  size : listed.size = ops.size
  closed : ∀ j, listed.getD j false = true → DepsIn md ops (fun k => listed.getD k false = true) j
  parts : ∀ j, j < ops.size → listed.getD j false = true ∨ j ∈ pend.map (·.1) ++ rem
  apart : ∀ j ∈ pend.map (·.1) ++ rem, j < ops.size ∧ listed.getD j false = false
  nodup : (pend.map (·.1) ++ rem).Nodup
  fl : ∀ j ∈ pend.map (·.1), FloatsAt ops j
  ord : OrdOK md ops (fun _ => false) (fun k => listed.getD k false = true) (pend.map (·.1) ++ rem)
  snk : SinkOK md ops sink pl (fun k => listed.getD k false = true) (pend.map (·.1) ++ rem)
  run : PendRun P ops S a pend ag
  st : (pend = [] ∧ rem = []) ∨ S w
  wp : wpOne P ops S sink Q rem ag w

theorem OneInv.apartPre {listed : Array Bool} {pre : List (Nat × Value)} {l : List Nat} {i : Nat} {o : Oper} (hp : PairsOK md ops) (hi : ops[i]? = some o)
    (hd : DepsIn md ops (fun k => listed.getD k false = true) i) (hun : listed.getD i false = false) (hpre : ∀ j ∈ pre.map (·.1), listed.getD j false = false) (hn : i ∉ pre.map (·.1))
    (hord : OrdOK md ops (fun _ => false) (fun k => listed.getD k false = true) (pre.map (·.1) ++ i :: l)) : ∀ p ∈ pre, ∀ oj, ops[p.1]? = some oj → oj.apart ops o = true := by
  intro p hpp oj hoj
  have hpm : p.1 ∈ pre.map (·.1) := List.mem_map_of_mem hpp
  have hne : p.1 ≠ i := fun e => hn (e ▸ hpm)
  rcases hp p.1 i oj o hoj hi hne with h | h | h
  · exact h
  · exact absurd h (hord.noWait _ (by simp [hun]) hn p.1 hpm)
  · obtain ⟨o', ho', e, he, hb, heq⟩ := h
    have := hd o' ho' e he hb
    rw [heq, hpre _ hpm] at this
    cases this

theorem wpAny_of_one {pl : Nat → Bool} (hs : ∀ (j : Nat) (oj : Oper), ops[j]? = some oj → NoSel oj) (hp : PairsOK md ops) :
    ∀ (fuel : Nat) (S : World → Prop) (listed : Array Bool) (pend : List (Nat × Value)) (rem : List Nat) (a ag : Act) (w : World),
      pend.length + rem.length ≤ fuel → OneInv P md ops S sink pl Q listed pend rem a ag w → wpAny P md ops Q fuel listed a w := by
  have stop : ∀ (S : World → Prop) (listed : Array Bool) (pend : List (Nat × Value)) (rem : List Nat) (a ag : Act) (w : World), OneInv P md ops S sink pl Q listed pend rem a ag w → Region.ready md ops listed = [] → Q .normal a w := by
    intro S listed pend rem a ag w I hr
    cases hl : pend.map (·.1) ++ rem with
    | nil =>
      obtain ⟨h1, h2⟩ := List.append_eq_nil_iff.1 hl
      have h1' : pend = [] := by simpa using h1
      subst h1'; subst h2
      have hrun := I.run
      cases hrun
      exact I.wp
    | cons i l =>
      have ha := I.apart i (by rw [hl]; exact List.mem_cons_self)
      have ho := I.ord
      rw [hl] at ho
      have : i ∈ Region.ready md ops listed := (ready_iff I.size).2 ⟨ha.1, ha.2, ho.1⟩
      rw [hr] at this
      cases this
  intro fuel
  induction fuel with
  | zero =>
    intro S listed pend rem a ag w hlen I
    have hp0 : pend = [] := List.eq_nil_of_length_eq_zero (by omega)
    have hr0 : rem = [] := List.eq_nil_of_length_eq_zero (by omega)
    subst hp0; subst hr0
    have hready : Region.ready md ops listed = [] := by
      cases h : Region.ready md ops listed with
      | nil => rfl
      | cons j l =>
        have hj : j ∈ Region.ready md ops listed := by rw [h]; exact List.mem_cons_self
        obtain ⟨hlt, h0, _⟩ := (ready_iff I.size).1 hj
        rcases I.parts j hlt with h1 | h1
        · rw [h0] at h1; cases h1
        · cases h1
    exact ⟨hready, stop _ _ _ _ _ _ _ I hready⟩
  | succ fuel ih =>
    intro S listed pend rem a ag w hlen I
    refine ⟨stop _ _ _ _ _ _ _ I, ?_⟩
    intro i hi
    obtain ⟨hlt, hun, hd⟩ := (ready_iff I.size).1 hi
    obtain ⟨o, ho⟩ : ∃ o, ops[i]? = some o := ⟨_, Array.getElem?_eq_getElem hlt⟩
    -- an operation that is pending comes up
    have hpull : ∀ (pend : List (Nat × Value)) (rem : List Nat) (ag : Act), pend.length + rem.length ≤ fuel + 1 → OneInv P md ops S sink pl Q listed pend rem a ag w → i ∈ pend.map (·.1) →
        wpOp P ops Q i (wpAny P md ops Q fuel (listed.setIfInBounds i true)) a w := by
      intro pend rem ag hlen I hm
      obtain ⟨⟨i', v⟩, hmem, rfl⟩ := List.mem_map.1 hm
      obtain ⟨pre, post, rfl⟩ := List.append_of_mem hmem
      dsimp only at *
      have hord := I.ord
      have hnd := I.nodup
      simp only [List.map_append, List.map_cons, List.append_assoc, List.cons_append] at hord hnd
      have hn : i' ∉ pre.map (·.1) := by
        intro hh
        have := List.nodup_append.1 hnd
        exact this.2.2 i' hh i' List.mem_cons_self rfl
      have hpre : ∀ j ∈ pre.map (·.1), listed.getD j false = false := fun j hj => (I.apart j (by simp only [List.map_append, List.append_assoc]; exact List.mem_append_left _ hj)).2
      obtain ⟨h1, h2⟩ := PendRun.pull ho hs pre (OneInv.apartPre hp ho hd hun hpre hn hord) I.run
      have hSw : S w := I.st.resolve_left (by rintro ⟨h, _⟩; simp at h)
      refine h1.wpOp hSw ho ?_
      refine ih S _ (pre ++ post) rem _ ag w (by simp at hlen ⊢; omega) ?_
      have hsub : ∀ j, j ∈ (pre ++ post).map (·.1) ++ rem → j ∈ (pre ++ (i', v) :: post).map (·.1) ++ rem ∧ j ≠ i' := by
        intro j hj
        simp only [List.map_append, List.map_cons, List.append_assoc, List.cons_append] at hj ⊢
        refine ⟨?_, ?_⟩
        · rcases List.mem_append.1 hj with h | h
          · exact List.mem_append_left _ h
          · exact List.mem_append_right _ (List.mem_cons_of_mem _ h)
        · rintro rfl
          have hnd2 := List.nodup_append.1 hnd
          rcases List.mem_append.1 hj with h | h
          · exact hn h
          · exact (List.nodup_cons.1 hnd2.2.1).1 h
      refine ⟨by simpa using I.size, closed_set I.size hlt I.closed hd, ?_, ?_, ?_, ?_, ?_, ?_, h2, .inr hSw, I.wp⟩
      · intro j hj
        rcases I.parts j hj with h | h
        · exact .inl ((getD_setIf (by have := I.size; omega)).2 (.inl h))
        · by_cases hji : j = i'
          · exact .inl ((getD_setIf (by have := I.size; omega)).2 (.inr hji))
          · right
            simp only [List.map_append, List.map_cons, List.append_assoc, List.cons_append] at h ⊢
            rcases List.mem_append.1 h with h | h
            · exact List.mem_append_left _ h
            · rcases List.mem_cons.1 h with h | h
              · exact absurd h hji
              · exact List.mem_append_right _ h
      · intro j hj
        obtain ⟨h1, h2⟩ := hsub j hj
        refine ⟨(I.apart j h1).1, ?_⟩
        rw [getD_set_ne false (Ne.symm h2)]
        exact (I.apart j h1).2
      · simp only [List.map_append, List.append_assoc]
        exact (List.nodup_cons.1 ((List.Perm.nodup_iff List.perm_middle).1 hnd)).2
      · intro j hj
        refine I.fl j ?_
        simp only [List.map_append, List.map_cons] at hj ⊢
        rcases List.mem_append.1 hj with h | h
        · exact List.mem_append_left _ h
        · exact List.mem_append_right _ (List.mem_cons_of_mem _ h)
      · have := OrdOK.pull (pre.map (·.1)) (fun j hj => I.fl j (by simp only [List.map_append]; exact List.mem_append_left _ hj)) hd hord
        simp only [List.map_append, List.append_assoc]
        exact OrdOK.congr (fun j => (getD_setIf (by have := I.size; omega)).symm) this
      · have hsn := I.snk
        simp only [List.map_append, List.map_cons, List.append_assoc, List.cons_append] at hsn
        have := SinkOK.pull (pre.map (·.1)) (fun j hj => I.fl j (by simp only [List.map_append]; exact List.mem_append_left _ hj)) hsn
        simp only [List.map_append, List.append_assoc]
        exact SinkOK.congr (fun j => (getD_setIf (by have := I.size; omega)).symm) this
    -- on along the order till i has been met
    have hgo : ∀ (rem : List Nat) (pend : List (Nat × Value)) (ag : Act), pend.length + rem.length ≤ fuel + 1 → OneInv P md ops S sink pl Q listed pend rem a ag w →
        wpOp P ops Q i (wpAny P md ops Q fuel (listed.setIfInBounds i true)) a w := by
      intro rem
      induction rem with
      | nil =>
        intro pend ag hlen I
        rcases I.parts i hlt with h | h
        · rw [hun] at h; cases h
        · exact hpull pend [] ag hlen I (by simpa using h)
      | cons c rem ihr =>
        intro pend ag hlen I
        have hc := I.apart c (by simp)
        obtain ⟨oc, hoc⟩ : ∃ oc, ops[c]? = some oc := ⟨_, Array.getElem?_eq_getElem hc.1⟩
        have hat := OrdOK.at (pend.map (·.1)) I.ord
        have hwp := I.wp
        simp only [wpOne, hoc] at hwp
        by_cases hfl : floats oc.op = true
        · -- it floats: it joins those that are pending
          have hnext : ∃ v, RunsNow P ops S oc ag v ∧ wpOne P ops S sink Q rem (ag.put oc.dst v) w := by
            by_cases hw : Region.wanted oc (yielded ops ag.tmps) = true
            · rw [if_pos hw, if_pos hfl] at hwp
              obtain ⟨v, h1, h2⟩ := hwp
              exact ⟨v, .inl ⟨hw, h1⟩, h2⟩
            · rw [if_neg hw] at hwp
              exact ⟨undef, .inr ⟨by simpa using hw, rfl⟩, hwp⟩
          obtain ⟨v, hrn, hwp'⟩ := hnext
          have hrun : PendRun P ops S a (pend ++ [(c, v)]) (ag.put oc.dst v) := by
            exact I.run.snoc hoc hrn
          have e : (pend ++ [(c, v)]).map (·.1) ++ rem = pend.map (·.1) ++ c :: rem := by simp
          refine ihr (pend ++ [(c, v)]) (ag.put oc.dst v) (by simp at hlen ⊢; omega) ⟨I.size, I.closed, ?_, ?_, ?_, ?_, ?_, ?_, hrun, .inr (I.st.resolve_left (by rintro ⟨_, h⟩; cases h)), hwp'⟩
          · rw [e]; exact I.parts
          · rw [e]; exact I.apart
          · rw [e]; exact I.nodup
          · intro j hj
            simp only [List.map_append, List.map_cons, List.map_nil] at hj
            rcases List.mem_append.1 hj with h | h
            · exact I.fl j h
            · simp at h; subst h; intro o' ho'; rw [hoc] at ho'; cases ho'; exact hfl
          · rw [e]; exact I.ord
          · rw [e]; exact I.snk
        · -- it acts
          by_cases him : i ∈ pend.map (·.1)
          · exact hpull pend (c :: rem) ag hlen I him
          · rcases hat.2.1 with hf | ⟨honly, _⟩
            · exact absurd (hf oc hoc) hfl
            have hci : i = c := honly i hlt (by simp only [not_or]; exact ⟨by simp [hun], him⟩) (hd.mono fun j hj => .inl hj)
            subst hci
            rw [ho] at hoc; cases hoc
            have hpre : ∀ j ∈ pend.map (·.1), listed.getD j false = false := fun j hj => (I.apart j (List.mem_append_left _ hj)).2
            have hap := OneInv.apartPre hp ho hd hun hpre him I.ord
            obtain ⟨e1, e2, e3⟩ := PendRun.push hs (hs i o ho) I.run hap
            have hnd := I.nodup
            have hstep : ∀ w', ∀ S' : World → Prop, ((∀ u, S' u → S u) ∨ sink i = true) → S' w' → ∀ a' ag', wpOne P ops S' sink Q rem ag' w' → PendRun P ops S a' pend ag' → wpAny P md ops Q fuel (listed.setIfInBounds i true) a' w' := by
              have hSw : S w := I.st.resolve_left (by rintro ⟨_, h⟩; cases h)
              have hpure : sink i = true → ∀ p ∈ pend, PureAt ops pl p.1 := fun hsa => by
                have hsk := (SinkOK.at (pend.map (·.1)) I.snk).1.resolve_left (fun hf => absurd (hf o ho) hfl) hsa
                have key : ∀ (m : Nat) (pre post : List (Nat × Value)), post.length = m → pend = pre ++ post → ∀ p ∈ post, PureAt ops pl p.1 := by
                  intro m
                  induction m with
                  | zero => intro pre post hl _ p hpp; rw [List.eq_nil_of_length_eq_zero hl] at hpp; cases hpp
                  | succ m ihm =>
                    intro pre post hl he
                    obtain ⟨⟨j, u⟩, post', rfl⟩ : ∃ x xs, post = x :: xs := by
                      cases post with
                      | nil => cases hl
                      | cons x xs => exact ⟨x, xs, rfl⟩
                    have hpost := ihm (pre ++ [(j, u)]) post' (by simpa using hl) (by simpa using he)
                    intro p hpp
                    rcases List.mem_cons.1 hpp with rfl | hpp
                    · have hjm : j ∈ pend.map (·.1) := by rw [he]; simp
                      have hju := hpre j hjm
                      have hord := I.ord
                      rw [he] at hord hnd
                      simp only [List.map_append, List.map_cons, List.append_assoc, List.cons_append] at hord hnd
                      have hjn : j ∉ pre.map (·.1) := fun hh => (List.nodup_append.1 hnd).2.2 j hh j List.mem_cons_self rfl
                      have hself : ¬ WaitsOn md ops j j := by
                        intro hh
                        obtain ⟨o', ho', e, he, hb, heq⟩ := hh
                        have h0 := (OrdOK.at (pre.map (·.1)) hord).1 o' ho' e he hb
                        rw [heq] at h0
                        rcases h0 with h0 | h0
                        · rw [hju] at h0; cases h0
                        · exact hjn h0
                      rcases hsk j (.inr hjm) with hnf | hpu | ⟨k, hk, hkn, hwt⟩
                      · exact absurd (I.fl j hjm) hnf
                      · exact hpu
                      · exfalso
                        have hwt2 := hwt
                        obtain ⟨o', ho', e, he', hb, heq⟩ := hwt
                        rcases hk with (hk | hk) | hk
                        · have := I.closed k hk o' ho' e he' hb
                          rw [heq, hju] at this; cases this
                        · rw [he] at hk
                          simp only [List.map_append, List.map_cons, List.mem_append, List.mem_cons] at hk
                          rcases hk with hk | hk | hk
                          · exact hord.noWait _ (by simp [hju]) hjn k hk hwt2
                          · subst hk; exact hself hwt2
                          · obtain ⟨q, hq, rfl⟩ := List.mem_map.1 hk
                            exact hkn (hpost q hq)
                        · subst hk
                          have := hd o' ho' e he' hb
                          rw [heq, hju] at this; cases this
                    · exact hpost p hpp
                exact key pend.length [] pend rfl rfl
              intro w' S' hSS hSw' a' ag' hw' hrun'
              have hrun2 : PendRun P ops S' a' pend ag' := by
                rcases hSS with h | h
                · exact hrun'.mono h
                · exact hrun'.swap ⟨w, hSw⟩ (hpure h)
              have hSt : (pend = [] ∧ rem = []) ∨ S' w' := .inr hSw'
              refine ih S' _ pend rem a' ag' w' (by simp at hlen ⊢; omega) ?_
              have hsub : ∀ j, j ∈ pend.map (·.1) ++ rem → j ∈ pend.map (·.1) ++ i :: rem ∧ j ≠ i := by
                intro j hj
                refine ⟨?_, ?_⟩
                · rcases List.mem_append.1 hj with h | h
                  · exact List.mem_append_left _ h
                  · exact List.mem_append_right _ (List.mem_cons_of_mem _ h)
                · rintro rfl
                  rcases List.mem_append.1 hj with h | h
                  · exact him h
                  · exact (List.nodup_cons.1 (List.nodup_append.1 hnd).2.1).1 h
              refine ⟨by simpa using I.size, closed_set I.size hlt I.closed hd, ?_, ?_, ?_, I.fl, ?_, ?_, hrun2, hSt, hw'⟩
              · intro j hj
                rcases I.parts j hj with h | h
                · exact .inl ((getD_setIf (by have := I.size; omega)).2 (.inl h))
                · by_cases hji : j = i
                  · exact .inl ((getD_setIf (by have := I.size; omega)).2 (.inr hji))
                  · right
                    rcases List.mem_append.1 h with h | h
                    · exact List.mem_append_left _ h
                    · rcases List.mem_cons.1 h with h | h
                      · exact absurd h hji
                      · exact List.mem_append_right _ h
              · intro j hj
                obtain ⟨h1, h2⟩ := hsub j hj
                refine ⟨(I.apart j h1).1, ?_⟩
                rw [getD_set_ne false (Ne.symm h2)]
                exact (I.apart j h1).2
              · exact (List.nodup_cons.1 ((List.Perm.nodup_iff List.perm_middle).1 hnd)).2
              · exact OrdOK.congr (fun j => (getD_setIf (by have := I.size; omega)).symm) (OrdOK.pull (pend.map (·.1)) I.fl hd I.ord)
              · exact SinkOK.congr (fun j => (getD_setIf (by have := I.size; omega)).symm) (SinkOK.pull (pend.map (·.1)) I.fl I.snk)
            unfold Go.wpOp
            simp only [ho]
            by_cases hw : Region.wanted o (yielded ops ag.tmps) = true
            · rw [if_pos hw, if_neg hfl] at hwp
              rw [← e2, if_pos hw]
              left
              unfold Oper.wp at hwp ⊢
              rw [e1] at hwp
              refine upon_carry (fun v w' hk => ?_) (fun d w' hk => ?_) hwp
              · obtain ⟨S', h1, h2, h3⟩ := hk; exact hstep w' S' h1 h2 _ _ h3 (e3 v)
              · obtain ⟨S', h1, h2, h3⟩ := hk; exact hstep w' S' h1 h2 _ _ h3 ((PendRun.push hs (hs i o ho) (I.run.defers d) hap).2.2 undef)
            · rw [if_neg hw] at hwp
              rw [← e2, if_neg hw]
              exact hstep w S (.inl fun _ h => h) (I.st.resolve_left (by rintro ⟨_, h⟩; cases h)) _ _ hwp (e3 undef)
    exact hgo rem pend ag hlen I

def pureB (ops : Array Oper) (pl : Nat → Bool) (j : Nat) : Bool := pl j && match ops[j]? with
  | some o => pureOp o.op
  | none => false
theorem pureB_iff {pl : Nat → Bool} {j : Nat} : pureB ops pl j = true ↔ PureAt ops pl j := by
  unfold pureB PureAt
  cases h : ops[j]? with
  | none => simp
  | some o => simp
def sinkB (md : Region.Mode) (ops : Array Oper) (sink pl : Nat → Bool) : Array Bool → List Nat → Bool
  | _, [] => true
  | G, i :: l => (floatsB ops i || !sink i || (List.range ops.size).all fun j => !G.getD j false || !floatsB ops j || pureB ops pl j || (List.range ops.size).any fun k => (G.getD k false || k == i) && !pureB ops pl k && waitsB md ops k j) &&
      sinkB md ops sink pl (G.setIfInBounds i true) l
theorem sinkB_spec {pl : Nat → Bool} (l : List Nat) : ∀ (G : Array Bool), G.size = ops.size → (∀ j ∈ l, j < ops.size) → sinkB md ops sink pl G l = true → SinkOK md ops sink pl (fun k => G.getD k false = true) l := by
  induction l with
  | nil => intro G _ _ _; trivial
  | cons i l ih =>
    intro G hG hlt h
    simp only [sinkB, Bool.and_eq_true] at h
    refine ⟨?_, SinkOK.congr (fun j => getD_setIf (by rw [hG]; exact hlt i List.mem_cons_self)) (ih _ (by simpa using hG) (fun j hj => hlt j (List.mem_cons_of_mem _ hj)) h.2)⟩
    have h1 := h.1
    simp only [Bool.or_eq_true, Bool.not_eq_true'] at h1
    rcases h1 with (h1 | h1) | h1
    · exact .inl (floatsB_spec h1)
    · exact .inr fun hs => by rw [h1] at hs; cases hs
    · refine .inr fun _ j hj => ?_
      have hj : G.getD j false = true := hj
      have hjl : j < ops.size := by
        rw [← hG]
        rcases Nat.lt_or_ge j G.size with h | h
        · exact h
        · rw [Array.getD_eq_getD_getElem?, Array.getElem?_eq_none h] at hj; cases hj
      have h2 := List.all_eq_true.1 h1 j (List.mem_range.2 hjl)
      simp only [Bool.or_eq_true, Bool.not_eq_true', hj, Bool.true_eq_false, false_or] at h2
      rcases h2 with (h2 | h2) | h2
      · left
        intro hf
        unfold floatsB at h2
        cases ho : ops[j]? with
        | none => rw [ho] at h2; cases h2
        | some o => simp only [ho, hf o ho] at h2; cases h2
      · exact .inr (.inl (pureB_iff.1 h2))
      · obtain ⟨k, _, hk⟩ := List.any_eq_true.1 h2
        simp only [Bool.and_eq_true, Bool.or_eq_true, beq_iff_eq, Bool.not_eq_true'] at hk
        refine .inr (.inr ⟨k, hk.1.1, fun hp => ?_, waitsB_spec hk.2⟩)
        rw [pureB_iff.2 hp] at hk
        exact absurd hk.1.2 (by decide)
/-- 'snk': those behind which nothing that reads is still to come; 'pl': what may still be to come there. -/
def oneSB (md : Region.Mode) (ops : Array Oper) (snk pl ord : List Nat) : Bool := oneB md ops [] ord && sinkB md ops (fun i => snk.contains i) (fun i => pl.contains i) (Array.replicate ops.size false) ord
theorem wp_one {id : Nat} {a : Act} {w : World} {l : List Oper} (snk pl ord : List Nat) (hm : P.follows .mixedOrders = true) (hB : oneSB .any l.toArray snk pl ord = true) (hS : S w.drew)
    (h : wpOne P l.toArray S (fun i => snk.contains i) Q ord a w.drew) : (Code.region id l.toArray true).wp P Q a w := by
  simp only [oneSB, oneB, Bool.and_eq_true, decide_eq_true_eq] at hB
  obtain ⟨⟨⟨⟨⟨⟨⟨hsel, hpair⟩, hord⟩, hall⟩, hnd⟩, hlt⟩, hlen⟩, hsb⟩ := hB
  refine wp_region_any hm ?_
  refine wpAny_of_one (pl := fun i => pl.contains i) (fun j oj hj cs b => Region.noSelect_spec hsel j oj cs b hj) (pairsB_spec hpair) _ S _ [] ord a a _ ?_ ⟨by simp, ?_, ?_, ?_, by simpa using hnd, by simp, ?_, ?_, .nil _, .inr hS, h⟩
  · simpa using hlen
  · intro j hj
    exfalso
    rw [Array.getD_eq_getD_getElem?, Array.getElem?_replicate] at hj
    split at hj <;> cases hj
  · intro j hj
    right
    have := List.all_eq_true.1 hall j (List.mem_range.2 hj)
    simpa using this
  · intro j hj
    refine ⟨by simpa using List.all_eq_true.1 hlt j (by simpa using hj), ?_⟩
    rw [Array.getD_eq_getD_getElem?, Array.getElem?_replicate]
    split <;> rfl
  · have := ordB_spec _ _ (by simp) hord
    simpa using this
  · exact sinkB_spec _ _ (by simp) (fun j hj => by simpa using List.all_eq_true.1 hlt j hj) hsb


/-! The steps. -/
section
variable {a : Act} {w : World} {i : Nat} {rest : List Nat} {o : Oper} {sink : Nat → Bool}
theorem wpOne_nil (h : Q .normal a w) : wpOne P ops S sink Q [] a w := h
theorem wpOne_float {v : Value} (ho : ops[i]? = some o) (hf : floats o.op = true) (hw : Region.wanted o (yielded ops a.tmps) = true) (hr : ∀ w', S w' → (execOp a.eval o).run P w' = .ok (.value v) w')
    (h : wpOne P ops S sink Q rest (a.put o.dst v) w) : wpOne P ops S sink Q (i :: rest) a w := by
  simp only [wpOne, ho, if_pos hw, if_pos hf]
  exact ⟨v, hr, h⟩
theorem wpOne_skip (ho : ops[i]? = some o) (hw : Region.wanted o (yielded ops a.tmps) = false) (h : wpOne P ops S sink Q rest (a.put o.dst undef) w) : wpOne P ops S sink Q (i :: rest) a w := by
  simp only [wpOne, ho, hw]
  exact h
theorem wpOne_act (ho : ops[i]? = some o) (hf : floats o.op = false) (hw : Region.wanted o (yielded ops a.tmps) = true)
    (h : o.wp P a w (fun a' w' => S w' ∧ wpOne P ops S sink Q rest a' w') (fun _ _ _ => False)) : wpOne P ops S sink Q (i :: rest) a w := by
  simp only [wpOne, ho, if_pos hw, hf]
  exact Oper.wp_mono (fun _ _ h => ⟨S, .inl fun _ h => h, h.1, h.2⟩) h
theorem wpOne_last (ho : ops[i]? = some o) (hf : floats o.op = false) (hs : sink i = true) (hw : Region.wanted o (yielded ops a.tmps) = true)
    (h : o.wp P a w (wpOne P ops S sink Q []) (fun _ _ _ => False)) : wpOne P ops S sink Q [i] a w := by
  simp only [wpOne, ho, if_pos hw, hf]
  exact Oper.wp_mono (fun _ _ h => ⟨fun _ => True, .inr hs, trivial, h⟩) h
theorem wpOne_more (ho : ops[i]? = some o) (hf : floats o.op = false) (hw : Region.wanted o (yielded ops a.tmps) = true)
    (h : o.wp P a w (fun a' w' => ∃ S' : World → Prop, (∀ u, S' u → S u) ∧ S' w' ∧ wpOne P ops S' sink Q rest a' w') (fun _ _ _ => False)) : wpOne P ops S sink Q (i :: rest) a w := by
  simp only [wpOne, ho, if_pos hw, hf]
  exact Oper.wp_mono (fun _ _ ⟨S', h1, h2, h3⟩ => ⟨S', .inl h1, h2, h3⟩) h
theorem wpOne_sink (ho : ops[i]? = some o) (hf : floats o.op = false) (hs : sink i = true) (hw : Region.wanted o (yielded ops a.tmps) = true)
    (h : o.wp P a w (fun a' w' => ∃ S' : World → Prop, S' w' ∧ wpOne P ops S' sink Q rest a' w') (fun _ _ _ => False)) : wpOne P ops S sink Q (i :: rest) a w := by
  simp only [wpOne, ho, if_pos hw, hf]
  exact Oper.wp_mono (fun _ _ ⟨S', h1, h2⟩ => ⟨S', .inr hs, h1, h2⟩) h
end
end
end Go.Proofs.Ytohmmgggaegbbaa.St
/- A drawn region walked by a plan, where what is read stays as it is (a property S of worlds). No condition. -/
namespace Go.Proofs.Ytohmmgggaegbbaa.St
set_option linter.unusedVariables false
set_option linter.unusedSimpArgs false
open Go Go.Proofs.Ytohmmgggaegbbaa
section
variable {P : Program} {ops : Array Oper} {md : Region.Mode} {S : World → Prop} {Q : Exit → Act → World → Prop}
def wpPlan (P : Program) (ops : Array Oper) (S : World → Prop) (Q : Exit → Act → World → Prop) : Plan → Act → World → Prop
  | .done, a, w => Q .normal a w
  | .take i p, a, w =>
    match ops[i]? with
    | none => False
    | some o =>
      if Region.wanted o (yielded ops a.tmps) then ∃ v, (∀ w', S w' → (execOp a.eval o).run P w' = .ok (.value v) w') ∧ wpPlan P ops S Q p (a.put o.dst v) w
      else wpPlan P ops S Q p (a.put o.dst undef) w
  | .fork i sink p rest, a, w =>
    (match ops[i]? with
     | none => False
     | some o =>
       if Region.wanted o (yielded ops a.tmps) then o.wp P a w (fun a' w' => ((sink = true ∧ p = .done) ∨ S w') ∧ wpPlan P ops S Q p a' w') (fun _ _ _ => False)
       else wpPlan P ops S Q p (a.put o.dst undef) w) ∧ wpPlan P ops S Q rest a w
  | .nofork, _, _ => True
/-- One of those that may act first: its own step is among the plan's. -/
theorem chain_get {i : Nat} : ∀ {p : Plan} {G : Nat → Prop} {a : Act} {w : World}, ChainOK md ops p G → i ∈ p.heads → wpPlan P ops S Q p a w →
    ∃ (snk : Bool) (q : Plan), ((i < ops.size ∧ ¬ G i ∧ DepsIn md ops G i) ∧ (snk = true → ∀ j, G j → ∃ k, With G i k ∧ WaitsOn md ops k j) ∧ PlanOK md ops q (With G i)) ∧
      (match ops[i]? with
       | none => False
       | some o =>
         if Region.wanted o (yielded ops a.tmps) then o.wp P a w (fun a' w' => ((snk = true ∧ q = .done) ∨ S w') ∧ wpPlan P ops S Q q a' w') (fun _ _ _ => False)
         else wpPlan P ops S Q q (a.put o.dst undef) w)
  | .fork c snk q rest, G, a, w => fun hc hi hw => by
    rcases List.mem_cons.1 hi with rfl | hi
    · exact ⟨snk, q, hc.1, hw.1⟩
    · exact chain_get hc.2 hi hw.2
  | .done, _, _, _ => fun hc => hc.elim
  | .take _ _, _, _, _ => fun hc => hc.elim
  | .nofork, _, _, _ => fun _ hi => by cases hi

structure PlanInv (P : Program) (md : Region.Mode) (ops : Array Oper) (S : World → Prop) (Q : Exit → Act → World → Prop) (listed : Array Bool) (pend : List (Nat × Value)) (rem : Plan) (a ag : Act) (w : World) : Prop where
  size : listed.size = ops.size
  closed : ∀ j, listed.getD j false = true → DepsIn md ops (fun k => listed.getD k false = true) j
  apart : ∀ j ∈ pend.map (·.1), j < ops.size ∧ listed.getD j false = false
  nodup : (pend.map (·.1)).Nodup
  fl : ∀ j ∈ pend.map (·.1), FloatsAt ops j
  ord : OrdOK md ops (fun _ => false) (fun k => listed.getD k false = true) (pend.map (·.1))
  plan : PlanOK md ops rem (fun k => listed.getD k false = true ∨ k ∈ pend.map (·.1))
  run : PendRun P ops S a pend ag
  st : (pend = [] ∧ rem = .done) ∨ S w
  wp : wpPlan P ops S Q rem ag w

theorem wpAny_of_plan (hs : ∀ (j : Nat) (oj : Oper), ops[j]? = some oj → NoSel oj) (hp : PairsOK md ops) :
    ∀ (fuel : Nat) (listed : Array Bool) (pend : List (Nat × Value)) (rem : Plan) (a ag : Act) (w : World),
      unl listed ≤ fuel → PlanInv P md ops S Q listed pend rem a ag w → wpAny P md ops Q fuel listed a w := by
  -- nothing is ready: all has been done
  have stop : ∀ (rem : Plan) (listed : Array Bool) (pend : List (Nat × Value)) (a ag : Act) (w : World), PlanInv P md ops S Q listed pend rem a ag w → Region.ready md ops listed = [] → Q .normal a w := by
    intro rem listed pend a ag w I hr
    have hnil : pend = [] := by
      cases pend with
      | nil => rfl
      | cons p pend =>
        have ha := I.apart p.1 (by simp)
        have : p.1 ∈ Region.ready md ops listed := (ready_iff I.size).2 ⟨ha.1, ha.2, I.ord.1⟩
        rw [hr] at this
        cases this
    subst hnil
    have hrun := I.run
    cases hrun
    have hpl := I.plan
    cases rem with
    | done => exact I.wp
    | take i p =>
      have h0 := hpl.1
      have : i ∈ Region.ready md ops listed := (ready_iff I.size).2 ⟨h0.1, by simpa using h0.2.1, h0.2.2.1.mono fun j hj => by simpa using hj⟩
      rw [hr] at this; cases this
    | fork i snk p rest =>
      have h0 := hpl.2.1.1
      have : i ∈ Region.ready md ops listed := (ready_iff I.size).2 ⟨h0.1, by simpa using h0.2.1, h0.2.2.mono fun j hj => by simpa using hj⟩
      rw [hr] at this; cases this
    | nofork => exact hpl.elim
  intro fuel
  induction fuel with
  | zero =>
    intro listed pend rem a ag w hlen I
    have hready : Region.ready md ops listed = [] := by
      cases h : Region.ready md ops listed with
      | nil => rfl
      | cons j l =>
        have hj : j ∈ Region.ready md ops listed := by rw [h]; exact List.mem_cons_self
        obtain ⟨hlt, h0, _⟩ := (ready_iff I.size).1 hj
        rw [unl_zero (by omega) (by rw [I.size]; exact hlt)] at h0; cases h0
    exact ⟨hready, stop _ _ _ _ _ _ I hready⟩
  | succ fuel ih =>
    intro listed pend rem a ag w hlen I
    refine ⟨stop _ _ _ _ _ _ I, ?_⟩
    intro i hi
    obtain ⟨hlt, hun, hd⟩ := (ready_iff I.size).1 hi
    obtain ⟨o, ho⟩ : ∃ o, ops[i]? = some o := ⟨_, Array.getElem?_eq_getElem hlt⟩
    have hil : i < listed.size := by rw [I.size]; exact hlt
    have hcnt : unl (listed.setIfInBounds i true) ≤ fuel := by have := unl_set hil hun; omega
    have hpull : ∀ (pend : List (Nat × Value)) (rem : Plan) (ag : Act), PlanInv P md ops S Q listed pend rem a ag w → i ∈ pend.map (·.1) →
        wpOp P ops Q i (wpAny P md ops Q fuel (listed.setIfInBounds i true)) a w := by
      intro pend rem ag I hm
      obtain ⟨⟨i', v⟩, hmem, rfl⟩ := List.mem_map.1 hm
      obtain ⟨pre, post, rfl⟩ := List.append_of_mem hmem
      dsimp only at *
      have hord := I.ord
      have hnd := I.nodup
      simp only [List.map_append, List.map_cons] at hord hnd
      have hn : i' ∉ pre.map (·.1) := by
        intro hh
        have := List.nodup_append.1 hnd
        exact this.2.2 i' hh i' List.mem_cons_self rfl
      have hpre : ∀ j ∈ pre.map (·.1), listed.getD j false = false := fun j hj => (I.apart j (by simp only [List.map_append]; exact List.mem_append_left _ hj)).2
      obtain ⟨h1, h2⟩ := PendRun.pull ho hs pre (apartPre' hp ho hd hpre hn (hord.noWait _ (by simp [hun]) hn)) I.run
      have hSw : S w := I.st.resolve_left (by rintro ⟨h, _⟩; simp at h)
      refine h1.wpOp hSw ho ?_
      refine ih _ (pre ++ post) rem _ ag w hcnt ?_
      have hsub : ∀ j, j ∈ (pre ++ post).map (·.1) → j ∈ (pre ++ (i', v) :: post).map (·.1) ∧ j ≠ i' := by
        intro j hj
        simp only [List.map_append, List.map_cons] at hj ⊢
        refine ⟨?_, ?_⟩
        · rcases List.mem_append.1 hj with h | h
          · exact List.mem_append_left _ h
          · exact List.mem_append_right _ (List.mem_cons_of_mem _ h)
        · rintro rfl
          have hnd2 := List.nodup_append.1 hnd
          rcases List.mem_append.1 hj with h | h
          · exact hn h
          · exact (List.nodup_cons.1 hnd2.2.1).1 h
      refine ⟨by simpa using I.size, closed_set I.size hlt I.closed hd, ?_, ?_, ?_, ?_, ?_, h2, .inr hSw, I.wp⟩
      · intro j hj
        obtain ⟨h1, h2⟩ := hsub j hj
        refine ⟨(I.apart j h1).1, ?_⟩
        rw [getD_set_ne false (Ne.symm h2)]
        exact (I.apart j h1).2
      · simp only [List.map_append]
        exact (List.nodup_cons.1 ((List.Perm.nodup_iff List.perm_middle).1 hnd)).2
      · intro j hj
        exact I.fl j (hsub j hj).1
      · have := OrdOK.pull (pre.map (·.1)) (fun j hj => I.fl j (by simp only [List.map_append]; exact List.mem_append_left _ hj)) hd hord
        simp only [List.map_append]
        exact OrdOK.congr (fun j => (getD_setIf hil).symm) this
      · refine PlanOK.congr (fun j => ?_) I.plan
        rw [getD_setIf hil]
        simp only [With, List.map_append, List.map_cons, List.mem_append, List.mem_cons]
        constructor
        · rintro (h | h | h | h)
          · exact .inl (.inl h)
          · exact .inr (.inl h)
          · exact .inl (.inr h)
          · exact .inr (.inr h)
        · rintro ((h | h) | h | h)
          · exact .inl h
          · exact .inr (.inr (.inl h))
          · exact .inr (.inl h)
          · exact .inr (.inr (.inr h))
    have hact : ∀ (pend : List (Nat × Value)) (rem : Plan) (ag : Act), PlanInv P md ops S Q listed pend rem a ag w → S w → i ∉ pend.map (·.1) →
        (∃ (snk : Bool) (q : Plan), ((i < ops.size ∧ ¬ (listed.getD i false = true ∨ i ∈ pend.map (·.1)) ∧ DepsIn md ops (fun k => listed.getD k false = true ∨ k ∈ pend.map (·.1)) i) ∧
            (snk = true → ∀ j, (listed.getD j false = true ∨ j ∈ pend.map (·.1)) → ∃ k, With (fun k => listed.getD k false = true ∨ k ∈ pend.map (·.1)) i k ∧ WaitsOn md ops k j) ∧
            PlanOK md ops q (With (fun k => listed.getD k false = true ∨ k ∈ pend.map (·.1)) i)) ∧
          (match ops[i]? with
           | none => False
           | some o =>
             if Region.wanted o (yielded ops ag.tmps) then o.wp P ag w (fun a' w' => ((snk = true ∧ q = .done) ∨ S w') ∧ wpPlan P ops S Q q a' w') (fun _ _ _ => False)
             else wpPlan P ops S Q q (ag.put o.dst undef) w)) →
        wpOp P ops Q i (wpAny P md ops Q fuel (listed.setIfInBounds i true)) a w := by
      intro pend rem ag I hSw him ⟨snk, q, ⟨_, hsink, hq⟩, hwp⟩
      simp only [ho] at hwp
      have hpre : ∀ j ∈ pend.map (·.1), listed.getD j false = false := fun j hj => (I.apart j hj).2
      have hap := apartPre' hp ho hd hpre him (I.ord.noWait' _ (by simp [hun]) him)
      obtain ⟨e1, e2, e3⟩ := PendRun.push hs (hs i o ho) I.run hap
      have hnil : snk = true → pend = [] := fun hsa => by
        rcases List.eq_nil_or_concat pend with h | ⟨pre, ⟨j, u⟩, h⟩
        · exact h
        · exfalso
          rw [List.concat_eq_append] at h
          subst h
          have hjm : j ∈ (pre ++ [(j, u)]).map (·.1) := by simp
          have hju := hpre j hjm
          obtain ⟨k, hk, hwt⟩ := hsink hsa j (.inr hjm)
          have hord := I.ord
          have hnd := I.nodup
          simp only [List.map_append, List.map_cons, List.map_nil] at hord hnd
          have hjn : j ∉ pre.map (·.1) := fun hh => (List.nodup_append.1 hnd).2.2 j hh j List.mem_cons_self rfl
          have hself : ¬ WaitsOn md ops j j := by
            intro hh
            obtain ⟨o', ho', e, he, hb, heq⟩ := hh
            have h0 := (OrdOK.at (pre.map (·.1)) hord).1 o' ho' e he hb
            rw [heq] at h0
            rcases h0 with h0 | h0
            · rw [hju] at h0; cases h0
            · exact hjn h0
          obtain ⟨o', ho', e, he, hb, heq⟩ := hwt
          rcases hk with (hk | hk) | hk
          · have := I.closed k hk o' ho' e he hb
            rw [heq, hju] at this; cases this
          · simp only [List.map_append, List.map_cons, List.map_nil, List.mem_append, List.mem_singleton] at hk
            rcases hk with hk | hk
            · exact hord.noWait _ (by simp [hju]) hjn k hk ⟨o', ho', e, he, hb, heq⟩
            · subst hk; exact hself ⟨o', ho', e, he, hb, heq⟩
          · subst hk
            have := hd o' ho' e he hb
            rw [heq, hju] at this; cases this
      have hstep : ∀ w', ((snk = true ∧ q = .done) ∨ S w') → ∀ a' ag', wpPlan P ops S Q q ag' w' → PendRun P ops S a' pend ag' → wpAny P md ops Q fuel (listed.setIfInBounds i true) a' w' := by
        intro w' hsa a' ag' hw' hrun'
        have hrun2 := hrun'
        have hSt : (pend = [] ∧ q = .done) ∨ S w' := hsa.imp (fun h => ⟨hnil h.1, h.2⟩) id
        refine ih _ pend q a' ag' w' hcnt ?_
        have hne : ∀ j ∈ pend.map (·.1), j ≠ i := fun j hj e => him (e ▸ hj)
        refine ⟨by simpa using I.size, closed_set I.size hlt I.closed hd, ?_, I.nodup, I.fl, ?_, ?_, hrun2, hSt, hw'⟩
        · intro j hj
          refine ⟨(I.apart j hj).1, ?_⟩
          rw [getD_set_ne false (Ne.symm (hne j hj))]
          exact (I.apart j hj).2
        · have hup : ∀ (l : List Nat) {G G' : Nat → Prop}, (∀ j, G j → G' j) → (∀ j ∈ l, FloatsAt ops j) → OrdOK md ops (fun _ => false) G l → OrdOK md ops (fun _ => false) G' l := by
            intro l
            induction l with
            | nil => intro G G' _ _ _; trivial
            | cons j l ihl =>
              intro G G' hG hf h
              exact ⟨h.1.mono hG, .inl (hf j List.mem_cons_self), ihl (fun k hk => hk.imp (hG k) id) (fun k hk => hf k (List.mem_cons_of_mem _ hk)) h.2.2⟩
          exact hup _ (fun j hj => (getD_setIf hil).2 (.inl hj)) I.fl I.ord
        · refine PlanOK.congr (fun j => ?_) hq
          rw [getD_setIf hil]
          simp only [With]
          constructor
          · rintro ((h | h) | h)
            · exact .inl (.inl h)
            · exact .inr h
            · exact .inl (.inr h)
          · rintro ((h | h) | h)
            · exact .inl (.inl h)
            · exact .inr h
            · exact .inl (.inr h)
      unfold Go.wpOp
      simp only [ho]
      by_cases hw : Region.wanted o (yielded ops ag.tmps) = true
      · rw [if_pos hw] at hwp
        rw [← e2, if_pos hw]
        left
        unfold Oper.wp at hwp ⊢
        rw [e1] at hwp
        refine upon_carry (fun v w' hk => ?_) (fun d w' hk => ?_) hwp
        · exact hstep w' hk.1 _ _ hk.2 (e3 v)
        · exact hstep w' hk.1 _ _ hk.2 ((PendRun.push hs (hs i o ho) (I.run.defers d) hap).2.2 undef)
      · rw [if_neg hw] at hwp
        rw [← e2, if_neg hw]
        exact hstep w (.inr hSw) _ _ hwp (e3 undef)
    have hgo : ∀ (rem : Plan) (pend : List (Nat × Value)) (ag : Act), PlanInv P md ops S Q listed pend rem a ag w →
        wpOp P ops Q i (wpAny P md ops Q fuel (listed.setIfInBounds i true)) a w := by
      intro rem
      induction rem with
      | done =>
        intro pend ag I
        rcases I.plan i hlt with h | h
        · rw [hun] at h; cases h
        · exact hpull pend .done ag I h
      | nofork => intro pend ag I; exact I.plan.elim
      | take c p ihp =>
        intro pend ag I
        obtain ⟨⟨hc1, hc2, hc3, hc4⟩, hpl⟩ := I.plan
        obtain ⟨oc, hoc⟩ : ∃ oc, ops[c]? = some oc := ⟨_, Array.getElem?_eq_getElem hc1⟩
        have hwp := I.wp
        simp only [wpPlan, hoc] at hwp
        have hnext : ∃ v, RunsNow P ops S oc ag v ∧ wpPlan P ops S Q p (ag.put oc.dst v) w := by
          by_cases hw : Region.wanted oc (yielded ops ag.tmps) = true
          · rw [if_pos hw] at hwp
            obtain ⟨v, h1, h2⟩ := hwp
            exact ⟨v, .inl ⟨hw, h1⟩, h2⟩
          · rw [if_neg hw] at hwp
            exact ⟨undef, .inr ⟨by simpa using hw, rfl⟩, hwp⟩
        obtain ⟨v, hrn, hwp'⟩ := hnext
        have e : (pend ++ [(c, v)]).map (·.1) = pend.map (·.1) ++ [c] := by simp
        refine ihp (pend ++ [(c, v)]) (ag.put oc.dst v) ⟨I.size, I.closed, ?_, ?_, ?_, ?_, ?_, I.run.snoc hoc hrn, .inr (I.st.resolve_left (by rintro ⟨_, h⟩; cases h)), hwp'⟩
        · rw [e]; intro j hj
          rcases List.mem_append.1 hj with h | h
          · exact I.apart j h
          · simp at h; subst h; exact ⟨hc1, by simpa using fun h => hc2 (.inl h)⟩
        · rw [e]
          refine List.nodup_append.2 ⟨I.nodup, by simp, fun x hx y hy => ?_⟩
          simp at hy; subst hy
          intro e; subst e; exact hc2 (.inr hx)
        · rw [e]; intro j hj
          rcases List.mem_append.1 hj with h | h
          · exact I.fl j h
          · simp at h; subst h; exact hc4
        · rw [e]; exact I.ord.snoc _ hc3 hc4
        · refine PlanOK.congr (fun j => ?_) hpl
          rw [e]
          simp only [With, List.mem_append, List.mem_singleton, or_assoc]
      | fork c snk p rest _ _ =>
        intro pend ag I
        by_cases him : i ∈ pend.map (·.1)
        · exact hpull pend _ ag I him
        · refine hact pend _ ag I (I.st.resolve_left (by rintro ⟨_, h⟩; cases h)) him ?_
          obtain ⟨hall, hone, hrest⟩ := I.plan
          have hmem := hall i hlt (by simp only [not_or]; exact ⟨by simp [hun], him⟩) (hd.mono fun j hj => .inl hj)
          have hchain : ChainOK md ops (.fork c snk p rest) (fun k => listed.getD k false = true ∨ k ∈ pend.map (·.1)) := ⟨hone, hrest⟩
          exact chain_get hchain hmem I.wp
    exact hgo rem pend ag I

theorem wp_plan {id : Nat} {a : Act} {w : World} {l : List Oper} (p : Plan) (hm : P.follows .mixedOrders = true) (hB : planOKB .any l.toArray p = true) (hS : S w.drew)
    (h : wpPlan P l.toArray S Q p a w.drew) : (Code.region id l.toArray true).wp P Q a w := by
  simp only [planOKB, Bool.and_eq_true] at hB
  obtain ⟨⟨hsel, hpair⟩, hplan⟩ := hB
  refine wp_region_any hm ?_
  have hrep : ∀ j, (Array.replicate l.toArray.size false).getD j false = false := by
    intro j
    rw [Array.getD_eq_getD_getElem?, Array.getElem?_replicate]
    split <;> rfl
  refine wpAny_of_plan (fun j oj hj cs b => Region.noSelect_spec hsel j oj cs b hj) (pairsB_spec hpair) _ _ [] p a a _ ?_ ⟨by simp, ?_, by simp, by simp, by simp, trivial, ?_, .nil _, .inr hS, h⟩
  · unfold unl
    rw [Array.toList_replicate, List.count_replicate]
    simp
  · intro j hj
    rw [hrep] at hj; cases hj
  · exact PlanOK.congr (fun j => by simp) ((planB_spec p).1 _ (by simp) hplan)

/-- What acts first. -/
def wpFork (P : Program) (ops : Array Oper) (S : World → Prop) (Q : Exit → Act → World → Prop) (i : Nat) (sink : Bool) (p : Plan) (a : Act) (w : World) : Prop :=
  match ops[i]? with
     | none => False
     | some o =>
       if Region.wanted o (yielded ops a.tmps) then o.wp P a w (fun a' w' => ((sink = true ∧ p = .done) ∨ S w') ∧ wpPlan P ops S Q p a' w') (fun _ _ _ => False)
       else wpPlan P ops S Q p (a.put o.dst undef) w
section
variable {a : Act} {w : World} {i : Nat} {p rest : Plan} {o : Oper} {snk : Bool}
theorem wpPlan_fork (h : wpFork P ops S Q i snk p a w) (hr : wpPlan P ops S Q rest a w) : wpPlan P ops S Q (.fork i snk p rest) a w := ⟨h, hr⟩
theorem wpPlan_take {v : Value} (ho : ops[i]? = some o) (hw : Region.wanted o (yielded ops a.tmps) = true) (hr : ∀ w', S w' → (execOp a.eval o).run P w' = .ok (.value v) w') (h : wpPlan P ops S Q p (a.put o.dst v) w) : wpPlan P ops S Q (.take i p) a w := by
  simp only [wpPlan, ho, if_pos hw]
  exact ⟨v, hr, h⟩
theorem wpPlan_skip (ho : ops[i]? = some o) (hw : Region.wanted o (yielded ops a.tmps) = false) (h : wpPlan P ops S Q p (a.put o.dst undef) w) : wpPlan P ops S Q (.take i p) a w := by
  simp only [wpPlan, ho, hw]
  exact h
theorem wpFork_act (ho : ops[i]? = some o) (hw : Region.wanted o (yielded ops a.tmps) = true) (h : o.wp P a w (fun a' w' => S w' ∧ wpPlan P ops S Q p a' w') (fun _ _ _ => False)) : wpFork P ops S Q i snk p a w := by
  simp only [wpFork, ho, if_pos hw]
  exact Oper.wp_mono (fun _ _ h => ⟨.inr h.1, h.2⟩) h
theorem wpFork_last (ho : ops[i]? = some o) (hw : Region.wanted o (yielded ops a.tmps) = true) (h : o.wp P a w (wpPlan P ops S Q .done) (fun _ _ _ => False)) : wpFork P ops S Q i true .done a w := by
  simp only [wpFork, ho, if_pos hw]
  exact Oper.wp_mono (fun _ _ h => ⟨.inl (by simp), h⟩) h
theorem wpFork_pass (ho : ops[i]? = some o) (hw : Region.wanted o (yielded ops a.tmps) = false) (h : wpPlan P ops S Q p (a.put o.dst undef) w) : wpFork P ops S Q i snk p a w := by
  simp only [wpFork, ho, hw]
  exact h
end
end
end Go.Proofs.Ytohmmgggaegbbaa.St
/- Plain laws on numbers, their limbs and their bytes. No condition. -/
namespace Go.Proofs.Ytohmmgggaegbbaa
set_option linter.unusedVariables false
set_option linter.unusedSimpArgs false

/-- How many bits a number has. -/
def bitLen (n : Nat) : Nat := if n = 0 then 0 else Nat.log2 n + 1
theorem bitLen_zero : bitLen 0 = 0 := rfl
theorem lt_bitLen (n : Nat) : n < 2 ^ bitLen n := by
  unfold bitLen
  split
  · subst n; decide
  · exact Nat.lt_log2_self
theorem bitLen_le {n k : Nat} : bitLen n ≤ k ↔ n < 2 ^ k := by
  constructor
  · intro h
    exact Nat.lt_of_lt_of_le (lt_bitLen n) (Nat.pow_le_pow_right (by omega) h)
  · intro h
    unfold bitLen
    split
    · omega
    · rename_i h0
      have := (Nat.log2_lt h0).2 h
      omega
theorem bitLen_eq {n k : Nat} (h1 : n < 2 ^ k) (h2 : k = 0 ∨ 2 ^ (k - 1) ≤ n) : bitLen n = k := by
  have a := bitLen_le.2 h1
  rcases h2 with rfl | h2
  · omega
  · by_cases hk : bitLen n ≤ k - 1
    · have := bitLen_le.1 hk; omega
    · omega
theorem bitLen_pos {n : Nat} (h : 0 < n) : 0 < bitLen n := by
  by_cases h0 : bitLen n ≤ 0
  · have := bitLen_le.1 h0; omega
  · omega
theorem bitLen_mono {a b : Nat} (h : a ≤ b) : bitLen a ≤ bitLen b := bitLen_le.2 (Nat.lt_of_le_of_lt h (lt_bitLen b))

theorem libBitLenAux_eq (f : Nat) : ∀ x, x < 2 ^ f → Lib.bitLenAux f x = bitLen x := by
  induction f with
  | zero => intro x h; have : x = 0 := by simpa using h
            subst this; rfl
  | succ f ih =>
    intro x h
    unfold Lib.bitLenAux
    split
    · rename_i h0; subst h0; rfl
    · rename_i h0
      rw [ih (x / 2) (by rw [Nat.pow_succ] at h; omega)]
      symm
      refine bitLen_eq ?_ (.inr ?_)
      · have := lt_bitLen (x / 2)
        rw [Nat.add_comm, Nat.pow_succ]; omega
      · rw [show 1 + bitLen (x / 2) - 1 = bitLen (x / 2) from by omega]
        by_cases h1 : x / 2 = 0
        · rw [h1]; simp [bitLen_zero]; omega
        · have hp := bitLen_pos (n := x / 2) (by omega)
          have : ¬ bitLen (x / 2) ≤ bitLen (x / 2) - 1 := by omega
          rw [bitLen_le] at this
          have e : 2 ^ bitLen (x / 2) = 2 ^ (bitLen (x / 2) - 1) * 2 := by rw [← Nat.pow_succ]; congr 1; omega
          omega
theorem libBitLen_eq {x : Nat} (h : x < 2 ^ 64) : Lib.bitLen x = bitLen x := libBitLenAux_eq 64 x h

/-- The number of digits to base B, the lowest first. -/
def val (B : Nat) : List Nat → Nat
  | [] => 0
  | x :: l => x + B * val B l
theorem val_append (B : Nat) (a b : List Nat) : val B (a ++ b) = val B a + B ^ a.length * val B b := by
  induction a with
  | nil => simp [val]
  | cons x a ih => simp only [List.cons_append, val, ih, List.length_cons, Nat.pow_succ]; rw [Nat.mul_add, Nat.add_assoc, Nat.mul_comm (B ^ a.length) B, Nat.mul_assoc]
theorem val_lt {B : Nat} {l : List Nat} (hB : 0 < B) (h : ∀ x ∈ l, x < B) : val B l < B ^ l.length := by
  induction l with
  | nil => simp [val]
  | cons x l ih =>
    have h1 := ih fun y hy => h y (List.mem_cons_of_mem _ hy)
    have h2 := h x List.mem_cons_self
    simp only [val, List.length_cons, Nat.pow_succ]
    have h3 : B * (val B l + 1) ≤ B * B ^ l.length := Nat.mul_le_mul_left _ h1
    rw [Nat.mul_add, Nat.mul_one] at h3
    rw [Nat.mul_comm (B ^ l.length) B]
    omega
theorem val_div_mod {B : Nat} {l : List Nat} (hB : 0 < B) (h : ∀ x ∈ l, x < B) : ∀ (i : Nat) (hi : i < l.length), val B l / B ^ i % B = l[i] := by
  induction l with
  | nil => intro i hi; simp at hi
  | cons x l ih =>
    intro i hi
    have h2 := h x List.mem_cons_self
    cases i with
    | zero => simp only [val, Nat.pow_zero, Nat.div_one, List.getElem_cons_zero]; rw [Nat.add_mul_mod_self_left]; exact Nat.mod_eq_of_lt h2
    | succ i =>
      simp only [val, List.getElem_cons_succ]
      rw [Nat.pow_succ, Nat.mul_comm (B ^ i) B, ← Nat.div_div_eq_div_mul, Nat.add_mul_div_left _ _ hB, Nat.div_eq_of_lt h2, Nat.zero_add]
      exact ih (fun y hy => h y (List.mem_cons_of_mem _ hy)) i (by simpa using hi)
theorem val_set (B : Nat) : ∀ (l : List Nat) (i y : Nat) (h : i < l.length), val B (l.set i y) + l[i] * B ^ i = val B l + y * B ^ i := by
  intro l
  induction l with
  | nil => intro i y h; simp at h
  | cons x l ih =>
    intro i y h
    cases i with
    | zero => simp only [List.set_cons_zero, val, List.getElem_cons_zero, Nat.pow_zero]; omega
    | succ i =>
      have hlt : i < l.length := by simpa using h
      have := ih i y hlt
      simp only [List.set_cons_succ, val, List.getElem_cons_succ, Nat.pow_succ]
      have e1 : B * val B (l.set i y) + l[i] * (B ^ i * B) = B * (val B (l.set i y) + l[i] * B ^ i) := by rw [Nat.mul_add]; congr 1; rw [← Nat.mul_assoc, Nat.mul_comm]
      have e2 : B * val B l + y * (B ^ i * B) = B * (val B l + y * B ^ i) := by rw [Nat.mul_add]; congr 1; rw [← Nat.mul_assoc, Nat.mul_comm]
      rw [Nat.add_assoc, e1, this, ← e2, Nat.add_assoc]
theorem val_replicate (B n : Nat) : val B (List.replicate n 0) = 0 := by
  induction n with
  | zero => rfl
  | succ n ih => simp [List.replicate_succ, val, ih]
theorem val_inj {B : Nat} (hB : 0 < B) {a b : List Nat} (hl : a.length = b.length) (ha : ∀ x ∈ a, x < B) (hb : ∀ x ∈ b, x < B) (h : val B a = val B b) : a = b := by
  apply List.ext_getElem hl
  intro i h1 h2
  rw [← val_div_mod hB ha i h1, ← val_div_mod hB hb i h2, h]
/-- So many digits of N. -/
def dig (B k N : Nat) : List Nat := (List.range k).map fun i => N / B ^ i % B
@[simp] theorem length_dig (B k N : Nat) : (dig B k N).length = k := by simp [dig]
theorem dig_lt {B : Nat} (hB : 0 < B) (k N : Nat) : ∀ x ∈ dig B k N, x < B := by
  intro x hx; obtain ⟨i, _, rfl⟩ := List.mem_map.1 hx; exact Nat.mod_lt _ hB
theorem dig_succ (B k N : Nat) : dig B (k + 1) N = N % B :: dig B k (N / B) := by
  simp only [dig, List.range_succ_eq_map, List.map_cons, List.map_map, Nat.pow_zero, Nat.div_one]
  congr 1
  apply List.map_congr_left
  intro i _
  simp only [Function.comp]
  rw [Nat.pow_succ, Nat.mul_comm, Nat.div_div_eq_div_mul]
theorem val_dig (B : Nat) : ∀ (k N : Nat), val B (dig B k N) = N % B ^ k := by
  intro k
  induction k with
  | zero => intro N; simp [dig, val, Nat.mod_one]
  | succ k ih =>
    intro N
    rw [dig_succ, val, ih, Nat.pow_succ, Nat.mul_comm (B ^ k) B, Nat.mod_mul]
theorem dig_val {B : Nat} (hB : 0 < B) {l : List Nat} (h : ∀ x ∈ l, x < B) : dig B l.length (val B l) = l := by
  apply List.ext_getElem (by simp)
  intro i h1 h2
  simp only [dig, List.getElem_map, List.getElem_range]
  exact val_div_mod hB h i h2

/-! Limbs of 64 bits, the lowest first. -/
def n64 (l : List UInt64) : List Nat := l.map UInt64.toNat
def v64 (l : List UInt64) : Nat := val (2 ^ 64) (n64 l)
theorem n64_lt (l : List UInt64) : ∀ x ∈ n64 l, x < 2 ^ 64 := by
  intro x hx; obtain ⟨y, _, rfl⟩ := List.mem_map.1 hx; exact y.toNat_lt
theorem n64_inj {a b : List UInt64} (h : n64 a = n64 b) : a = b := List.map_inj_right (fun x y e => UInt64.toNat_inj.1 e) |>.1 h
@[simp] theorem length_n64 (l : List UInt64) : (n64 l).length = l.length := by simp [n64]
theorem v64_lt (l : List UInt64) : v64 l < 2 ^ (64 * l.length) := by
  have := val_lt (B := 2 ^ 64) (by decide) (n64_lt l)
  rw [length_n64, ← Nat.pow_mul] at this
  exact this
theorem v64_inj {a b : List UInt64} (hl : a.length = b.length) (h : v64 a = v64 b) : a = b :=
  n64_inj (val_inj (by decide) (by simpa using hl) (n64_lt a) (n64_lt b) h)
/-- So many limbs of N. -/
def limbsN (k N : Nat) : List UInt64 := (List.range k).map fun i => UInt64.ofNat (N / 2 ^ (64 * i))
@[simp] theorem length_limbsN (k N : Nat) : (limbsN k N).length = k := by simp [limbsN]
theorem n64_limbsN (k N : Nat) : n64 (limbsN k N) = dig (2 ^ 64) k N := by
  simp only [n64, limbsN, dig, List.map_map]
  apply List.map_congr_left
  intro i _
  show (UInt64.ofNat (N / 2 ^ (64 * i))).toNat = _
  rw [UInt64.toNat_ofNat', Nat.pow_mul]
theorem v64_limbsN (k N : Nat) : v64 (limbsN k N) = N % 2 ^ (64 * k) := by rw [v64, n64_limbsN, val_dig, ← Nat.pow_mul]
theorem limbsN_v64 (l : List UInt64) : limbsN l.length (v64 l) = l := by
  apply n64_inj; rw [n64_limbsN, v64, ← length_n64, dig_val (by decide) (n64_lt l)]
theorem eq_limbsN {l : List UInt64} {k N : Nat} (hl : l.length = k) (h : v64 l = N) : l = limbsN k N := by rw [← hl, ← h, limbsN_v64]
/-- The limbs of N, no zeros at the end. -/
def limbsOf (N : Nat) : List UInt64 := limbsN ((bitLen N + 63) / 64) N
theorem limbLen_le {N k : Nat} : (bitLen N + 63) / 64 ≤ k ↔ N < 2 ^ (64 * k) := by
  rw [← bitLen_le]; omega
theorem v64_limbsOf (N : Nat) : v64 (limbsOf N) = N := by
  rw [limbsOf, v64_limbsN]; exact Nat.mod_eq_of_lt (limbLen_le.1 (Nat.le_refl _))
theorem length_limbsOf (N : Nat) : (limbsOf N).length = (bitLen N + 63) / 64 := by simp [limbsOf]
theorem v64_append (a b : List UInt64) : v64 (a ++ b) = v64 a + 2 ^ (64 * a.length) * v64 b := by
  simp only [v64, n64, List.map_append, val_append, List.length_map, ← Nat.pow_mul]
theorem v64_replicate (n : Nat) : v64 (List.replicate n 0) = 0 := by simp [v64, n64, val_replicate]
/-- What is left when the zeros at the end are taken away. -/
theorem trim_eq {l : List UInt64} {k : Nat} (hk : k ≤ l.length) (hz : ∀ i (h : i < l.length), k ≤ i → l[i] = 0) (hl : k = 0 ∨ ∃ h : k - 1 < l.length, l[k - 1] ≠ 0) : l.take k = limbsOf (v64 l) := by
  have hd : l.drop k = List.replicate (l.length - k) 0 := by
    apply List.ext_getElem (by simp)
    intro i h1 h2
    simp only [List.length_drop] at h1
    simp only [List.getElem_drop, List.getElem_replicate]
    exact hz (k + i) (by omega) (by omega)
  have hv : v64 l = v64 (l.take k) := by
    conv => lhs; rw [← List.take_append_drop k l]
    rw [v64_append, hd, v64_replicate]; simp
  have hlen : (l.take k).length = k := by simp; omega
  refine eq_limbsN ?_ hv.symm
  rw [hlen]
  have h1 : v64 l < 2 ^ (64 * k) := by rw [hv]; have := v64_lt (l.take k); rwa [hlen] at this
  have h2 := limbLen_le.2 h1
  rcases hl with rfl | ⟨hlt, hne⟩
  · omega
  · by_cases hc : (bitLen (v64 l) + 63) / 64 ≤ k - 1
    · exfalso
      have h3 := limbLen_le.1 hc
      have h4 := val_div_mod (B := 2 ^ 64) (by decide) (n64_lt l) (k - 1) (by simpa using hlt)
      have h5 : val (2 ^ 64) (n64 l) / (2 ^ 64) ^ (k - 1) = 0 := by
        rw [← Nat.pow_mul]; exact Nat.div_eq_of_lt h3
      rw [h5] at h4
      simp [n64] at h4
      exact hne (by rw [← UInt64.toNat_inj]; simpa using h4.symm)
    · by_cases h0 : k = 0
      · omega
      · omega

/-! Bytes, the highest first. -/
def be (l : List UInt8) : Nat := l.foldl (fun a x => a * 256 + x.toNat) 0
theorem be_foldl (l : List UInt8) : ∀ a, l.foldl (fun a x => a * 256 + x.toNat) a = a * 256 ^ l.length + be l := by
  induction l with
  | nil => intro a; simp [be]
  | cons x l ih =>
    intro a
    simp only [List.foldl_cons, be, List.length_cons, Nat.pow_succ]
    rw [ih, ih (0 * 256 + x.toNat)]
    rw [Nat.zero_mul, Nat.zero_add, Nat.add_mul, Nat.mul_assoc, Nat.mul_comm 256 (256 ^ l.length)]
    omega
theorem be_nil : be [] = 0 := rfl
theorem be_append (a b : List UInt8) : be (a ++ b) = be a * 256 ^ b.length + be b := by
  rw [be, List.foldl_append, be_foldl]; rfl
theorem be_snoc (a : List UInt8) (x : UInt8) : be (a ++ [x]) = be a * 256 + x.toNat := by
  rw [be, List.foldl_append]; rfl
theorem be_cons (x : UInt8) (l : List UInt8) : be (x :: l) = x.toNat * 256 ^ l.length + be l := by
  have := be_append [x] l
  simpa [be] using this
theorem be_lt (l : List UInt8) : be l < 256 ^ l.length := by
  induction l with
  | nil => simp [be]
  | cons x l ih =>
    rw [be_cons, List.length_cons, Nat.pow_succ]
    have hx := x.toNat_lt
    have : (x.toNat + 1) * 256 ^ l.length ≤ 256 * 256 ^ l.length := Nat.mul_le_mul_right _ (by omega)
    rw [Nat.add_mul] at this
    rw [Nat.mul_comm (256 ^ l.length)]
    omega
/-- N in n bytes. -/
def bytesN (n N : Nat) : List UInt8 := (List.range n).map fun i => UInt8.ofNat (N / 256 ^ (n - 1 - i))
@[simp] theorem length_bytesN (n N : Nat) : (bytesN n N).length = n := by simp [bytesN]
theorem bytesN_succ (n N : Nat) : bytesN (n + 1) N = bytesN n (N / 256) ++ [UInt8.ofNat N] := by
  apply List.ext_getElem (by simp)
  intro i h1 h2
  simp only [length_bytesN] at h1
  by_cases hi : i < n
  · rw [List.getElem_append_left (by simpa using hi)]
    simp only [bytesN, List.getElem_map, List.getElem_range]
    rw [Nat.div_div_eq_div_mul, Nat.mul_comm, ← Nat.pow_succ]
    congr 3
    omega
  · have : i = n := by omega
    subst this
    rw [List.getElem_append_right (by simp)]
    simp [bytesN]
theorem be_bytesN (n : Nat) : ∀ N, be (bytesN n N) = N % 256 ^ n := by
  induction n with
  | zero => intro N; simp [bytesN, be, Nat.mod_one]
  | succ n ih =>
    intro N
    rw [bytesN_succ, be_snoc, ih, Nat.pow_succ, Nat.mul_comm (256 ^ n) 256, Nat.mod_mul, UInt8.toNat_ofNat']
    omega
theorem bytesN_be (l : List UInt8) : bytesN l.length (be l) = l := by
  induction h : l.length generalizing l with
  | zero => have : l = [] := List.eq_nil_of_length_eq_zero h
            subst this; rfl
  | succ n ih =>
    rcases List.eq_nil_or_concat l with h0 | ⟨a, x, h0⟩
    · subst h0; simp at h
    · rw [List.concat_eq_append] at h0
      subst h0
      have hx := x.toNat_lt
      rw [bytesN_succ, be_snoc]
      have e1 : (be a * 256 + x.toNat) / 256 = be a := by omega
      have e2 : UInt8.ofNat (be a * 256 + x.toNat) = x := by
        apply UInt8.toNat_inj.1
        rw [UInt8.toNat_ofNat']
        omega
      rw [e1, e2, ih a (by simpa using h)]
theorem be_inj {a b : List UInt8} (hl : a.length = b.length) (h : be a = be b) : a = b := by rw [← bytesN_be a, ← bytesN_be b, hl, h]
/-- The bytes of N, no zeros ahead. -/
def bytesOf (N : Nat) : List UInt8 := bytesN ((bitLen N + 7) / 8) N
theorem byteLen_le {N k : Nat} : (bitLen N + 7) / 8 ≤ k ↔ N < 256 ^ k := by
  rw [show (256 : Nat) = 2 ^ 8 from rfl, ← Nat.pow_mul, ← bitLen_le]; omega
theorem be_bytesOf (N : Nat) : be (bytesOf N) = N := by
  rw [bytesOf, be_bytesN]; exact Nat.mod_eq_of_lt (byteLen_le.1 (Nat.le_refl _))
theorem length_bytesOf (N : Nat) : (bytesOf N).length = (bitLen N + 7) / 8 := by simp [bytesOf]
theorem eq_bytesOf {l : List UInt8} (h : l.head? ≠ some 0) : l = bytesOf (be l) := by
  refine be_inj ?_ (be_bytesOf _).symm
  rw [length_bytesOf]
  have h1 := byteLen_le.2 (be_lt l)
  cases l with
  | nil => rfl
  | cons x l =>
    by_cases hc : (bitLen (be (x :: l)) + 7) / 8 ≤ l.length
    · exfalso
      have h2 := byteLen_le.1 hc
      rw [be_cons] at h2
      have hx : x.toNat ≠ 0 := fun e => h (by simp; exact UInt8.toNat_inj.1 (by simpa using e))
      have : 1 * 256 ^ l.length ≤ x.toNat * 256 ^ l.length := Nat.mul_le_mul_right _ (by omega)
      omega
    · simp only [List.length_cons] at h1 ⊢
      omega
theorem head_bytesOf (N : Nat) : (bytesOf N).head? ≠ some 0 := by
  intro h
  cases hb : bytesOf N with
  | nil => rw [hb] at h; cases h
  | cons x l =>
    rw [hb] at h
    have hx : x = 0 := by simpa using h
    have h1 := be_bytesOf N
    have h2 := length_bytesOf N
    rw [hb, be_cons, hx] at h1
    rw [hb] at h2
    have h3 := be_lt l
    have h4 : N < 256 ^ l.length := by rw [← h1]; simpa using h3
    have := byteLen_le.2 h4
    simp only [List.length_cons] at h2
    omega
end Go.Proofs.Ytohmmgggaegbbaa
/- Plain laws on Go's operations on unsigned integers, in the walk's spelling. No condition. -/
namespace Go.Proofs.Ytohmmgggaegbbaa
set_option linter.unusedVariables false
set_option linter.unusedSimpArgs false
theorem wrap_u64_nat (n : Nat) : IntKind.u64.wrap (n : Int) = ((UInt64.ofNat n).toNat : Int) := by
  rw [IntKind.wrap_u64, UInt64.toNat_ofNat']; omega
theorem wrap_u32_nat (n : Nat) : IntKind.u32.wrap (n : Int) = ((UInt32.ofNat n).toNat : Int) := by
  rw [IntKind.wrap_u32', UInt32.toNat_ofNat']; omega
theorem wrap_u8_nat (n : Nat) : IntKind.u8.wrap (n : Int) = ((UInt8.ofNat n).toNat : Int) := by
  rw [IntKind.wrap_u8', UInt8.toNat_ofNat']; omega
theorem bits_or_u64 (x y : UInt64) : bits .or .u64 (x.toNat : Int) (y.toNat : Int) = ((x ||| y).toNat : Int) := by
  rw [bits_or_u64_nat _ _ x.toNat_lt y.toNat_lt, UInt64.toNat_or]
theorem bits_and_u64 (x y : UInt64) : bits .and .u64 (x.toNat : Int) (y.toNat : Int) = ((x &&& y).toNat : Int) := by
  rw [bits_and_u64_nat _ _ x.toNat_lt y.toNat_lt, UInt64.toNat_and]
theorem bits_xor_u64 (x y : UInt64) : bits .xor .u64 (x.toNat : Int) (y.toNat : Int) = ((x ^^^ y).toNat : Int) := by
  rw [bits_xor_u64_nat _ _ x.toNat_lt y.toNat_lt, UInt64.toNat_xor]
theorem bits_or_u32 (x y : UInt32) : bits .or .u32 (x.toNat : Int) (y.toNat : Int) = ((x ||| y).toNat : Int) := by
  rw [u32_or_nat _ _ x.toNat_lt y.toNat_lt, UInt32.toNat_or]
theorem bits_and_u32 (x y : UInt32) : bits .and .u32 (x.toNat : Int) (y.toNat : Int) = ((x &&& y).toNat : Int) := by
  rw [u32_and_nat _ _ x.toNat_lt y.toNat_lt, UInt32.toNat_and]
end Go.Proofs.Ytohmmgggaegbbaa
/- The engine, part 2: operations that only compute. For whatever program. No condition. -/
namespace Go.Proofs.Ytohmmgggaegbbaa
set_option linter.unusedVariables false
set_option linter.unusedSimpArgs false
open Go Go.RowKit

/-- What the operation o gives leads from Y to X: if it leaves the world alone (NxF), if it leaves each block alone (NxA), whatever it does (Nx). -/
def NxF (P : Program) (n : Nat) (l : List (Nat × Value)) (E : World) (L Ls : List Heaplet) (o : Oper) (X Y : Act → World → Prop) : Prop :=
  ∀ a w v, Fr n l a → Hp E L w → (∀ w', Hp E Ls w' → (execOp a.eval o).run P w' = .ok (.value v) w') → Y (a.put o.dst v) w → X a w
def NxA (P : Program) (n : Nat) (l : List (Nat × Value)) (E : World) (L : List Heaplet) (o : Oper) (X Y : Act → World → Prop) : Prop :=
  ∀ a w, Fr n l a → Hp E L w → o.wp P a w (fun a' w' => Agree w w' ∧ Y a' w') (fun _ _ _ => False) → X a w
def Nx (P : Program) (n : Nat) (l : List (Nat × Value)) (E : World) (L : List Heaplet) (o : Oper) (X Y : Act → World → Prop) : Prop :=
  ∀ a w, Fr n l a → Hp E L w → o.wp P a w Y (fun _ _ _ => False) → X a w
section
variable {P : Program} {n : Nat} {l : List (Nat × Value)} {E : World} {L Ls : List Heaplet} {Q : Exit → Act → World → Prop} {ops : Array Oper} {rest : List Oper} {o : Oper} {X Y : Act → World → Prop}
theorem Nx.agree (h : Nx P n l E L o X Y) : NxA P n l E L o X Y := fun a w hf hw hx => h a w hf hw (Oper.wp_mono (fun _ _ h => h.2) hx)
theorem Nx.float (h : Nx P n l E L o X Y) : NxF P n l E L L o X Y := fun a w v hf hw hr hy => h a w hf hw (by unfold Oper.wp; rw [hr w hw]; exact hy)
theorem nxl (hg : o.guard = none) : Nx P n l E L o (wpList P ops Q (o :: rest)) (wpList P ops Q rest) := fun a w _ _ hx =>
  wpList_plain hg fun K hK => upon_carry (fun _ _ h => hK _ _ h) (fun _ _ h => hK _ _ h) hx
theorem nxlf (hg : o.guard = none) : NxF P n l E L L o (wpList P ops Q (o :: rest)) (wpList P ops Q rest) := (nxl hg).float
theorem nxla (hg : o.guard = none) : NxA P n l E L o (wpList P ops Q (o :: rest)) (wpList P ops Q rest) := (nxl hg).agree
theorem wanted_of {j : Nat} {b c : Bool} {oj : Oper} {d : Nat} {a : Act} (hf : Fr n l a) (hg : o.guard = some (j, b)) (hj : ops[j]? = some oj) (hd : oj.dst = some d) (hv : lk l d = some (.bool c)) : Region.wanted o (yielded ops a.tmps) = (c == b) := by
  have := hf.get d _ hv
  simp [Region.wanted, hg, yielded, hj, hd, this]
theorem nxg {j : Nat} {b : Bool} {oj : Oper} {d : Nat} (hg : o.guard = some (j, b)) (hj : ops[j]? = some oj) (hd : oj.dst = some d) (hv : lk l d = some (.bool b)) : Nx P n l E L o (wpList P ops Q (o :: rest)) (wpList P ops Q rest) := fun a w hf hw hx =>
  wpList_step fun K hK => by
    rw [wanted_of hf hg hj hd hv]
    simp only [beq_self_eq_true, if_true]
    exact upon_carry (fun _ _ h => hK _ _ h) (fun _ _ h => hK _ _ h) hx
theorem nxgf {j : Nat} {b : Bool} {oj : Oper} {d : Nat} (hg : o.guard = some (j, b)) (hj : ops[j]? = some oj) (hd : oj.dst = some d) (hv : lk l d = some (.bool b)) : NxF P n l E L L o (wpList P ops Q (o :: rest)) (wpList P ops Q rest) := (nxg hg hj hd hv).float
theorem nxga {j : Nat} {b : Bool} {oj : Oper} {d : Nat} (hg : o.guard = some (j, b)) (hj : ops[j]? = some oj) (hd : oj.dst = some d) (hv : lk l d = some (.bool b)) : NxA P n l E L o (wpList P ops Q (o :: rest)) (wpList P ops Q rest) := (nxg hg hj hd hv).agree
/-- An operation whose guard says no. -/
theorem op_skip {j : Nat} {b c : Bool} {oj : Oper} {d e : Nat} (hg : o.guard = some (j, b)) (hj : ops[j]? = some oj) (hd : oj.dst = some d) (hv : lk l d = some (.bool c)) (hc : (c == b) = false) (he : o.dst = some e) (hn : Nat.ble (e + 1) n = true)
    (h : At n ((e, undef) :: l) E L (wpList P ops Q rest)) : At n l E L (wpList P ops Q (o :: rest)) := fun a w hf hw =>
  wpList_step fun K hK => by
    rw [wanted_of hf hg hj hd hv, hc]
    simp only [Bool.false_eq_true, if_false]
    rw [he]
    exact hK _ _ (h _ _ (hf.put (Nat.le_of_ble_eq_true hn)) hw)
/-- Part by the value of a slot that holds a bool. -/
theorem At.part {d : Nat} {b : Bool} {K : Act → World → Prop} (hv : lk l d = some (.bool b)) (ht : b = true → At n ((d, .bool true) :: l) E L K) (hf : b = false → At n ((d, .bool false) :: l) E L K) : At n l E L K := fun a w h hw => by
  have key : ∀ i v, lk ((d, .bool b) :: l) i = some v → lk l i = some v := fun i v hi => by
    unfold lk at hi
    by_cases e : d = i
    · subst e; simp at hi; subst hi; exact hv
    · rw [beq_no e] at hi; exact hi
  cases b with
  | true => exact ht rfl a w ⟨h.defers, h.size, fun i v hi => h.get i v (key i v hi)⟩ hw
  | false => exact hf rfl a w ⟨h.defers, h.size, fun i v hi => h.get i v (key i v hi)⟩ hw
theorem At.partP {d : Nat} {p : Prop} [Decidable p] {K : Act → World → Prop} (hv : lk l d = some (.bool (decide p))) (ht : p → At n ((d, .bool true) :: l) E L K) (hf : ¬ p → At n ((d, .bool false) :: l) E L K) : At n l E L K :=
  At.part hv (fun e => ht (of_decide_eq_true e)) (fun e => hf (of_decide_eq_false e))

/-! A region that draws its order. -/
variable {sink : Nat → Bool} {i : Nat} {is : List Nat}
theorem floatOK_congr {op : Op} {ρ ρ' : Operand → Value} (h : ∀ x ∈ op.operands, ρ x = ρ' x) : floatOK P op ρ = floatOK P op ρ' := by
  cases op <;> simp only [floatOK]
  case nilCheck x => rw [h x (by simp [Op.operands])]
  case binOp op t x y t' => rw [h x (by simp [Op.operands]), h y (by simp [Op.operands])]
  case convert s d x => rw [h x (by simp [Op.operands])]
  case call c =>
    split
    · have : c.args.toList.map ρ = c.args.toList.map ρ' := by
        refine List.map_congr_left fun x hx => h x ?_
        simp [Op.operands, Call.operands]
        exact .inr (Array.mem_toList_iff.1 hx)
      rw [this]
    · rfl
/-- The operands' values are known, and with them the operation floats. -/
def okB (P : Program) (l : List (Nat × Value)) (op : Op) : Bool := op.operands.all (fun x => (ev l x).isSome) && floatOK P op (fun x => (ev l x).getD undef)
theorem okB_spec {op : Op} (h : okB P l op = true) {a : Act} (hf : Fr n l a) : floatOK P op a.eval = true := by
  unfold okB at h
  rw [Bool.and_eq_true] at h
  rw [← h.2]
  refine floatOK_congr fun x hx => ?_
  have := Array.all_eq_true_iff_forall_mem.1 h.1 x hx
  obtain ⟨v, hv⟩ := Option.isSome_iff_exists.1 this
  rw [hf.eval hv, hv]; rfl
theorem nxof (ho : ops[i]? = some o) (hf : floats o.op = true) (hg : o.guard = none) (hok : okB P l o.op = true) : NxF P n l E L L o (wpOne P ops sink Q (i :: is)) (wpOne P ops sink Q is) := fun a w v hfr hw_ hr hy =>
  wpOne_float ho hf (by simp [Region.wanted, hg]) (okB_spec hok hfr) fun K hK => by unfold Oper.wp; rw [hr w hw_]; exact hK _ _ hy
theorem nxos (ho : ops[i]? = some o) (hf : floats o.op = false) (hs : sink i = true) (hg : o.guard = none) : Nx P n l E L o (wpOne P ops sink Q (i :: is)) (wpOne P ops sink Q is) := fun a w _ _ hx =>
  wpOne_sink ho hf hs (by simp [Region.wanted, hg]) fun K hK => Oper.wp_mono (fun _ _ h => hK _ _ h) hx
theorem nxosa (ho : ops[i]? = some o) (hf : floats o.op = false) (hs : sink i = true) (hg : o.guard = none) : NxA P n l E L o (wpOne P ops sink Q (i :: is)) (wpOne P ops sink Q is) := (nxos ho hf hs hg).agree
theorem nxoa (ho : ops[i]? = some o) (hf : floats o.op = false) (hg : o.guard = none) : NxA P n l E L o (wpOne P ops sink Q (i :: is)) (wpOne P ops sink Q is) := fun a w _ _ hx =>
  wpOne_act ho hf (by simp [Region.wanted, hg]) fun K hK => Oper.wp_mono (fun _ _ h => hK _ _ h) hx
theorem nxogf {j : Nat} {b : Bool} {oj : Oper} {d : Nat} (ho : ops[i]? = some o) (hf : floats o.op = true) (hg : o.guard = some (j, b)) (hj : ops[j]? = some oj) (hd : oj.dst = some d) (hv : lk l d = some (.bool b)) (hok : okB P l o.op = true) : NxF P n l E L L o (wpOne P ops sink Q (i :: is)) (wpOne P ops sink Q is) := fun a w v hfr hw_ hr hy =>
  wpOne_float ho hf (by rw [wanted_of hfr hg hj hd hv]; simp) (okB_spec hok hfr) fun K hK => by unfold Oper.wp; rw [hr w hw_]; exact hK _ _ hy
theorem nxogs {j : Nat} {b : Bool} {oj : Oper} {d : Nat} (ho : ops[i]? = some o) (hf : floats o.op = false) (hs : sink i = true) (hg : o.guard = some (j, b)) (hj : ops[j]? = some oj) (hd : oj.dst = some d) (hv : lk l d = some (.bool b)) : Nx P n l E L o (wpOne P ops sink Q (i :: is)) (wpOne P ops sink Q is) := fun a w hfr _ hx =>
  wpOne_sink ho hf hs (by rw [wanted_of hfr hg hj hd hv]; simp) fun K hK => Oper.wp_mono (fun _ _ h => hK _ _ h) hx
theorem nxoga {j : Nat} {b : Bool} {oj : Oper} {d : Nat} (ho : ops[i]? = some o) (hf : floats o.op = false) (hg : o.guard = some (j, b)) (hj : ops[j]? = some oj) (hd : oj.dst = some d) (hv : lk l d = some (.bool b)) : NxA P n l E L o (wpOne P ops sink Q (i :: is)) (wpOne P ops sink Q is) := fun a w hfr _ hx =>
  wpOne_act ho hf (by rw [wanted_of hfr hg hj hd hv]; simp) fun K hK => Oper.wp_mono (fun _ _ h => hK _ _ h) hx
theorem op_oskip {j : Nat} {b c : Bool} {oj : Oper} {d e : Nat} (ho : ops[i]? = some o) (hg : o.guard = some (j, b)) (hj : ops[j]? = some oj) (hd : oj.dst = some d) (hv : lk l d = some (.bool c)) (hc : (c == b) = false) (he : o.dst = some e) (hn : Nat.ble (e + 1) n = true)
    (h : At n ((e, undef) :: l) E L (wpOne P ops sink Q is)) : At n l E L (wpOne P ops sink Q (i :: is)) := fun a w hf hw =>
  wpOne_skip ho (by rw [wanted_of hf hg hj hd hv, hc]) (by rw [he]; exact h _ _ (hf.put (Nat.le_of_ble_eq_true hn)) hw)

/-! A region that draws its order, in which some heaplets stay as they are. -/
theorem At.drawnS {id : Nat} {ops : List Oper} (Lst : List Heaplet) (snk pl ord : List Nat) (hm : P.follows .mixedOrders = true) (hB : St.oneSB .any ops.toArray snk pl ord = true) (hs : Lst.Sublist L)
    (h : At n l E L (St.wpOne P ops.toArray (Hp E Lst) (fun i => snk.contains i) Q ord)) : At n l E L ((Code.region id ops.toArray true).wp P Q) := fun a w hf hw => St.wp_one snk pl ord hm hB (hw.drew.drop hs) (h a w.drew hf hw.drew)
theorem At.sNil {S : World → Prop} (h : At n l E L (Q .normal)) : At n l E L (St.wpOne P ops S sink Q []) := h
theorem At.andS {Lst : List Heaplet} {Y : Act → World → Prop} (hs : Lst.Sublist L) (h : At n l E L Y) : At n l E L (fun a w => Hp E Lst w ∧ Y a w) := fun a w hf hw => ⟨hw.drop hs, h a w hf hw⟩
variable {Lst : List Heaplet}
theorem nxsf (ho : ops[i]? = some o) (hf : floats o.op = true) (hg : o.guard = none) : NxF P n l E L Lst o (St.wpOne P ops (Hp E Lst) sink Q (i :: is)) (St.wpOne P ops (Hp E Lst) sink Q is) := fun a w v hfr hw hr hy =>
  St.wpOne_float ho hf (by simp [Region.wanted, hg]) hr hy
theorem nxsgf {j : Nat} {b : Bool} {oj : Oper} {d : Nat} (ho : ops[i]? = some o) (hf : floats o.op = true) (hg : o.guard = some (j, b)) (hj : ops[j]? = some oj) (hd : oj.dst = some d) (hv : lk l d = some (.bool b)) : NxF P n l E L Lst o (St.wpOne P ops (Hp E Lst) sink Q (i :: is)) (St.wpOne P ops (Hp E Lst) sink Q is) := fun a w v hfr hw hr hy =>
  St.wpOne_float ho hf (by rw [wanted_of hfr hg hj hd hv]; simp) hr hy
theorem nxsa (ho : ops[i]? = some o) (hf : floats o.op = false) (hg : o.guard = none) : Nx P n l E L o (St.wpOne P ops (Hp E Lst) sink Q (i :: is)) (fun a w => Hp E Lst w ∧ St.wpOne P ops (Hp E Lst) sink Q is a w) := fun a w hfr hw hx =>
  St.wpOne_act ho hf (by simp [Region.wanted, hg]) hx
theorem nxsga {j : Nat} {b : Bool} {oj : Oper} {d : Nat} (ho : ops[i]? = some o) (hf : floats o.op = false) (hg : o.guard = some (j, b)) (hj : ops[j]? = some oj) (hd : oj.dst = some d) (hv : lk l d = some (.bool b)) : Nx P n l E L o (St.wpOne P ops (Hp E Lst) sink Q (i :: is)) (fun a w => Hp E Lst w ∧ St.wpOne P ops (Hp E Lst) sink Q is a w) := fun a w hfr hw hx =>
  St.wpOne_act ho hf (by rw [wanted_of hfr hg hj hd hv]; simp) hx
theorem nxsl (ho : ops[i]? = some o) (hf : floats o.op = false) (hs : sink i = true) (hg : o.guard = none) : Nx P n l E L o (St.wpOne P ops (Hp E Lst) sink Q [i]) (St.wpOne P ops (Hp E Lst) sink Q []) := fun a w hfr hw hx =>
  St.wpOne_last ho hf hs (by simp [Region.wanted, hg]) hx
theorem nxss (ho : ops[i]? = some o) (hf : floats o.op = false) (hs : sink i = true) (hg : o.guard = none) : Nx P n l E L o (St.wpOne P ops (Hp E Lst) sink Q (i :: is)) (fun a w => ∃ S' : World → Prop, S' w ∧ St.wpOne P ops S' sink Q is a w) := fun a w hfr hw hx =>
  St.wpOne_sink ho hf hs (by simp [Region.wanted, hg]) hx
theorem nxsgs {j : Nat} {b : Bool} {oj : Oper} {d : Nat} (ho : ops[i]? = some o) (hf : floats o.op = false) (hs : sink i = true) (hg : o.guard = some (j, b)) (hj : ops[j]? = some oj) (hd : oj.dst = some d) (hv : lk l d = some (.bool b)) : Nx P n l E L o (St.wpOne P ops (Hp E Lst) sink Q (i :: is)) (fun a w => ∃ S' : World → Prop, S' w ∧ St.wpOne P ops S' sink Q is a w) := fun a w hfr hw hx =>
  St.wpOne_sink ho hf hs (by rw [wanted_of hfr hg hj hd hv]; simp) hx
theorem nxsm (ho : ops[i]? = some o) (hf : floats o.op = false) (hg : o.guard = none) : Nx P n l E L o (St.wpOne P ops (Hp E Lst) sink Q (i :: is)) (fun a w => ∃ S' : World → Prop, (∀ u, S' u → Hp E Lst u) ∧ S' w ∧ St.wpOne P ops S' sink Q is a w) := fun a w hfr hw hx =>
  St.wpOne_more ho hf (by simp [Region.wanted, hg]) hx
theorem nxsgm {j : Nat} {b : Bool} {oj : Oper} {d : Nat} (ho : ops[i]? = some o) (hf : floats o.op = false) (hg : o.guard = some (j, b)) (hj : ops[j]? = some oj) (hd : oj.dst = some d) (hv : lk l d = some (.bool b)) : Nx P n l E L o (St.wpOne P ops (Hp E Lst) sink Q (i :: is)) (fun a w => ∃ S' : World → Prop, (∀ u, S' u → Hp E Lst u) ∧ S' w ∧ St.wpOne P ops S' sink Q is a w) := fun a w hfr hw hx =>
  St.wpOne_more ho hf (by rw [wanted_of hfr hg hj hd hv]; simp) hx
theorem At.moreS {Lst Lst' : List Heaplet} (h1 : Lst.Sublist Lst') (hs : Lst'.Sublist L) (h : At n l E L (St.wpOne P ops (Hp E Lst') sink Q is)) : At n l E L (fun a w => ∃ S' : World → Prop, (∀ u, S' u → Hp E Lst u) ∧ S' w ∧ St.wpOne P ops S' sink Q is a w) := fun a w hf hw => ⟨Hp E Lst', fun _ hu => hu.drop h1, hw.drop hs, h a w hf hw⟩
theorem At.anyS {Lst : List Heaplet} (hs : Lst.Sublist L) (h : At n l E L (St.wpOne P ops (Hp E Lst) sink Q is)) : At n l E L (fun a w => ∃ S' : World → Prop, S' w ∧ St.wpOne P ops S' sink Q is a w) := fun a w hf hw => ⟨Hp E Lst, hw.drop hs, h a w hf hw⟩
/-! A region that draws its order, by a plan. -/
theorem At.planS {id : Nat} {ops : List Oper} (Lst : List Heaplet) (p : Plan) (hm : P.follows .mixedOrders = true) (hB : planOKB .any ops.toArray p = true) (hs : Lst.Sublist L)
    (h : At n l E L (St.wpPlan P ops.toArray (Hp E Lst) Q p)) : At n l E L ((Code.region id ops.toArray true).wp P Q) := fun a w hf hw => St.wp_plan p hm hB (hw.drew.drop hs) (h a w.drew hf hw.drew)
theorem At.pDone {S : World → Prop} (h : At n l E L (Q .normal)) : At n l E L (St.wpPlan P ops S Q .done) := h
theorem At.pNo {S : World → Prop} : At n l E L (St.wpPlan P ops S Q .nofork) := fun _ _ _ _ => trivial
theorem At.fork {S : World → Prop} {i : Nat} {snk : Bool} {p rest : Plan} (h : At n l E L (St.wpFork P ops S Q i snk p)) (hr : At n l E L (St.wpPlan P ops S Q rest)) : At n l E L (St.wpPlan P ops S Q (.fork i snk p rest)) := fun a w hf hw => St.wpPlan_fork (h a w hf hw) (hr a w hf hw)
variable {pl : Plan} {snk : Bool}
theorem nxpf (ho : ops[i]? = some o) (hg : o.guard = none) : NxF P n l E L Lst o (St.wpPlan P ops (Hp E Lst) Q (.take i pl)) (St.wpPlan P ops (Hp E Lst) Q pl) := fun a w v hfr hw hr hy =>
  St.wpPlan_take ho (by simp [Region.wanted, hg]) hr hy
theorem nxpgf {j : Nat} {b : Bool} {oj : Oper} {d : Nat} (ho : ops[i]? = some o) (hg : o.guard = some (j, b)) (hj : ops[j]? = some oj) (hd : oj.dst = some d) (hv : lk l d = some (.bool b)) : NxF P n l E L Lst o (St.wpPlan P ops (Hp E Lst) Q (.take i pl)) (St.wpPlan P ops (Hp E Lst) Q pl) := fun a w v hfr hw hr hy =>
  St.wpPlan_take ho (by rw [wanted_of hfr hg hj hd hv]; simp) hr hy
theorem nxpa (ho : ops[i]? = some o) (hg : o.guard = none) : Nx P n l E L o (St.wpFork P ops (Hp E Lst) Q i snk pl) (fun a w => Hp E Lst w ∧ St.wpPlan P ops (Hp E Lst) Q pl a w) := fun a w hfr hw hx =>
  St.wpFork_act ho (by simp [Region.wanted, hg]) hx
theorem nxpga {j : Nat} {b : Bool} {oj : Oper} {d : Nat} (ho : ops[i]? = some o) (hg : o.guard = some (j, b)) (hj : ops[j]? = some oj) (hd : oj.dst = some d) (hv : lk l d = some (.bool b)) : Nx P n l E L o (St.wpFork P ops (Hp E Lst) Q i snk pl) (fun a w => Hp E Lst w ∧ St.wpPlan P ops (Hp E Lst) Q pl a w) := fun a w hfr hw hx =>
  St.wpFork_act ho (by rw [wanted_of hfr hg hj hd hv]; simp) hx
theorem nxpl (ho : ops[i]? = some o) (hg : o.guard = none) : Nx P n l E L o (St.wpFork P ops (Hp E Lst) Q i true .done) (St.wpPlan P ops (Hp E Lst) Q .done) := fun a w hfr hw hx =>
  St.wpFork_last ho (by simp [Region.wanted, hg]) hx
theorem op_pskip {S : World → Prop} {j : Nat} {b c : Bool} {oj : Oper} {d e : Nat} (ho : ops[i]? = some o) (hg : o.guard = some (j, b)) (hj : ops[j]? = some oj) (hd : oj.dst = some d) (hv : lk l d = some (.bool c)) (hc : (c == b) = false) (he : o.dst = some e) (hn : Nat.ble (e + 1) n = true)
    (h : At n ((e, undef) :: l) E L (St.wpPlan P ops S Q pl)) : At n l E L (St.wpPlan P ops S Q (.take i pl)) := fun a w hf hw =>
  St.wpPlan_skip ho (by rw [wanted_of hf hg hj hd hv, hc]) (by rw [he]; exact h _ _ (hf.put (Nat.le_of_ble_eq_true hn)) hw)
theorem op_ppass {S : World → Prop} {j : Nat} {b c : Bool} {oj : Oper} {d e : Nat} (ho : ops[i]? = some o) (hg : o.guard = some (j, b)) (hj : ops[j]? = some oj) (hd : oj.dst = some d) (hv : lk l d = some (.bool c)) (hc : (c == b) = false) (he : o.dst = some e) (hn : Nat.ble (e + 1) n = true)
    (h : At n ((e, undef) :: l) E L (St.wpPlan P ops S Q pl)) : At n l E L (St.wpFork P ops S Q i snk pl) := fun a w hf hw =>
  St.wpFork_pass ho (by rw [wanted_of hf hg hj hd hv, hc]) (by rw [he]; exact h _ _ (hf.put (Nat.le_of_ble_eq_true hn)) hw)
theorem op_sskip {S : World → Prop} {j : Nat} {b c : Bool} {oj : Oper} {d e : Nat} (ho : ops[i]? = some o) (hg : o.guard = some (j, b)) (hj : ops[j]? = some oj) (hd : oj.dst = some d) (hv : lk l d = some (.bool c)) (hc : (c == b) = false) (he : o.dst = some e) (hn : Nat.ble (e + 1) n = true)
    (h : At n ((e, undef) :: l) E L (St.wpOne P ops S sink Q is)) : At n l E L (St.wpOne P ops S sink Q (i :: is)) := fun a w hf hw =>
  St.wpOne_skip ho (by rw [wanted_of hf hg hj hd hv, hc]) (by rw [he]; exact h _ _ (hf.put (Nat.le_of_ble_eq_true hn)) hw)

/-! Operations that give a value and leave the world alone. -/
section
variable {d : Nat} {ty t t' : TypeId} {pos : String} {aft : Array Edge} {g : Option (Nat × Bool)} {v : Value} {x y z : Operand}
theorem op_val (s : NxF P n l E L Ls o X Y) (hr : ∀ a w, Fr n l a → Hp E Ls w → (execOp a.eval o).run P w = .ok (.value v) w) (hd : o.dst = some d) (hn : Nat.ble (d + 1) n = true) (h : At n ((d, v) :: l) E L Y) : At n l E L X := fun a w hf hw =>
  s a w v hf hw (fun w' hw' => hr a w' hf hw') (by rw [hd]; exact h _ _ (hf.put (Nat.le_of_ble_eq_true hn)) hw)
theorem op_move (s : NxF P n l E L Ls ⟨some d, .move x, ty, pos, aft, g⟩ X Y) (hx : ev l x = some v) (hn : Nat.ble (d + 1) n = true) (h : At n ((d, v) :: l) E L Y) : At n l E L X :=
  op_val s (fun a w hf _ => by simp [execOp, hf.eval hx]) rfl hn h
theorem op_assign (s : NxF P n l E L Ls ⟨some d, .assign x, ty, pos, aft, g⟩ X Y) (hx : ev l x = some v) (hn : Nat.ble (d + 1) n = true) (h : At n ((d, v) :: l) E L Y) : At n l E L X :=
  op_val s (fun a w hf _ => by simp [execOp, hf.eval hx]) rfl hn h
theorem op_pickT (s : NxF P n l E L Ls ⟨some d, .pick z x y, ty, pos, aft, g⟩ X Y) (hz : ev l z = some (.bool true)) (hx : ev l x = some v) (hn : Nat.ble (d + 1) n = true) (h : At n ((d, v) :: l) E L Y) : At n l E L X :=
  op_val s (fun a w hf _ => by simp [execOp, hf.eval hz, hf.eval hx, asBool]) rfl hn h
theorem op_pickF (s : NxF P n l E L Ls ⟨some d, .pick z x y, ty, pos, aft, g⟩ X Y) (hz : ev l z = some (.bool false)) (hx : ev l y = some v) (hn : Nat.ble (d + 1) n = true) (h : At n ((d, v) :: l) E L Y) : At n l E L X :=
  op_val s (fun a w hf _ => by simp [execOp, hf.eval hz, hf.eval hx, asBool]) rfl hn h
theorem op_bin {op : BinOp} {vx vy : Value} (s : NxF P n l E L Ls ⟨some d, .binOp op t x y t', ty, pos, aft, g⟩ X Y) (hx : ev l x = some vx) (hy : ev l y = some vy) (hg : ∀ w, (eqGuard op t x y vx vy).run P w = .ok () w) (hr : ∀ w, (binOp op t vx vy).run P w = .ok v w) (hn : Nat.ble (d + 1) n = true) (h : At n ((d, v) :: l) E L Y) : At n l E L X :=
  op_val s (fun a w hf _ => by
    have e : (execOp a.eval ⟨some d, .binOp op t x y t', ty, pos, aft, g⟩) = (do let v ← (do eqGuard op t x y (a.eval x) (a.eval y); binOp op t (a.eval x) (a.eval y)); pure (.value v) : Sem Next) := rfl
    rw [e, hf.eval hx, hf.eval hy, Sem.run_bind, Sem.run_bind, hg w]
    simp [hr]) rfl hn h
theorem eqGuard_int {op : BinOp} {k k' : IntKind} {p q : Int} (w : World) : (eqGuard op t x y (.int k p) (.int k' q)).run P w = .ok () w := by
  unfold eqGuard
  by_cases h : (!(op matches .eql | .neq)) = true <;> simp [h]
variable {k : IntKind} {p q : Int}
theorem op_int {op : BinOp} (s : NxF P n l E L Ls ⟨some d, .binOp op t x y t', ty, pos, aft, g⟩ X Y) (hx : ev l x = some (.int k p)) (hy : ev l y = some (.int k q)) (hr : ∀ w, (binOp op t (.int k p) (.int k q)).run P w = .ok v w) (hn : Nat.ble (d + 1) n = true) (h : At n ((d, v) :: l) E L Y) : At n l E L X :=
  op_bin s hx hy (fun w => eqGuard_int w) hr hn h
theorem op_sh {op : BinOp} {k' : IntKind} (s : NxF P n l E L Ls ⟨some d, .binOp op t x y t', ty, pos, aft, g⟩ X Y) (hx : ev l x = some (.int k p)) (hy : ev l y = some (.int k' q)) (hr : ∀ w, (binOp op t (.int k p) (.int k' q)).run P w = .ok v w) (hn : Nat.ble (d + 1) n = true) (h : At n ((d, v) :: l) E L Y) : At n l E L X :=
  op_bin s hx hy (fun w => eqGuard_int w) hr hn h
/-! comparisons of integers of whatever kind -/
theorem op_eql (s : NxF P n l E L Ls ⟨some d, .binOp .eql t x y t', ty, pos, aft, g⟩ X Y) (hx : ev l x = some (.int k p)) (hy : ev l y = some (.int k q)) (hn : Nat.ble (d + 1) n = true) (h : At n ((d, .bool (decide (p = q))) :: l) E L Y) : At n l E L X :=
  op_int s hx hy (fun w => by simp [binOp, Op.intCmp]; rfl) hn h
theorem op_neq (s : NxF P n l E L Ls ⟨some d, .binOp .neq t x y t', ty, pos, aft, g⟩ X Y) (hx : ev l x = some (.int k p)) (hy : ev l y = some (.int k q)) (hn : Nat.ble (d + 1) n = true) (h : At n ((d, .bool (decide (p ≠ q))) :: l) E L Y) : At n l E L X :=
  op_int s hx hy (fun w => by
    have : (p != q) = decide (p ≠ q) := by rw [bne, show (p == q) = decide (p = q) from rfl, decide_not]
    simp [binOp, Op.intCmp, this]) hn h
theorem op_lss (s : NxF P n l E L Ls ⟨some d, .binOp .lss t x y t', ty, pos, aft, g⟩ X Y) (hx : ev l x = some (.int k p)) (hy : ev l y = some (.int k q)) (hn : Nat.ble (d + 1) n = true) (h : At n ((d, .bool (decide (p < q))) :: l) E L Y) : At n l E L X :=
  op_int s hx hy (fun w => by simp [binOp, Op.intCmp]) hn h
theorem op_leq (s : NxF P n l E L Ls ⟨some d, .binOp .leq t x y t', ty, pos, aft, g⟩ X Y) (hx : ev l x = some (.int k p)) (hy : ev l y = some (.int k q)) (hn : Nat.ble (d + 1) n = true) (h : At n ((d, .bool (decide (p ≤ q))) :: l) E L Y) : At n l E L X :=
  op_int s hx hy (fun w => by simp [binOp, Op.intCmp]) hn h
theorem op_gtr (s : NxF P n l E L Ls ⟨some d, .binOp .gtr t x y t', ty, pos, aft, g⟩ X Y) (hx : ev l x = some (.int k p)) (hy : ev l y = some (.int k q)) (hn : Nat.ble (d + 1) n = true) (h : At n ((d, .bool (decide (q < p))) :: l) E L Y) : At n l E L X :=
  op_int s hx hy (fun w => by simp [binOp, Op.intCmp]) hn h
theorem op_geq (s : NxF P n l E L Ls ⟨some d, .binOp .geq t x y t', ty, pos, aft, g⟩ X Y) (hx : ev l x = some (.int k p)) (hy : ev l y = some (.int k q)) (hn : Nat.ble (d + 1) n = true) (h : At n ((d, .bool (decide (q ≤ p))) :: l) E L Y) : At n l E L X :=
  op_int s hx hy (fun w => by simp [binOp, Op.intCmp]) hn h
/-! int: no sum leaves the range -/
theorem wrap_i64 {a : Int} (h1 : -9223372036854775808 ≤ a) (h2 : a ≤ 9223372036854775807) : IntKind.i64.wrap a = a := by
  unfold IntKind.wrap
  simp only [IntKind.bits, IntKind.signed, Bool.true_and, decide_eq_true_eq, show (2 : Int) ^ 64 = 18446744073709551616 from rfl, show (2 : Int) ^ (64 - 1) = 9223372036854775808 from rfl]
  split <;> omega
theorem op_addI (s : NxF P n l E L Ls ⟨some d, .binOp .add t x y t', ty, pos, aft, g⟩ X Y) (hx : ev l x = some (.int .i64 p)) (hy : ev l y = some (.int .i64 q)) (h1 : -9223372036854775808 ≤ p + q) (h2 : p + q ≤ 9223372036854775807) (hn : Nat.ble (d + 1) n = true) (h : At n ((d, .int .i64 (p + q)) :: l) E L Y) : At n l E L X :=
  op_int s hx hy (fun w => by simp [binOp, Op.intArith, wrap_i64 h1 h2]) hn h
theorem op_subI (s : NxF P n l E L Ls ⟨some d, .binOp .sub t x y t', ty, pos, aft, g⟩ X Y) (hx : ev l x = some (.int .i64 p)) (hy : ev l y = some (.int .i64 q)) (h1 : -9223372036854775808 ≤ p - q) (h2 : p - q ≤ 9223372036854775807) (hn : Nat.ble (d + 1) n = true) (h : At n ((d, .int .i64 (p - q)) :: l) E L Y) : At n l E L X :=
  op_int s hx hy (fun w => by simp [binOp, Op.intArith, wrap_i64 h1 h2]) hn h
theorem op_mulI (s : NxF P n l E L Ls ⟨some d, .binOp .mul t x y t', ty, pos, aft, g⟩ X Y) (hx : ev l x = some (.int .i64 p)) (hy : ev l y = some (.int .i64 q)) (h1 : -9223372036854775808 ≤ p * q) (h2 : p * q ≤ 9223372036854775807) (hn : Nat.ble (d + 1) n = true) (h : At n ((d, .int .i64 (p * q)) :: l) E L Y) : At n l E L X :=
  op_int s hx hy (fun w => by simp [binOp, Op.intArith, wrap_i64 h1 h2]) hn h
theorem op_quoI (s : NxF P n l E L Ls ⟨some d, .binOp .quo t x y t', ty, pos, aft, g⟩ X Y) (hx : ev l x = some (.int .i64 p)) (hy : ev l y = some (.int .i64 q)) (h1 : 0 ≤ p) (h2 : 0 < q) (h3 : p ≤ 9223372036854775807) (hn : Nat.ble (d + 1) n = true) (h : At n ((d, .int .i64 (p / q)) :: l) E L Y) : At n l E L X :=
  op_int s hx hy (fun w => by
    have e : q ≠ 0 := by omega
    have e2 : p / q ≤ p := Int.ediv_le_self _ h1
    have e3 : 0 ≤ p / q := Int.ediv_nonneg h1 (by omega)
    simp [binOp, Op.intDiv, e, Int.tdiv_eq_ediv_of_nonneg h1, wrap_i64 (show -9223372036854775808 ≤ p / q by omega) (by omega)]) hn h
theorem op_rem (s : NxF P n l E L Ls ⟨some d, .binOp .rem t x y t', ty, pos, aft, g⟩ X Y) (hx : ev l x = some (.int k p)) (hy : ev l y = some (.int k q)) (h1 : 0 ≤ p) (h2 : 0 < q) (hn : Nat.ble (d + 1) n = true) (h : At n ((d, .int k (p % q)) :: l) E L Y) : At n l E L X :=
  op_int s hx hy (fun w => by
    have e : q ≠ 0 := by omega
    simp [binOp, Op.intDiv, e, Int.tmod_eq_emod_of_nonneg h1]) hn h
theorem op_remT (s : NxF P n l E L Ls ⟨some d, .binOp .rem t x y t', ty, pos, aft, g⟩ X Y) (hx : ev l x = some (.int k p)) (hy : ev l y = some (.int k q)) (h2 : q ≠ 0) (hn : Nat.ble (d + 1) n = true) (h : At n ((d, .int k (p.tmod q)) :: l) E L Y) : At n l E L X :=
  op_int s hx hy (fun w => by simp [binOp, Op.intDiv, h2]) hn h
/-- The sum, the difference, the product, whatever the kind. -/
theorem op_addW (s : NxF P n l E L Ls ⟨some d, .binOp .add t x y t', ty, pos, aft, g⟩ X Y) (hx : ev l x = some (.int k p)) (hy : ev l y = some (.int k q)) (hn : Nat.ble (d + 1) n = true) (h : At n ((d, .int k (k.wrap (p + q))) :: l) E L Y) : At n l E L X :=
  op_int s hx hy (fun w => by simp [binOp, Op.intArith]) hn h
theorem op_subW (s : NxF P n l E L Ls ⟨some d, .binOp .sub t x y t', ty, pos, aft, g⟩ X Y) (hx : ev l x = some (.int k p)) (hy : ev l y = some (.int k q)) (hn : Nat.ble (d + 1) n = true) (h : At n ((d, .int k (k.wrap (p - q))) :: l) E L Y) : At n l E L X :=
  op_int s hx hy (fun w => by simp [binOp, Op.intArith]) hn h
theorem op_mulW (s : NxF P n l E L Ls ⟨some d, .binOp .mul t x y t', ty, pos, aft, g⟩ X Y) (hx : ev l x = some (.int k p)) (hy : ev l y = some (.int k q)) (hn : Nat.ble (d + 1) n = true) (h : At n ((d, .int k (k.wrap (p * q))) :: l) E L Y) : At n l E L X :=
  op_int s hx hy (fun w => by simp [binOp, Op.intArith]) hn h
theorem op_shlW {k' : IntKind} (s : NxF P n l E L Ls ⟨some d, .binOp .shl t x y t', ty, pos, aft, g⟩ X Y) (hx : ev l x = some (.int k p)) (hy : ev l y = some (.int k' q)) (h1 : 0 ≤ q) (hn : Nat.ble (d + 1) n = true) (h : At n ((d, .int k (k.wrap (p * 2 ^ (min q.toNat k.bits)))) :: l) E L Y) : At n l E L X :=
  op_sh s hx hy (fun w => by simp [binOp, Op.shift, show ¬ q < 0 by omega]) hn h
theorem op_shrW {k' : IntKind} (s : NxF P n l E L Ls ⟨some d, .binOp .shr t x y t', ty, pos, aft, g⟩ X Y) (hx : ev l x = some (.int k p)) (hy : ev l y = some (.int k' q)) (h1 : 0 ≤ q) (h0 : 0 ≤ p) (hn : Nat.ble (d + 1) n = true) (h : At n ((d, .int k (p / 2 ^ (min q.toNat k.bits))) :: l) E L Y) : At n l E L X :=
  op_sh s hx hy (fun w => by simp [binOp, Op.shift, show ¬ q < 0 by omega, Int.fdiv_eq_ediv_of_nonneg p (show (0:Int) ≤ 2 ^ (min q.toNat k.bits) from Int.le_of_lt (Int.pow_pos (by decide)))]) hn h
theorem op_bits {op : BinOp} (hop : op = .and ∨ op = .or ∨ op = .xor ∨ op = .andNot) (s : NxF P n l E L Ls ⟨some d, .binOp op t x y t', ty, pos, aft, g⟩ X Y) (hx : ev l x = some (.int k p)) (hy : ev l y = some (.int k q)) (hn : Nat.ble (d + 1) n = true) (h : At n ((d, .int k (bits op k p q)) :: l) E L Y) : At n l E L X :=
  op_int s hx hy (fun w => by rcases hop with rfl | rfl | rfl | rfl <;> simp [binOp, Op.intBits, bits]) hn h
theorem op_not {b : Bool} (s : NxF P n l E L Ls ⟨some d, .unOp .not t x, ty, pos, aft, g⟩ X Y) (hx : ev l x = some (.bool b)) (hn : Nat.ble (d + 1) n = true) (h : At n ((d, .bool (!b)) :: l) E L Y) : At n l E L X :=
  op_val s (fun a w hf _ => by simp [execOp, hf.eval hx, Op.unary]) rfl hn h
theorem op_notP {b : Prop} [Decidable b] (s : NxF P n l E L Ls ⟨some d, .unOp .not t x, ty, pos, aft, g⟩ X Y) (hx : ev l x = some (.bool (decide b))) (hn : Nat.ble (d + 1) n = true) (h : At n ((d, .bool (decide (¬ b))) :: l) E L Y) : At n l E L X :=
  op_not s hx hn (by rw [← decide_not]; exact h)
theorem op_negI (s : NxF P n l E L Ls ⟨some d, .unOp .neg t x, ty, pos, aft, g⟩ X Y) (hx : ev l x = some (.int .i64 p)) (h1 : -9223372036854775808 ≤ 0 - p) (h2 : 0 - p ≤ 9223372036854775807) (hn : Nat.ble (d + 1) n = true) (h : At n ((d, .int .i64 (0 - p)) :: l) E L Y) : At n l E L X :=
  op_val s (fun a w hf _ => by simp only [execOp, hf.eval hx, Op.unary, Op.intArith, wrap_i64 h1 h2]; rfl) rfl hn h
end
end
end Go.Proofs.Ytohmmgggaegbbaa
