/- The order of a region that draws: it may be walked in one order. No condition. -/
import Derived.WalkKit
import Derived.Laws.Panics
namespace Go.Proofs.YtdplcfineaikjaaDoor
set_option linter.unusedVariables false
set_option linter.unusedSimpArgs false
open Go

/-- Every block of w is in w' as it was. -/
def Agree (w w' : World) : Prop := ∀ b, b < w.heap.size → w'.heap[b]? = w.heap[b]?

theorem Agree.refl (w : World) : Agree w w := fun _ _ => rfl
theorem Agree.le {w w' : World} (h : Agree w w') : w.heap.size ≤ w'.heap.size := by
  rcases Nat.lt_or_ge w'.heap.size w.heap.size with hlt | hge
  · have := h _ hlt
    rw [Array.getElem?_eq_none (Nat.le_refl _)] at this
    rw [Array.getElem?_eq_getElem hlt] at this
    cases this
  · exact hge
theorem Agree.trans {a b c : World} (h : Agree a b) (k : Agree b c) : Agree a c := fun i hi => (k i (Nat.lt_of_lt_of_le hi h.le)).trans (h i hi)
theorem Agree.block {w w' : World} (h : Agree w w') {b : Nat} {o : Obj} (hb : w.heap[b]? = some o) : w'.heap[b]? = some o := by
  rw [h b, hb]
  rcases Nat.lt_or_ge b w.heap.size with hlt | hge
  · exact hlt
  · rw [Array.getElem?_eq_none hge] at hb; cases hb
theorem Agree.cell {w w' : World} (h : Agree w w') {a : Addr} {v : Value} (hc : w.cell? a = some v) : w'.cell? a = some v := by
  have hb := World.block_lt_of_cell? w a hc
  unfold World.cell? at *
  rw [h _ hb]; exact hc
theorem Agree.of_below {w w' : World} (h : RowKit.Below w.heap.size w w') : Agree w w' := fun b hb => h.block b hb
theorem Agree.alloc (w : World) (o : Obj) : Agree w (w.alloc o) := fun b hb => RowKit.Below.heap_alloc w o b hb
theorem Agree.drew {a w : World} (h : Agree a w) : Agree a w.drew := h

/-- s only reads: where it gives a value the world is as it was, and in every world that holds all of this one's blocks it gives the same. -/
def SRO {α : Type} (P : Program) (s : Sem α) : Prop := ∀ w v w1, s.run P w = .ok v w1 → w1 = w ∧ ∀ w', Agree w w' → s.run P w' = .ok v w'

variable {P : Program}
theorem SRO.pure {α : Type} (a : α) : SRO P (Pure.pure a : Sem α) := by
  intro w v w1 h
  simp only [Sem.run_pure, Result.ok.injEq] at h
  obtain ⟨rfl, rfl⟩ := h
  exact ⟨rfl, fun w' _ => by simp⟩
theorem SRO.bind {α β : Type} {s : Sem α} {f : α → Sem β} (hs : SRO P s) (hf : ∀ a, SRO P (f a)) : SRO P (s >>= f) := by
  intro w v w1 h
  rw [Sem.run_bind] at h
  cases hr : s.run P w with
  | ok a w2 =>
    rw [hr] at h
    obtain ⟨rfl, h2⟩ := hs w a w2 hr
    obtain ⟨rfl, h3⟩ := hf a _ v w1 h
    exact ⟨rfl, fun w' hw => by rw [Sem.run_bind, h2 w' hw]; exact h3 w' hw⟩
  | halt x w2 => rw [hr] at h; cases h
theorem SRO.of_halt {α : Type} {s : Sem α} (h : ∀ w, ∃ x w', s.run P w = .halt x w') : SRO P s := by
  intro w v w1 hr
  obtain ⟨x, w', hx⟩ := h w
  rw [hx] at hr; cases hr
theorem SRO.stuck {α : Type} (m : String) : SRO P (stuck m : Sem α) := .of_halt fun w => ⟨_, w, rfl⟩
theorem SRO.unsupported {α : Type} (m : Unsupported) : SRO P (unsupported m : Sem α) := .of_halt fun w => ⟨_, w, rfl⟩
theorem SRO.bounds {α : Type} (k : IntKind) (x y : Int) (c : BoundsCode) : SRO P (boundsPanic k x y c : Sem α) := .of_halt fun w => by
  obtain ⟨s, w', h⟩ := run_boundsPanic (α := α) (P := P) (w := w) k x y c
  exact ⟨_, _, h⟩
theorem SRO.error {α : Type} (m : String) : SRO P (runtimePanic (.error m) : Sem α) := .of_halt fun w =>
  ⟨.panic (.iface P.rt.errorString (strVal m)), w, rfl⟩
theorem SRO.nilDeref {α : Type} : SRO P (runtimePanic .nilDeref : Sem α) := .of_halt fun w =>
  ⟨.panic (.iface P.rt.errorString (strVal _)), w, rfl⟩
theorem SRO.program : SRO P Go.program := by
  intro w v w1 h
  have h' : Result.ok P w = Result.ok v w1 := h
  simp only [Result.ok.injEq] at h'
  obtain ⟨rfl, rfl⟩ := h'
  exact ⟨rfl, fun w' _ => rfl⟩
theorem seen_agree {w w' : World} {p : Program} {at_ : Addr} {u : TypeId} {k : Addr} {b : Bool} (h : w'.heap[at_.block]? = w.heap[at_.block]?) :
    w'.seen p at_ u k b = w.seen p at_ u k b := by
  unfold World.seen; rw [h]
theorem SRO.load (a : Addr) (m : Mode) : SRO P (Go.load a m) := by
  intro w v w1 h
  simp only [Go.load, Sem.run] at h
  cases hc : w.cell? a with
  | some u =>
    rw [hc] at h
    simp only [Result.ok.injEq] at h
    obtain ⟨rfl, rfl⟩ := h
    exact ⟨rfl, fun w' hw => by simp [Go.load, Sem.run, hw.cell hc]⟩
  | none =>
    rw [hc] at h
    dsimp only at h
    cases hf : w.farLoad P a (m == .atomic) with
    | error e => rw [hf] at h; cases h
    | ok r =>
      rw [hf] at h
      obtain ⟨u, l⟩ := r
      simp only [Result.ok.injEq] at h
      obtain ⟨rfl, rfl⟩ := h
      refine ⟨rfl, fun w' hw => ?_⟩
      unfold World.farLoad at hf
      cases hb : w.heap[a.block]? with
      | none => rw [hb] at hf; cases hf
      | some o =>
        have hb' := hw.block hb
        rw [hb] at hf
        cases o with
        | view at_ t =>
          have hc' : w'.cell? a = none := by simp [World.cell?, hb']
          have hv : w'.viewLoad P at_ t a (m == .atomic) = w.viewLoad P at_ t a (m == .atomic) := by
            unfold World.viewLoad
            rcases Nat.lt_or_ge at_.block w.heap.size with hlt | hge
            · rw [seen_agree (hw _ hlt)]
            · exfalso
              dsimp only at hf
              have : ∃ e, w.seen P at_ t a (m == .atomic) = .error e := by
                unfold World.seen
                rw [Array.getElem?_eq_none hge]
                simp only [bind, Except.bind, Pure.pure, Except.pure, throw, throwThe, MonadExceptOf.throw]
                repeat' split
                all_goals first | exact ⟨_, rfl⟩ | (rename_i hx; revert hx; simp) 
              obtain ⟨e, he⟩ := this
              unfold World.viewLoad at hf
              rw [he] at hf
              cases hf
          simp only [Go.load, Sem.run, hc', World.farLoad, hb', hv]
          dsimp only at hf
          cases hv2 : w.viewLoad P at_ t a (m == .atomic) with
          | error e => rw [hv2] at hf; cases hf
          | ok r => rw [hv2] at hf; cases hf; rfl
        | _ => cases hf

theorem SRO.ite {α : Type} {c : Prop} [Decidable c] {s t : Sem α} (hs : SRO P s) (ht : SRO P t) : SRO P (if c then s else t) := by
  split
  · exact hs
  · exact ht
theorem SRO.typeInfo (t : TypeId) : SRO P (Go.typeInfo t) := by
  unfold Go.typeInfo
  refine SRO.bind SRO.program fun p => ?_
  split
  · exact SRO.pure _
  · exact SRO.stuck _
theorem SRO.underlying (t : TypeId) : SRO P (Go.underlying t) := by
  unfold Go.underlying
  refine SRO.bind SRO.program fun p => ?_
  split
  · exact SRO.pure _
  · exact SRO.stuck _
theorem SRO.sizeOf (t : TypeId) : SRO P (Go.sizeOf t) := SRO.bind (SRO.typeInfo t) fun _ => SRO.pure _
theorem SRO.isAgg (t : TypeId) : SRO P (Go.isAgg t) := by
  unfold Go.isAgg
  refine SRO.bind (SRO.underlying t) fun d => ?_
  split <;> exact SRO.pure _
theorem SRO.loadCellsFrom (a : Addr) (n : Nat) : ∀ (i : Nat) (acc : Array Value), SRO P (Go.loadCellsFrom a i n acc) := by
  induction n with
  | zero => exact fun i acc => SRO.pure _
  | succ n ih => exact fun i acc => SRO.bind (SRO.load _ _) fun v => ih _ _
theorem SRO.loadCells (a : Addr) (n : Nat) : SRO P (Go.loadCells a n) := SRO.loadCellsFrom a n 0 #[]
theorem SRO.loadVar (t : TypeId) (a : Addr) : SRO P (Go.loadVar t a) := by
  unfold Go.loadVar
  refine SRO.bind (SRO.isAgg t) fun b => ?_
  split
  · exact SRO.bind (SRO.sizeOf t) fun n => SRO.bind (SRO.loadCells a n) fun _ => SRO.pure _
  · exact SRO.load _ _
theorem SRO.asIntOf (v : Value) : SRO P (Go.asIntOf v) := by
  unfold Go.asIntOf
  split
  · exact SRO.pure _
  · exact SRO.unsupported _
  · exact SRO.stuck _
theorem SRO.asBool (v : Value) : SRO P (Go.asBool v) := by
  unfold Go.asBool
  split
  · exact SRO.pure _
  · exact SRO.stuck _
theorem SRO.asAgg (v : Value) : SRO P (Go.asAgg v) := by
  unfold Go.asAgg
  split
  · exact SRO.pure _
  · exact SRO.stuck _
theorem SRO.asAddr (v : Value) : SRO P (Go.asAddr v) := by
  unfold Go.asAddr
  split
  · exact SRO.pure _
  · exact SRO.nilDeref
  · exact SRO.stuck _
theorem SRO.sureAddr (v : Value) : SRO P (Instr.sureAddr v) := by
  unfold Instr.sureAddr
  split
  · exact SRO.pure _
  · exact SRO.stuck _
theorem SRO.part (t : TypeId) (cs : Array Value) (off : Nat) : SRO P (Go.part t cs off) := by
  unfold Go.part
  refine SRO.bind (SRO.isAgg t) fun b => ?_
  split
  · exact SRO.bind (SRO.sizeOf t) fun _ => SRO.pure _
  · split
    · exact SRO.pure _
    · exact SRO.stuck _
theorem SRO.loadAt (t : TypeId) (v : Value) : SRO P (Instr.loadAt t v) := SRO.bind (SRO.sureAddr v) fun a => SRO.loadVar t a
theorem SRO.field (t : TypeId) (x : Value) (i : Nat) : SRO P (Instr.field t x i) := by
  unfold Instr.field
  refine SRO.bind (SRO.underlying t) fun d => ?_
  split
  · split
    · exact SRO.bind (SRO.asAgg x) fun _ => SRO.part _ _ _
    · exact SRO.stuck _
  · exact SRO.stuck _
theorem SRO.extract (x : Value) (i : Nat) : SRO P (Instr.extract x i) := by
  unfold Instr.extract
  split
  · split
    · exact SRO.pure _
    · exact SRO.stuck _
  · exact SRO.stuck _
theorem SRO.index (t : TypeId) (x i : Value) : SRO P (Instr.index t x i) := by
  unfold Instr.index
  refine SRO.bind (SRO.asIntOf i) fun ⟨k, n⟩ => SRO.bind (SRO.underlying t) fun d => ?_
  split
  · split
    · exact SRO.bind (SRO.sizeOf _) fun _ => SRO.part _ _ _
    · exact SRO.bounds _ _ _ _
  · split
    · exact SRO.pure _
    · exact SRO.bounds _ _ _ _
  · exact SRO.stuck _
theorem SRO.indexAt (t : TypeId) (x i : Value) : SRO P (Instr.indexAt t x i) := by
  unfold Instr.indexAt
  repeat' (first | exact SRO.pure _ | exact SRO.stuck _ | exact SRO.unsupported _ | exact SRO.bounds _ _ _ _ | exact SRO.asIntOf _ | exact SRO.underlying _ | exact SRO.sureAddr _ | exact SRO.sizeOf _ | (refine SRO.bind ?_ (fun _ => ?_)) | split | dsimp only)
theorem SRO.sliceBound (x : Value) (y : Nat) (c : BoundsCode) : SRO P (Instr.sliceBound x y c) := by
  unfold Instr.sliceBound
  refine SRO.bind (SRO.asIntOf x) fun ⟨k, n⟩ => ?_
  dsimp only
  split
  · exact SRO.pure _
  · exact SRO.bounds _ _ _ _
theorem SRO.sliceBounds (b : Bool) (n c : Nat) (l h m : Option Value) : SRO P (Instr.sliceBounds b n c l h m) := by
  unfold Instr.sliceBounds
  repeat' (first | exact SRO.pure _ | exact SRO.stuck _ | exact SRO.unsupported _ | exact SRO.bounds _ _ _ _ | exact SRO.asIntOf _ | exact SRO.underlying _ | exact SRO.sureAddr _ | exact SRO.sizeOf _ | exact SRO.sliceBound _ _ _ | (refine SRO.bind ?_ (fun _ => ?_)) | split | dsimp only)
theorem SRO.slice (t : TypeId) (x : Value) (l h m : Option Value) : SRO P (Instr.slice t x l h m) := by
  unfold Instr.slice
  refine SRO.bind (SRO.underlying t) fun d => ?_
  split
  · split
    · exact SRO.bind (SRO.stuck _) fun _ => SRO.bind (SRO.sliceBounds _ _ _ _ _ _) fun _ => SRO.pure _
    · exact SRO.bind (SRO.sliceBounds _ _ _ _ _ _) fun _ => SRO.pure _
  · exact SRO.bind (SRO.sliceBounds _ _ _ _ _ _) fun _ => SRO.bind (SRO.sizeOf _) fun _ => SRO.pure _
  · refine SRO.bind (SRO.asAddr _) fun a => SRO.bind (SRO.underlying _) fun d => ?_
    split
    · exact SRO.bind (SRO.sliceBounds _ _ _ _ _ _) fun _ => SRO.bind (SRO.sizeOf _) fun _ => SRO.pure _
    · exact SRO.stuck _
  · exact SRO.stuck _
theorem SRO.sliceAt (t : TypeId) (x : Value) (l h m : Option Value) : SRO P (Instr.sliceAt t x l h m) := by
  unfold Instr.sliceAt
  refine SRO.bind (SRO.underlying t) fun d => ?_
  split
  · exact SRO.bind (SRO.sureAddr _) fun _ => SRO.bind (SRO.sliceBounds _ _ _ _ _ _) fun _ => SRO.bind (SRO.sizeOf _) fun _ => SRO.pure _
  · exact SRO.slice _ _ _ _ _
theorem SRO.unary (op : UnOp) (x : Value) : SRO P (Op.unary op x) := by
  unfold Op.unary
  split
  · unfold Op.intArith; exact SRO.pure _
  · unfold Op.intBits; exact SRO.pure _
  · exact SRO.pure _
  · exact SRO.pure _
  · exact SRO.pure _
  · exact SRO.unsupported _
  · exact SRO.unsupported _
  · exact SRO.stuck _
theorem SRO.binInt (op : BinOp) (t : TypeId) (k k' : IntKind) (a b : Int) : SRO P (binOp op t (.int k a) (.int k' b)) := by
  have h1 : ∀ op, SRO P (Op.intArith op k a b) := fun op => by unfold Op.intArith; split <;> first | exact SRO.pure _ | exact SRO.stuck _
  have h2 : ∀ op, SRO P (Op.intDiv op k a b) := fun op => by
    unfold Op.intDiv; split
    · exact SRO.error _
    · split <;> first | exact SRO.pure _ | exact SRO.stuck _
  have h3 : ∀ op, SRO P (Op.intBits op k a b) := fun op => by unfold Op.intBits; dsimp only; split <;> first | exact SRO.pure _ | exact SRO.stuck _
  have h4 : ∀ op, SRO P (Op.intCmp op a b) := fun op => by unfold Op.intCmp; split <;> first | exact SRO.pure _ | exact SRO.stuck _
  have h5 : ∀ op, SRO P (Op.shift op k a k' b) := fun op => by
    unfold Op.shift; split
    · exact SRO.error _
    · dsimp only; split <;> first | exact SRO.pure _ | exact SRO.stuck _
  cases op <;> unfold binOp <;> dsimp only <;> first | exact h5 _ | (split <;> first | exact SRO.stuck _ | exact h1 _ | exact h2 _ | exact h3 _ | exact h4 _)
theorem SRO.binString (op : BinOp) (t : TypeId) (a b : ByteArray) : SRO P (binOp op t (.string a) (.string b)) := by
  have h : ∀ op, SRO P (Op.stringOp op a b) := fun op => by
    unfold Op.stringOp; dsimp only; repeat' split
    all_goals first | exact SRO.pure _ | exact SRO.stuck _ | exact SRO.unsupported _
  cases op <;> unfold binOp <;> exact h _
theorem SRO.eqBool (t : TypeId) (a b : Bool) (n : Nat) : SRO P (Op.equalIn (n + 1) t (.bool a) (.bool b)) := by
  unfold Op.equalIn
  refine SRO.bind (SRO.underlying t) fun d => ?_
  cases d <;> first | exact SRO.pure _ | exact SRO.stuck _
theorem SRO.binBool (op : BinOp) (t : TypeId) (a b : Bool) : SRO P (binOp op t (.bool a) (.bool b)) := by
  cases op <;> first
    | exact SRO.stuck _
    | exact SRO.bind (SRO.eqBool t a b 9999) fun _ => SRO.pure _

theorem SRO.zeroValue (t : TypeId) : SRO P (Go.zeroValue t) := by
  unfold Go.zeroValue
  refine SRO.bind (SRO.typeInfo t) fun i => ?_
  split
  · exact SRO.pure _
  · exact SRO.unsupported _
theorem SRO.mapM {α β : Type} {f : α → Sem β} (hf : ∀ a, SRO P (f a)) (l : List α) : SRO P (l.mapM f) := by
  induction l with
  | nil => exact SRO.pure _
  | cons a l ih =>
    rw [List.mapM_cons]
    exact SRO.bind (hf a) fun b => SRO.bind ih fun bs => SRO.pure _
theorem SRO.build (t : TypeId) (parts : Array (Nat × Value)) : SRO P (Instr.build t parts) := by
  unfold Instr.build
  refine SRO.bind (SRO.zeroValue t) fun z => SRO.bind (SRO.underlying t) fun d => ?_
  split
  · rename_i fields
    refine SRO.bind ?_ fun places => ?_
    · rw [Array.mapM_eq_mapM_toList]
      exact SRO.bind (SRO.mapM (fun a => SRO.bind (SRO.sizeOf _) fun _ => SRO.pure _) _) fun _ => SRO.pure _
    · split
      · exact SRO.pure _
      · exact SRO.stuck _
  · refine SRO.bind (SRO.sizeOf _) fun n => ?_
    split
    · exact SRO.pure _
    · exact SRO.stuck _
  · exact SRO.stuck _

/-- The kinds of operation that only read: they may float. -/
def floats : Op → Bool
  | .move _ | .assign _ | .pick _ _ _ | .load _ _ | .nilCheck _ | .binOp _ _ _ _ _ | .unOp _ _ _ | .convert _ _ _ | .fieldAddr _ _ _ | .field _ _ _ | .indexAddr _ _ _ | .index _ _ _ | .slice _ _ _ _ _ | .extract _ _ | .build _ _ | .makeInterface _ _ => true
  | .call c => match c.callee with
    | .builtin .len => true
    | _ => false
  | _ => false

def isInt : Value → Bool
  | .int _ _ => true
  | _ => false
/-- An array of integers. -/
def intsB (P : Program) (t : TypeId) : Bool := match P.underlying t with
  | some (.array _ e) => match P.underlying e with
    | some (.int _) => true
    | _ => false
  | _ => false
theorem SRO.bindR {α β : Type} {s : Sem α} {f : α → Sem β} (hs : SRO P s) (hf : ∀ a, (∃ w w1, s.run P w = .ok a w1) → SRO P (f a)) : SRO P (s >>= f) := by
  intro w v w1 h
  rw [Sem.run_bind] at h
  cases hr : s.run P w with
  | ok a w2 =>
    rw [hr] at h
    obtain ⟨rfl, h2⟩ := hs w a w2 hr
    obtain ⟨rfl, h3⟩ := hf a ⟨_, _, hr⟩ _ v w1 h
    exact ⟨rfl, fun w' hw => by rw [Sem.run_bind, h2 w' hw]; exact h3 w' hw⟩
  | halt x w2 => rw [hr] at h; cases h
theorem SRO.forIn {α β : Type} {f : α → β → Sem (ForInStep β)} (hf : ∀ a b, SRO P (f a b)) (l : List α) : ∀ b, SRO P (ForIn.forIn l b f) := by
  induction l with
  | nil => exact fun b => SRO.pure b
  | cons a l ih =>
    intro b
    rw [List.forIn_cons]
    refine SRO.bind (hf a b) fun r => ?_
    cases r
    · exact SRO.pure _
    · exact ih _
theorem SRO.eqInt (t : TypeId) (k k' : IntKind) (a b : Int) (n : Nat) : SRO P (Op.equalIn (n + 1) t (.int k a) (.int k' b)) := by
  unfold Op.equalIn
  refine SRO.bind (SRO.underlying t) fun d => ?_
  cases d <;> first | exact SRO.stuck _ | exact SRO.ite (SRO.pure _) (SRO.stuck _)
theorem part_int {e : TypeId} {k : IntKind} {cs : Array Value} {off : Nat} {v : Value} {w w1 : World} (he : P.underlying e = some (.int k)) (hc : cs.toList.all isInt = true) (h : (part e cs off).run P w = .ok v w1) : ∃ k' n, v = .int k' n := by
  unfold part isAgg at h
  simp only [Sem.run_bind, run_underlying he, Result.andThen_ok, Sem.run_pure, Bool.false_eq_true, if_false] at h
  cases hv : cs[off]? with
  | none => rw [hv] at h; cases h
  | some u =>
    rw [hv] at h
    simp only [Sem.run_pure, Result.ok.injEq] at h
    obtain ⟨rfl, _⟩ := h
    have hm : u ∈ cs.toList := by
      obtain ⟨h1, h2⟩ := Array.getElem?_eq_some_iff.1 hv
      rw [← h2]
      simp
    have := List.all_eq_true.1 hc u hm
    cases u <;> first | exact ⟨_, _, rfl⟩ | cases this
theorem SRO.eqArr {t e : TypeId} {len : Nat} {k : IntKind} {xs ys : Array Value} (n : Nat) (hu : P.underlying t = some (.array len e)) (he : P.underlying e = some (.int k)) (hx : xs.toList.all isInt = true) (hy : ys.toList.all isInt = true) : SRO P (Op.equalIn (n + 2) t (.agg xs) (.agg ys)) := by
  intro w v w1 h
  rw [Op.equalIn, Sem.run_bind, run_underlying hu] at h
  simp only [Result.andThen_ok] at h
  have key : SRO P (do
      let n' ← Go.sizeOf e
      for i in [0:len] do
        if !(← Op.equalIn (n + 1) e (← Go.part e xs (i * n')) (← Go.part e ys (i * n'))) then return false
      Pure.pure true : Sem Bool) := by
    refine SRO.bind (SRO.sizeOf e) fun n' => ?_
    refine SRO.bind ?_ fun r => ?_
    · rw [Std.Legacy.Range.forIn_eq_forIn_range']
      refine SRO.forIn (fun i b => ?_) _ _
      refine SRO.bindR (SRO.part _ _ _) fun a ⟨_, _, ha⟩ => ?_
      obtain ⟨ka, na, rfl⟩ := part_int he hx ha
      refine SRO.bindR (SRO.part _ _ _) fun c ⟨_, _, hc⟩ => ?_
      obtain ⟨kc, nc, rfl⟩ := part_int he hy hc
      refine SRO.bind (SRO.eqInt _ _ _ _ _ _) fun r => ?_
      split <;> exact SRO.pure _
    · obtain ⟨r1, _⟩ := r
      cases r1 <;> exact SRO.pure _
  obtain ⟨h1, h2⟩ := key w v w1 h
  refine ⟨h1, fun w' hw => ?_⟩
  rw [Op.equalIn, Sem.run_bind, run_underlying hu]
  exact h2 w' hw
theorem SRO.guardAgg {op : BinOp} {t : TypeId} {x y : Operand} {a b : Array Value} (h : P.eqGuardType P.depth t = false) : SRO P (eqGuard op t x y (.agg a) (.agg b)) := by
  have e : ∀ w, (eqGuard op t x y (.agg a) (.agg b)).run P w = .ok () w := fun w => by
    unfold eqGuard
    by_cases ho : (!(op matches .eql | .neq)) = true <;> simp [ho, h]
  intro w v w1 hr
  rw [e] at hr
  cases hr
  exact ⟨rfl, fun w' _ => e w'⟩
theorem SRO.binAgg {op : BinOp} {t : TypeId} {xs ys : Array Value} (ho : (op matches .eql | .neq) = true) (ht : intsB P t = true) (hx : xs.toList.all isInt = true) (hy : ys.toList.all isInt = true) : SRO P (binOp op t (.agg xs) (.agg ys)) := by
  unfold intsB at ht
  split at ht
  · rename_i len e hu
    split at ht
    · rename_i k he
      cases op <;> first
        | (cases ho; done)
        | exact SRO.bind (SRO.eqArr 9998 hu he hx hy) fun _ => SRO.pure _
    · cases ht
  · cases ht
/-- With these values it does so. -/
def floatOK (P : Program) (op : Op) (ρ : Operand → Value) : Bool :=
  match op with
  | .move _ | .assign _ | .pick _ _ _ | .load _ _ | .unOp _ _ _ | .field _ _ _ | .indexAddr _ _ _ | .index _ _ _ | .slice _ _ _ _ _ | .extract _ _ | .build _ _ => true
  | .makeInterface _ _ => true
  | .fieldAddr s _ f => match P.underlying s with
    | some (.struct fs) => match fs[f]? with
      | some g => (P.info? g.type).any fun i => i.size != 0
      | none => false
    | _ => false
  | .nilCheck x => match ρ x with
    | .func _ _ _ => false
    | _ => true
  | .binOp o t x y _ => match ρ x, ρ y with
    | .int _ _, .int _ _ => true
    | .bool _, .bool _ => true
    | .string _, .string _ => true
    | .agg xs, .agg ys => !P.eqGuardType P.depth t && (o matches .eql | .neq) && intsB P t && xs.toList.all isInt && ys.toList.all isInt
    | _, _ => false
  | .convert src dst x => match P.underlying dst, ρ x with
    | some (.int _), .int _ _ => true
    | some .string, .slice _ _ _ => match P.underlying src with
      | some (.slice e) => match P.underlying e with
        | some (.int .u8) => true
        | _ => false
      | _ => false
    | _, _ => false
  | .call c => match c.callee with
    | .builtin .len => match c.args.toList.map ρ with
      | [.slice _ _ _] => true
      | [.string _] => true
      | [.map none] => true
      | _ => false
    | _ => false
  | _ => false

/-- What an operation that floats gives, in this world and in all that hold its blocks. -/
def Floats (P : Program) (s : Sem Next) : Prop := ∀ w n w1, s.run P w = .ok n w1 → ∃ v, n = .value v ∧ w1 = w ∧ ∀ w', Agree w w' → s.run P w' = .ok (.value v) w'

theorem Floats.of {s : Sem Value} (h : SRO P s) : Floats P (do Pure.pure (.value (← s))) := by
  intro w n w1 hr
  rw [Sem.run_bind] at hr
  cases hs : s.run P w with
  | halt x w2 => rw [hs] at hr; cases hr
  | ok v w2 =>
    rw [hs] at hr
    obtain ⟨rfl, h2⟩ := h w v w2 hs
    cases hr
    exact ⟨v, rfl, rfl, fun w' hw => by rw [Sem.run_bind, h2 w' hw]; rfl⟩
theorem Floats.pure (v : Value) : Floats P (Pure.pure (.value v)) := by
  intro w n w1 hr
  cases hr
  exact ⟨v, rfl, rfl, fun w' _ => rfl⟩
theorem Floats.of_halt {s : Sem Next} (h : ∀ w, ∃ x w', s.run P w = .halt x w') : Floats P s := by
  intro w v w1 hr
  obtain ⟨x, w', hx⟩ := h w
  rw [hx] at hr; cases hr

theorem SRO.underlying_bind {α : Type} {t : TypeId} {d : TypeDesc} {f : TypeDesc → Sem α} (h : P.underlying t = some d) (hf : SRO P (f d)) : SRO P (Go.underlying t >>= f) := by
  intro w v w1 hr
  rw [Sem.run_bind, run_underlying h] at hr
  obtain ⟨h1, h2⟩ := hf w v w1 hr
  exact ⟨h1, fun w' hw => by rw [Sem.run_bind, run_underlying h]; exact h2 w' hw⟩
theorem SRO.size_bind {α : Type} {t : TypeId} {i : TypeInfo} {f : Nat → Sem α} (h : P.info? t = some i) (hf : SRO P (f i.size)) : SRO P (Go.sizeOf t >>= f) := by
  have hr0 : ∀ w, (Go.sizeOf t).run P w = .ok i.size w := fun w => by simp [Go.sizeOf, Go.typeInfo, h]
  intro w v w1 hr
  rw [Sem.run_bind, hr0] at hr
  obtain ⟨h1, h2⟩ := hf w v w1 hr
  exact ⟨h1, fun w' hw => by rw [Sem.run_bind, hr0]; exact h2 w' hw⟩
theorem SRO.bytesToString (ao : Option Addr) (n c : Nat) : SRO P (Conv.bytesToString (.slice ao n c)) := by
  cases ao with
  | none => exact SRO.pure _
  | some a =>
    refine SRO.bind (SRO.loadCells a n) fun cs => SRO.bind ?_ fun _ => SRO.pure _
    rw [← Array.forIn_toList]
    refine SRO.forIn (fun v b => ?_) _ _
    split
    · exact SRO.pure _
    · exact SRO.bind (SRO.stuck _) fun _ => SRO.pure _

theorem floats_exec (P : Program) (o : Oper) (ρ : Operand → Value) (h : floatOK P o.op ρ = true) : Floats P (execOp ρ o) := by
  obtain ⟨dst, op, type, pos, after, guard⟩ := o
  cases op <;> dsimp only [floatOK] at h <;> try (cases h; done)
  case move x => exact Floats.pure _
  case assign x => exact Floats.pure _
  case pick c a b =>
    intro w n w1 hr
    simp only [execOp] at hr ⊢
    cases hc : ρ c <;> simp only [hc, asBool] at hr ⊢ <;> first | (cases hr; done) | skip
    cases hr
    exact ⟨_, rfl, rfl, fun _ _ => rfl⟩
  case load t a => exact Floats.of (SRO.loadAt _ _)
  case nilCheck x =>
    simp only [execOp]
    cases hx : ρ x <;> simp only [hx] at h ⊢ <;> try first | exact Floats.pure _ | (cases h; done)
    case pointer a =>
      cases a
      · exact Floats.of_halt fun w => ⟨.panic (.iface P.rt.errorString (strVal _)), w, rfl⟩
      · exact Floats.pure _
    case nilFunc => exact Floats.of_halt fun w => ⟨.panic (.iface P.rt.errorString (strVal _)), w, rfl⟩
    case nilIface => exact Floats.of_halt fun w => ⟨.panic (.iface P.rt.errorString (strVal _)), w, rfl⟩
  case binOp op t x y t' =>
    simp only [execOp]
    refine Floats.of ?_
    have hg : SRO P (eqGuard op t x y (ρ x) (ρ y)) := by
      revert h
      cases ρ x <;> cases ρ y <;> intro h <;> first
        | (cases h; done)
        | (unfold eqGuard; exact SRO.ite (SRO.pure _) (SRO.pure _))
        | (simp only [Bool.and_eq_true] at h; exact SRO.guardAgg (by simpa using h.1.1.1.1))
    refine SRO.bind hg fun _ => ?_
    revert h
    cases ρ x <;> cases ρ y <;> intro h <;> first
      | exact SRO.binInt _ _ _ _ _ _
      | exact SRO.binBool _ _ _ _
      | exact SRO.binString _ _ _ _
      | (cases h; done)
      | (simp only [Bool.and_eq_true] at h; exact SRO.binAgg h.1.1.1.2 h.1.1.2 h.1.2 h.2)
  case unOp op t x => exact Floats.of (SRO.unary _ _)
  case convert src dst x =>
    simp only [execOp]
    refine Floats.of ?_
    unfold Go.convert
    cases hd : P.underlying dst with
    | none => rw [hd] at h; cases h
    | some d =>
      rw [hd] at h
      cases d <;> try (cases h; done)
      case int k =>
        cases hx : ρ x <;> rw [hx] at h <;> try (cases h; done)
        refine SRO.bind (SRO.underlying src) fun d0 => SRO.underlying_bind hd ?_
        cases d0 <;> exact SRO.pure _
      case string =>
        cases hx : ρ x <;> rw [hx] at h <;> try (cases h; done)
        dsimp only at h
        cases hs : P.underlying src with
        | none => rw [hs] at h; cases h
        | some s =>
          rw [hs] at h
          cases s <;> try (cases h; done)
          case slice e =>
            dsimp only at h
            cases he : P.underlying e with
            | none => rw [he] at h; cases h
            | some d1 =>
              rw [he] at h
              cases d1 <;> try (cases h; done)
              case int k =>
                cases k <;> try (cases h; done)
                exact SRO.underlying_bind hs (SRO.underlying_bind hd (SRO.underlying_bind he (SRO.bytesToString _ _ _)))
  case fieldAddr s x f =>
    simp only [execOp]
    refine Floats.of ?_
    cases hs : P.underlying s with
    | none => rw [hs] at h; cases h
    | some d =>
      rw [hs] at h
      cases d <;> try (cases h; done)
      case struct fs =>
        dsimp only at h
        cases hf : fs[f]? with
        | none => rw [hf] at h; cases h
        | some g =>
          rw [hf] at h
          dsimp only at h
          cases hi : P.info? g.type with
          | none => rw [hi] at h; cases h
          | some i =>
            rw [hi] at h
            have hsz : i.size ≠ 0 := by simpa using h
            refine SRO.underlying_bind hs ?_
            dsimp only
            rw [hf]
            refine SRO.bind (SRO.sureAddr _) fun a => SRO.bind ?_ fun _ => SRO.pure _
            refine SRO.size_bind hi ?_
            rw [if_neg hsz]
            exact SRO.pure _
  case field t x f => exact Floats.of (SRO.field _ _ _)
  case indexAddr t x i => exact Floats.of (SRO.indexAt _ _ _)
  case index t x i => exact Floats.of (SRO.index _ _ _)
  case slice t x l h m => exact Floats.of (SRO.sliceAt _ _ _ _ _)
  case extract x i => exact Floats.of (SRO.extract _ _)
  case build t parts => exact Floats.of (SRO.build _ _)
  case makeInterface t x =>
    refine Floats.of ?_
    unfold Instr.makeInterface
    refine SRO.bind (SRO.underlying t) fun d => ?_
    split
    · exact SRO.stuck _
    · exact SRO.pure _
  case call c =>
    obtain ⟨callee, args, ats⟩ := c
    cases callee <;> try (cases h; done)
    case builtin b =>
      cases b <;> try (cases h; done)
      rw [BigFrame.execOp_builtin, BigFrame.builtin_len]
      refine Floats.of ?_
      have e : args.map ρ = (args.toList.map ρ).toArray := by apply Array.ext'; simp
      rw [e]
      dsimp only at h
      revert h
      generalize args.toList.map ρ = L
      intro h
      unfold Builtin.len_
      cases hat : ats[0]? with
      | none => cases L <;> exact SRO.stuck _
      | some t =>
        match L, h with
        | [.slice _ _ _], _ =>
          refine SRO.bind (SRO.underlying t) fun d => ?_
          cases d <;> first | exact SRO.pure _ | exact SRO.stuck _ | skip
          refine SRO.bind (SRO.underlying _) fun d => ?_
          cases d <;> first | exact SRO.pure _ | exact SRO.stuck _
        | [.string _], _ =>
          refine SRO.bind (SRO.underlying t) fun d => ?_
          cases d <;> first | exact SRO.pure _ | exact SRO.stuck _ | skip
          refine SRO.bind (SRO.underlying _) fun d => ?_
          cases d <;> first | exact SRO.pure _ | exact SRO.stuck _
        | [.map none], _ =>
          refine SRO.bind (SRO.underlying t) fun d => ?_
          cases d <;> first | exact SRO.pure _ | exact SRO.stuck _ | skip
          refine SRO.bind (SRO.underlying _) fun d => ?_
          cases d <;> first | exact SRO.pure _ | exact SRO.stuck _
end Go.Proofs.YtdplcfineaikjaaDoor
