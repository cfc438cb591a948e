/- Several texts in one: see the remarks ahead of each part. No condition but those told there. -/
import Derived.WalkKit
import Derived.Laws.Panics
import Derived.OwnWalk
import Derived.Laws.BytesString
set_option linter.unusedSimpArgs false
set_option linter.unusedVariables false
namespace Go.Proofs.YtalmjkcapecpiaaGreat
open Go
theorem U {α:Sort _} {a:α}:a=a:=rfl
def Agree (w w':World):Prop:= ∀b,b<w.heap.size→w'.heap[b]? =w.heap[b]?
theorem Agree.refl (w:World):Agree w w:=fun _ _=>rfl
theorem Agree.le {w w':World} (h:Agree w w'):w.heap.size≤w'.heap.size:=by
 rcases Nat.lt_or_ge w'.heap.size w.heap.size with hlt|hge
 ·have:=h _ hlt
  rw [Array.getElem?_eq_none (Nat.le_refl _)]at this
  rw [Array.getElem?_eq_getElem hlt]at this
  cases this
 ·exact hge
theorem Agree.trans {a b c:World} (h:Agree a b) (k:Agree b c):Agree a c:=fun i hi=>(k i (Nat.lt_of_lt_of_le hi h.le)).trans (h i hi)
theorem Agree.block {w w':World} (h:Agree w w') {b:Nat} {o:Obj} (hb:w.heap[b]? =some o):w'.heap[b]? =some o:=by
 rw [h b,hb]
 rcases Nat.lt_or_ge b w.heap.size with hlt|hge
 ·exact hlt
 ·rw [Array.getElem?_eq_none hge]at hb;cases hb
theorem Agree.cell {w w':World} (h:Agree w w') {a:Addr} {v:Value} (hc:w.cell? a=some v):w'.cell? a=some v:=by
 have hb:=World.block_lt_of_cell? w a hc
 unfold World.cell? at*
 rw [h _ hb];exact hc
theorem Agree.of_below {w w':World} (h:RowKit.Below w.heap.size w w'):Agree w w':=fun b hb=>h.block b hb
theorem Agree.alloc (w:World) (o:Obj):Agree w (w.alloc o):=fun b hb=>RowKit.Below.heap_alloc w o b hb
theorem Agree.drew {a w:World} (h:Agree a w):Agree a w.drew:=h
def SRO {α:Type} (P:Program) (s:Sem α):Prop:= ∀w v w1,s.run P w=.ok v w1→w1=w∧ ∀w',Agree w w'→s.run P w'=.ok v w'
variable {P : Program}
theorem SRO.pure {α:Type} (a:α):SRO P (Pure.pure a:Sem α):=by
 intro w v w1 h
 simp only [Sem.run_pure,Result.ok.injEq]at h
 obtain⟨rfl,rfl⟩:=h
 exact⟨rfl,fun w' _=>by simp⟩
theorem SRO.bind {α β:Type} {s:Sem α} {f:α→Sem β} (hs:SRO P s) (hf: ∀a,SRO P (f a)):SRO P (s>>=f):=by
 intro w v w1 h
 rw [Sem.run_bind]at h
 cases hr:s.run P w with
 |ok a w2=>
  rw [hr]at h
  obtain⟨rfl,h2⟩:=hs w a w2 hr
  obtain⟨rfl,h3⟩:=hf a _ v w1 h
  exact⟨rfl,fun w' hw=>by rw [Sem.run_bind,h2 w' hw];exact h3 w' hw⟩
 |halt x w2=>rw [hr]at h;cases h
theorem SRO.of_halt {α:Type} {s:Sem α} (h: ∀w, ∃x w',s.run P w=.halt x w'):SRO P s:=by
 intro w v w1 hr
 obtain⟨x,w',hx⟩:=h w
 rw [hx]at hr;cases hr
theorem dJ {α:Type} (m:String):SRO P (stuck m:Sem α):=.of_halt fun w=>⟨_,w,rfl⟩
theorem SRO.unsupported {α:Type} (m:Unsupported):SRO P (unsupported m:Sem α):=.of_halt fun w=>⟨_,w,rfl⟩
theorem SRO.bounds {α:Type} (k:IntKind) (x y:Int) (c:BoundsCode):SRO P (boundsPanic k x y c:Sem α):=.of_halt fun w=>by
 obtain⟨s,w',h⟩:=run_boundsPanic (α:=α) (P:=P) (w:=w) k x y c
 exact⟨_,_,h⟩
theorem SRO.error {α:Type} (m:String):SRO P (runtimePanic (.error m):Sem α):=.of_halt fun w=>
 ⟨.panic (.iface P.rt.errorString (strVal m)),w,rfl⟩
theorem SRO.nilDeref {α:Type} :SRO P (runtimePanic .nilDeref:Sem α):=.of_halt fun w=>
 ⟨.panic (.iface P.rt.errorString (strVal _)),w,rfl⟩
theorem SRO.program:SRO P Go.program:=by
 intro w v w1 h
 have h':Result.ok P w=Result.ok v w1:=h
 simp only [Result.ok.injEq]at h'
 obtain⟨rfl,rfl⟩:=h'
 exact⟨rfl,fun w' _=>rfl⟩
theorem seen_agree {w w':World} {p:Program} {at_:Addr} {u:TypeId} {k:Addr} {b:Bool} (h:w'.heap[at_.block]? =w.heap[at_.block]?):
 w'.seen p at_ u k b=w.seen p at_ u k b:=by
 unfold World.seen;rw [h]
theorem SRO.load (a:Addr) (m:Mode):SRO P (Go.load a m):=by
 intro w v w1 h
 simp only [Go.load,Sem.run]at h
 cases hc:w.cell? a with
 |some u=>
  rw [hc]at h
  simp only [Result.ok.injEq]at h
  obtain⟨rfl,rfl⟩:=h
  exact⟨rfl,fun w' hw=>by simp [Go.load,Sem.run,hw.cell hc]⟩
 |none=>
  rw [hc]at h
  dsimp only at h
  cases hf:w.farLoad P a (m==.atomic)with
  |error e=>rw [hf]at h;cases h
  |ok r=>
   rw [hf]at h
   obtain⟨u,l⟩:=r
   simp only [Result.ok.injEq]at h
   obtain⟨rfl,rfl⟩:=h
   refine⟨rfl,fun w' hw=>?_⟩
   unfold World.farLoad at hf
   cases hb:w.heap[a.block]? with
   |none=>rw [hb]at hf;cases hf
   |some o=>
    have hb':=hw.block hb
    rw [hb]at hf
    cases o with
    |view at_ t=>
     have hc':w'.cell? a=none:=by simp [World.cell?,hb']
     have hv:w'.viewLoad P at_ t a (m==.atomic)=w.viewLoad P at_ t a (m==.atomic):=by
      unfold World.viewLoad
      rcases Nat.lt_or_ge at_.block w.heap.size with hlt|hge
      ·rw [seen_agree (hw _ hlt)]
      ·exfalso
       dsimp only at hf
       have: ∃e,w.seen P at_ t a (m==.atomic)=.error e:=by
        unfold World.seen
        rw [Array.getElem?_eq_none hge]
        simp only [bind,Except.bind,Pure.pure,Except.pure,throw,throwThe,MonadExceptOf.throw]
        repeat' split
        all_goals first|exact⟨_,rfl⟩|(rename_i hx;revert hx;simp) 
       obtain⟨e,he⟩:=this
       unfold World.viewLoad at hf
       rw [he]at hf
       cases hf
     simp only [Go.load,Sem.run,hc',World.farLoad,hb',hv]
     dsimp only at hf
     cases hv2:w.viewLoad P at_ t a (m==.atomic)with
     |error e=>rw [hv2]at hf;cases hf
     |ok r=>rw [hv2]at hf;cases hf;rfl
    |_=>cases hf
theorem SRO.ite {α:Type} {c:Prop} [Decidable c] {s t:Sem α} (hs:SRO P s) (ht:SRO P t):SRO P (if c then s else t):=by
 split
 ·exact hs
 ·exact ht
theorem SRO.typeInfo (t:TypeId):SRO P (Go.typeInfo t):=by
 unfold Go.typeInfo
 refine SRO.bind SRO.program fun p=>?_
 split
 ·exact SRO.pure _
 ·exact dJ _
theorem SRO.underlying (t:TypeId):SRO P (Go.underlying t):=by
 unfold Go.underlying
 refine SRO.bind SRO.program fun p=>?_
 split
 ·exact SRO.pure _
 ·exact dJ _
theorem SRO.sizeOf (t:TypeId):SRO P (Go.sizeOf t):=SRO.bind (SRO.typeInfo t) fun _=>SRO.pure _
theorem SRO.isAgg (t:TypeId):SRO P (Go.isAgg t):=by
 unfold Go.isAgg
 refine SRO.bind (SRO.underlying t) fun d=>?_
 split<;>exact SRO.pure _
theorem SRO.loadCellsFrom (a:Addr) (n:Nat): ∀(i:Nat) (acc:Array Value),SRO P (Go.loadCellsFrom a i n acc):=by
 induction n with
 |zero=>exact fun i acc=>SRO.pure _
 |succ n ih=>exact fun i acc=>SRO.bind (SRO.load _ _) fun v=>ih _ _
theorem SRO.loadCells (a:Addr) (n:Nat):SRO P (Go.loadCells a n):=SRO.loadCellsFrom a n 0 #[]
theorem SRO.loadVar (t:TypeId) (a:Addr):SRO P (Go.loadVar t a):=by
 unfold Go.loadVar
 refine SRO.bind (SRO.isAgg t) fun b=>?_
 split
 ·exact SRO.bind (SRO.sizeOf t) fun n=>SRO.bind (SRO.loadCells a n) fun _=>SRO.pure _
 ·exact SRO.load _ _
theorem SRO.asIntOf (v:Value):SRO P (Go.asIntOf v):=by
 unfold Go.asIntOf
 split
 ·exact SRO.pure _
 ·exact SRO.unsupported _
 ·exact dJ _
theorem SRO.asBool (v:Value):SRO P (Go.asBool v):=by
 unfold Go.asBool
 split
 ·exact SRO.pure _
 ·exact dJ _
theorem SRO.asAgg (v:Value):SRO P (Go.asAgg v):=by
 unfold Go.asAgg
 split
 ·exact SRO.pure _
 ·exact dJ _
theorem SRO.asAddr (v:Value):SRO P (Go.asAddr v):=by
 unfold Go.asAddr
 split
 ·exact SRO.pure _
 ·exact SRO.nilDeref
 ·exact dJ _
theorem SRO.sureAddr (v:Value):SRO P (Instr.sureAddr v):=by
 unfold Instr.sureAddr
 split
 ·exact SRO.pure _
 ·exact dJ _
theorem SRO.part (t:TypeId) (cs:Array Value) (off:Nat):SRO P (Go.part t cs off):=by
 unfold Go.part
 refine SRO.bind (SRO.isAgg t) fun b=>?_
 split
 ·exact SRO.bind (SRO.sizeOf t) fun _=>SRO.pure _
 ·split
  ·exact SRO.pure _
  ·exact dJ _
theorem SRO.loadAt (t:TypeId) (v:Value):SRO P (Instr.loadAt t v):=SRO.bind (SRO.sureAddr v) fun a=>SRO.loadVar t a
theorem SRO.field (t:TypeId) (x:Value) (i:Nat):SRO P (Instr.field t x i):=by
 unfold Instr.field
 refine SRO.bind (SRO.underlying t) fun d=>?_
 split
 ·split
  ·exact SRO.bind (SRO.asAgg x) fun _=>SRO.part _ _ _
  ·exact dJ _
 ·exact dJ _
theorem SRO.extract (x:Value) (i:Nat):SRO P (Instr.extract x i):=by
 unfold Instr.extract
 split
 ·split
  ·exact SRO.pure _
  ·exact dJ _
 ·exact dJ _
theorem SRO.index (t:TypeId) (x i:Value):SRO P (Instr.index t x i):=by
 unfold Instr.index
 refine SRO.bind (SRO.asIntOf i) fun⟨k,n⟩=>SRO.bind (SRO.underlying t) fun d=>?_
 split
 ·split
  ·exact SRO.bind (SRO.sizeOf _) fun _=>SRO.part _ _ _
  ·exact SRO.bounds _ _ _ _
 ·split
  ·exact SRO.pure _
  ·exact SRO.bounds _ _ _ _
 ·exact dJ _
theorem SRO.indexAt (t:TypeId) (x i:Value):SRO P (Instr.indexAt t x i):=by
 unfold Instr.indexAt
 repeat' (first|exact SRO.pure _|exact dJ _|exact SRO.unsupported _|exact SRO.bounds _ _ _ _|exact SRO.asIntOf _|exact SRO.underlying _|exact SRO.sureAddr _|exact SRO.sizeOf _|(refine SRO.bind ?_ (fun _=>?_))|split|dsimp only)
theorem SRO.sliceBound (x:Value) (y:Nat) (c:BoundsCode):SRO P (Instr.sliceBound x y c):=by
 unfold Instr.sliceBound
 refine SRO.bind (SRO.asIntOf x) fun⟨k,n⟩=>?_
 dsimp only
 split
 ·exact SRO.pure _
 ·exact SRO.bounds _ _ _ _
theorem SRO.sliceBounds (b:Bool) (n c:Nat) (l h m:Option Value):SRO P (Instr.sliceBounds b n c l h m):=by
 unfold Instr.sliceBounds
 repeat' (first|exact SRO.pure _|exact dJ _|exact SRO.unsupported _|exact SRO.bounds _ _ _ _|exact SRO.asIntOf _|exact SRO.underlying _|exact SRO.sureAddr _|exact SRO.sizeOf _|exact SRO.sliceBound _ _ _|(refine SRO.bind ?_ (fun _=>?_))|split|dsimp only)
theorem SRO.slice (t:TypeId) (x:Value) (l h m:Option Value):SRO P (Instr.slice t x l h m):=by
 unfold Instr.slice
 refine SRO.bind (SRO.underlying t) fun d=>?_
 split
 ·split
  ·exact SRO.bind (dJ _) fun _=>SRO.bind (SRO.sliceBounds _ _ _ _ _ _) fun _=>SRO.pure _
  ·exact SRO.bind (SRO.sliceBounds _ _ _ _ _ _) fun _=>SRO.pure _
 ·exact SRO.bind (SRO.sliceBounds _ _ _ _ _ _) fun _=>SRO.bind (SRO.sizeOf _) fun _=>SRO.pure _
 ·refine SRO.bind (SRO.asAddr _) fun a=>SRO.bind (SRO.underlying _) fun d=>?_
  split
  ·exact SRO.bind (SRO.sliceBounds _ _ _ _ _ _) fun _=>SRO.bind (SRO.sizeOf _) fun _=>SRO.pure _
  ·exact dJ _
 ·exact dJ _
theorem SRO.sliceAt (t:TypeId) (x:Value) (l h m:Option Value):SRO P (Instr.sliceAt t x l h m):=by
 unfold Instr.sliceAt
 refine SRO.bind (SRO.underlying t) fun d=>?_
 split
 ·exact SRO.bind (SRO.sureAddr _) fun _=>SRO.bind (SRO.sliceBounds _ _ _ _ _ _) fun _=>SRO.bind (SRO.sizeOf _) fun _=>SRO.pure _
 ·exact SRO.slice _ _ _ _ _
theorem SRO.unary (op:UnOp) (x:Value):SRO P (Op.unary op x):=by
 unfold Op.unary
 split
 ·unfold Op.intArith;exact SRO.pure _
 ·unfold Op.intBits;exact SRO.pure _
 ·exact SRO.pure _
 ·exact SRO.pure _
 ·exact SRO.pure _
 ·exact SRO.unsupported _
 ·exact SRO.unsupported _
 ·exact dJ _
theorem SRO.binInt (op:BinOp) (t:TypeId) (k k':IntKind) (a b:Int):SRO P (binOp op t (.int k a) (.int k' b)):=by
 have h1: ∀op,SRO P (Op.intArith op k a b):=fun op=>by unfold Op.intArith;split<;>first|exact SRO.pure _|exact dJ _
 have h2: ∀op,SRO P (Op.intDiv op k a b):=fun op=>by
  unfold Op.intDiv;split
  ·exact SRO.error _
  ·split<;>first|exact SRO.pure _|exact dJ _
 have h3: ∀op,SRO P (Op.intBits op k a b):=fun op=>by unfold Op.intBits;dsimp only;split<;>first|exact SRO.pure _|exact dJ _
 have h4: ∀op,SRO P (Op.intCmp op a b):=fun op=>by unfold Op.intCmp;split<;>first|exact SRO.pure _|exact dJ _
 have h5: ∀op,SRO P (Op.shift op k a k' b):=fun op=>by
  unfold Op.shift;split
  ·exact SRO.error _
  ·dsimp only;split<;>first|exact SRO.pure _|exact dJ _
 cases op<;>unfold binOp<;>dsimp only<;>first|exact h5 _|(split<;>first|exact dJ _|exact h1 _|exact h2 _|exact h3 _|exact h4 _)
theorem SRO.binString (op:BinOp) (t:TypeId) (a b:ByteArray):SRO P (binOp op t (.string a) (.string b)):=by
 have h: ∀op,SRO P (Op.stringOp op a b):=fun op=>by
  unfold Op.stringOp;dsimp only;repeat' split
  all_goals first|exact SRO.pure _|exact dJ _|exact SRO.unsupported _
 cases op<;>unfold binOp<;>exact h _
theorem SRO.eqBool (t:TypeId) (a b:Bool) (n:Nat):SRO P (Op.equalIn (n+1) t (.bool a) (.bool b)):=by
 unfold Op.equalIn
 refine SRO.bind (SRO.underlying t) fun d=>?_
 cases d<;>first|exact SRO.pure _|exact dJ _
theorem SRO.binBool (op:BinOp) (t:TypeId) (a b:Bool):SRO P (binOp op t (.bool a) (.bool b)):=by
 cases op<;>first
  |exact dJ _
  |exact SRO.bind (SRO.eqBool t a b 9999) fun _=>SRO.pure _
theorem SRO.zeroValue (t:TypeId):SRO P (Go.zeroValue t):=by
 unfold Go.zeroValue
 refine SRO.bind (SRO.typeInfo t) fun i=>?_
 split
 ·exact SRO.pure _
 ·exact SRO.unsupported _
theorem SRO.mapM {α β:Type} {f:α→Sem β} (hf: ∀a,SRO P (f a)) (l:List α):SRO P (l.mapM f):=by
 induction l with
 |nil=>exact SRO.pure _
 |cons a l ih=>
  rw [List.mapM_cons]
  exact SRO.bind (hf a) fun b=>SRO.bind ih fun bs=>SRO.pure _
theorem SRO.build (t:TypeId) (parts:Array (Nat×Value)):SRO P (Instr.build t parts):=by
 unfold Instr.build
 refine SRO.bind (SRO.zeroValue t) fun z=>SRO.bind (SRO.underlying t) fun d=>?_
 split
 ·rename_i fields
  refine SRO.bind ?_ fun places=>?_
  ·rw [Array.mapM_eq_mapM_toList]
   exact SRO.bind (SRO.mapM (fun a=>SRO.bind (SRO.sizeOf _) fun _=>SRO.pure _) _) fun _=>SRO.pure _
  ·split
   ·exact SRO.pure _
   ·exact dJ _
 ·refine SRO.bind (SRO.sizeOf _) fun n=>?_
  split
  ·exact SRO.pure _
  ·exact dJ _
 ·exact dJ _
def floats:Op→Bool
 |.move _|.assign _|.pick _ _ _|.load _ _|.nilCheck _|.binOp _ _ _ _ _|.unOp _ _ _|.fieldAddr _ _ _|.field _ _ _|.indexAddr _ _ _|.index _ _ _|.slice _ _ _ _ _|.extract _ _|.build _ _|.makeInterface _ _|.sliceToArrayPointer _ _=>true
 |.convert s d _=> !(s==9&&d==37)
 |.call c=>match c.callee with
  |.builtin .len=>true
  |_=>false
 |_=>false
def isInt:Value→Bool
 |.int _ _=>true
 |_=>false
def intsB (P:Program) (t:TypeId):Bool:=match P.underlying t with
 |some (.array _ e)=>match P.underlying e with
  |some (.int _)=>true
  |_=>false
 |_=>false
theorem SRO.bindR {α β:Type} {s:Sem α} {f:α→Sem β} (hs:SRO P s) (hf: ∀a,(∃w w1,s.run P w=.ok a w1)→SRO P (f a)):SRO P (s>>=f):=by
 intro w v w1 h
 rw [Sem.run_bind]at h
 cases hr:s.run P w with
 |ok a w2=>
  rw [hr]at h
  obtain⟨rfl,h2⟩:=hs w a w2 hr
  obtain⟨rfl,h3⟩:=hf a ⟨_,_,hr⟩ _ v w1 h
  exact⟨rfl,fun w' hw=>by rw [Sem.run_bind,h2 w' hw];exact h3 w' hw⟩
 |halt x w2=>rw [hr]at h;cases h
theorem SRO.forIn {α β:Type} {f:α→β→Sem (ForInStep β)} (hf: ∀a b,SRO P (f a b)) (l:List α): ∀b,SRO P (ForIn.forIn l b f):=by
 induction l with
 |nil=>exact fun b=>SRO.pure b
 |cons a l ih=>
  intro b
  rw [List.forIn_cons]
  refine SRO.bind (hf a b) fun r=>?_
  cases r
  ·exact SRO.pure _
  ·exact ih _
theorem SRO.eqInt (t:TypeId) (k k':IntKind) (a b:Int) (n:Nat):SRO P (Op.equalIn (n+1) t (.int k a) (.int k' b)):=by
 unfold Op.equalIn
 refine SRO.bind (SRO.underlying t) fun d=>?_
 cases d<;>first|exact dJ _|exact SRO.ite (SRO.pure _) (dJ _)
theorem part_int {e:TypeId} {k:IntKind} {cs:Array Value} {off:Nat} {v:Value} {w w1:World} (he:P.underlying e=some (.int k)) (hc:cs.toList.all isInt=true) (h:(part e cs off).run P w=.ok v w1): ∃k' n,v=.int k' n:=by
 unfold part isAgg at h
 simp only [Sem.run_bind,run_underlying he,Result.andThen_ok,Sem.run_pure,Bool.false_eq_true,if_false]at h
 cases hv:cs[off]? with
 |none=>rw [hv]at h;cases h
 |some u=>
  rw [hv]at h
  simp only [Sem.run_pure,Result.ok.injEq]at h
  obtain⟨rfl,_⟩:=h
  have hm:u∈cs.toList:=by
   obtain⟨h1,h2⟩:=Array.getElem?_eq_some_iff.1 hv
   rw [←h2]
   simp
  have:=List.all_eq_true.1 hc u hm
  cases u<;>first|exact⟨_,_,rfl⟩|cases this
theorem SRO.eqArr {t e:TypeId} {len:Nat} {k:IntKind} {xs ys:Array Value} (n:Nat) (hu:P.underlying t=some (.array len e)) (he:P.underlying e=some (.int k)) (hx:xs.toList.all isInt=true) (hy:ys.toList.all isInt=true):SRO P (Op.equalIn (n+2) t (.agg xs) (.agg ys)):=by
 intro w v w1 h
 rw [Op.equalIn,Sem.run_bind,run_underlying hu]at h
 simp only [Result.andThen_ok]at h
 have key:SRO P (do
  let n' ←Go.sizeOf e
  for i in [0:len] do
   if !(←Op.equalIn (n+1) e (←Go.part e xs (i*n')) (←Go.part e ys (i*n')))then return false
  Pure.pure true:Sem Bool):=by
  refine SRO.bind (SRO.sizeOf e) fun n'=>SRO.bind ?_ fun r=>?_
  ·rw [Std.Legacy.Range.forIn_eq_forIn_range']
   refine SRO.forIn (fun i b=>SRO.bindR (SRO.part _ _ _) fun a ⟨_,_,ha⟩=>?_) _ _
   obtain⟨ka,na,rfl⟩:=part_int he hx ha
   refine SRO.bindR (SRO.part _ _ _) fun c ⟨_,_,hc⟩=>?_
   obtain⟨kc,nc,rfl⟩:=part_int he hy hc
   refine SRO.bind (SRO.eqInt _ _ _ _ _ _) fun r=>?_
   split<;>exact SRO.pure _
  ·obtain⟨r1,_⟩:=r
   cases r1<;>exact SRO.pure _
 obtain⟨h1,h2⟩:=key w v w1 h
 refine⟨h1,fun w' hw=>?_⟩
 rw [Op.equalIn,Sem.run_bind,run_underlying hu]
 exact h2 w' hw
theorem SRO.guardAgg {op:BinOp} {t:TypeId} {x y:Operand} {a b:Array Value} (h:P.eqGuardType P.depth t=false):SRO P (eqGuard op t x y (.agg a) (.agg b)):=by
 have e: ∀w,(eqGuard op t x y (.agg a) (.agg b)).run P w=.ok () w:=fun w=>by
  unfold eqGuard
  by_cases ho:(!(op matches .eql|.neq))=true<;>simp [ho,h]
 intro w v w1 hr
 rw [e]at hr
 cases hr
 exact⟨rfl,fun w' _=>e w'⟩
theorem SRO.binAgg {op:BinOp} {t:TypeId} {xs ys:Array Value} (ho:(op matches .eql|.neq)=true) (ht:intsB P t=true) (hx:xs.toList.all isInt=true) (hy:ys.toList.all isInt=true):SRO P (binOp op t (.agg xs) (.agg ys)):=by
 unfold intsB at ht
 split at ht
 ·rename_i len e hu
  split at ht
  ·rename_i k he
   cases op<;>first
    |(cases ho;done)
    |exact SRO.bind (SRO.eqArr 9998 hu he hx hy) fun _=>SRO.pure _
  ·cases ht
 ·cases ht
def floatOK (P:Program) (op:Op) (ρ:Operand→Value):Bool:=
 match op with
 |.move _|.assign _|.pick _ _ _|.load _ _|.unOp _ _ _|.field _ _ _|.indexAddr _ _ _|.index _ _ _|.slice _ _ _ _ _|.extract _ _|.build _ _=>true
 |.makeInterface _ _=>true
 |.fieldAddr s _ f=>match P.underlying s with
  |some (.struct fs)=>match fs[f]? with
   |some g=>(P.info? g.type).any fun i=>i.size !=0
   |none=>false
  |_=>false
 |.nilCheck x=>match ρ x with
  |.func _ _ _=>false
  |_=>true
 |.binOp o t x y _=>match ρ x,ρ y with
  |.int _ _,.int _ _=>true
  |.bool _,.bool _=>true
  |.string _,.string _=>true
  |.agg xs,.agg ys=> !P.eqGuardType P.depth t&&(o matches .eql|.neq)&&intsB P t&&xs.toList.all isInt&&ys.toList.all isInt
  |_,_=>false
 |.convert src dst x=>match P.underlying dst,ρ x with
  |some (.int _),.int _ _=>true
  |some .string,.slice _ _ _=>match P.underlying src with
   |some (.slice e)=>match P.underlying e with
    |some (.int .u8)=>true
    |_=>false
   |_=>false
  |_,_=>false
 |.call c=>match c.callee with
  |.builtin .len=>match c.args.toList.map ρ with
   | [.slice _ _ _]=>true
   | [.string _]=>true
   | [.map none]=>true
   |_=>false
  |_=>false
 |_=>false
def Floats (P:Program) (s:Sem Next):Prop:= ∀w n w1,s.run P w=.ok n w1→ ∃v,n=.value v∧w1=w∧ ∀w',Agree w w'→s.run P w'=.ok (.value v) w'
theorem Floats.of {s:Sem Value} (h:SRO P s):Floats P (do Pure.pure (.value (←s))):=by
 intro w n w1 hr
 rw [Sem.run_bind]at hr
 cases hs:s.run P w with
 |halt x w2=>rw [hs]at hr;cases hr
 |ok v w2=>
  rw [hs]at hr
  obtain⟨rfl,h2⟩:=h w v w2 hs
  cases hr
  exact⟨v,rfl,rfl,fun w' hw=>by rw [Sem.run_bind,h2 w' hw];rfl⟩
theorem Floats.pure (v:Value):Floats P (Pure.pure (.value v)):=by
 intro w n w1 hr
 cases hr
 exact⟨v,rfl,rfl,fun w' _=>rfl⟩
theorem Floats.of_halt {s:Sem Next} (h: ∀w, ∃x w',s.run P w=.halt x w'):Floats P s:=by
 intro w v w1 hr
 obtain⟨x,w',hx⟩:=h w
 rw [hx]at hr;cases hr
theorem SRO.underlying_bind {α:Type} {t:TypeId} {d:TypeDesc} {f:TypeDesc→Sem α} (h:P.underlying t=some d) (hf:SRO P (f d)):SRO P (Go.underlying t>>=f):=by
 intro w v w1 hr
 rw [Sem.run_bind,run_underlying h]at hr
 obtain⟨h1,h2⟩:=hf w v w1 hr
 exact⟨h1,fun w' hw=>by rw [Sem.run_bind,run_underlying h];exact h2 w' hw⟩
theorem SRO.size_bind {α:Type} {t:TypeId} {i:TypeInfo} {f:Nat→Sem α} (h:P.info? t=some i) (hf:SRO P (f i.size)):SRO P (Go.sizeOf t>>=f):=by
 have hr0: ∀w,(Go.sizeOf t).run P w=.ok i.size w:=fun w=>by simp [Go.sizeOf,Go.typeInfo,h]
 intro w v w1 hr
 rw [Sem.run_bind,hr0]at hr
 obtain⟨h1,h2⟩:=hf w v w1 hr
 exact⟨h1,fun w' hw=>by rw [Sem.run_bind,hr0];exact h2 w' hw⟩
theorem SRO.bytesToString (ao:Option Addr) (n c:Nat):SRO P (Conv.bytesToString (.slice ao n c)):=by
 cases ao with
 |none=>exact SRO.pure _
 |some a=>
  refine SRO.bind (SRO.loadCells a n) fun cs=>SRO.bind ?_ fun _=>SRO.pure _
  rw [←Array.forIn_toList]
  refine SRO.forIn (fun v b=>?_) _ _
  split
  ·exact SRO.pure _
  ·exact SRO.bind (dJ _) fun _=>SRO.pure _
theorem floats_exec (P:Program) (o:Oper) (ρ:Operand→Value) (h:floatOK P o.op ρ=true):Floats P (execOp ρ o):=by
 obtain⟨dst,op,type,pos,after,guard⟩:=o
 cases op<;>dsimp only [floatOK]at h<;>try (cases h;done)
 case move x=>exact Floats.pure _
 case assign x=>exact Floats.pure _
 case pick c a b=>
  intro w n w1 hr
  simp only [execOp]at hr⊢
  cases hc:ρ c<;>simp only [hc,asBool]at hr⊢ <;>first|(cases hr;done)|skip
  cases hr
  exact⟨_,rfl,rfl,fun _ _=>rfl⟩
 case load t a=>exact Floats.of (SRO.loadAt _ _)
 case nilCheck x=>
  simp only [execOp]
  cases hx:ρ x<;>simp only [hx]at h⊢ <;>try first|exact Floats.pure _|(cases h;done)
  case pointer a=>
   cases a
   ·exact Floats.of_halt fun w=>⟨.panic (.iface P.rt.errorString (strVal _)),w,rfl⟩
   ·exact Floats.pure _
  case nilFunc=>exact Floats.of_halt fun w=>⟨.panic (.iface P.rt.errorString (strVal _)),w,rfl⟩
  case nilIface=>exact Floats.of_halt fun w=>⟨.panic (.iface P.rt.errorString (strVal _)),w,rfl⟩
 case binOp op t x y t'=>
  simp only [execOp]
  refine Floats.of ?_
  have hg:SRO P (eqGuard op t x y (ρ x) (ρ y)):=by
   revert h
   cases ρ x<;>cases ρ y<;>intro h<;>first
    |(cases h;done)
    |(unfold eqGuard;exact SRO.ite (SRO.pure _) (SRO.pure _))
    |(simp only [Bool.and_eq_true]at h;exact SRO.guardAgg (by simpa using h.1.1.1.1))
  refine SRO.bind hg fun _=>?_
  revert h
  cases ρ x<;>cases ρ y<;>intro h<;>first
   |exact SRO.binInt _ _ _ _ _ _
   |exact SRO.binBool _ _ _ _
   |exact SRO.binString _ _ _ _
   |(cases h;done)
   |(simp only [Bool.and_eq_true]at h;exact SRO.binAgg h.1.1.1.2 h.1.1.2 h.1.2 h.2)
 case unOp op t x=>exact Floats.of (SRO.unary _ _)
 case convert src dst x=>
  simp only [execOp]
  refine Floats.of ?_
  unfold Go.convert
  cases hd:P.underlying dst with
  |none=>rw [hd]at h;cases h
  |some d=>
   rw [hd]at h
   cases d<;>try (cases h;done)
   case int k=>
    cases hx:ρ x<;>rw [hx]at h<;>try (cases h;done)
    refine SRO.bind (SRO.underlying src) fun d0=>SRO.underlying_bind hd ?_
    cases d0<;>exact SRO.pure _
   case string=>
    cases hx:ρ x<;>rw [hx]at h<;>try (cases h;done)
    dsimp only at h
    cases hs:P.underlying src with
    |none=>rw [hs]at h;cases h
    |some s=>
     rw [hs]at h
     cases s<;>try (cases h;done)
     case slice e=>
      dsimp only at h
      cases he:P.underlying e with
      |none=>rw [he]at h;cases h
      |some d1=>
       rw [he]at h
       cases d1<;>try (cases h;done)
       case int k=>
        cases k<;>try (cases h;done)
        exact SRO.underlying_bind hs (SRO.underlying_bind hd (SRO.underlying_bind he (SRO.bytesToString _ _ _)))
 case fieldAddr s x f=>
  simp only [execOp]
  refine Floats.of ?_
  cases hs:P.underlying s with
  |none=>rw [hs]at h;cases h
  |some d=>
   rw [hs]at h
   cases d<;>try (cases h;done)
   case struct fs=>
    dsimp only at h
    cases hf:fs[f]? with
    |none=>rw [hf]at h;cases h
    |some g=>
     rw [hf]at h
     dsimp only at h
     cases hi:P.info? g.type with
     |none=>rw [hi]at h;cases h
     |some i=>
      rw [hi]at h
      have hsz:i.size≠0:=by simpa using h
      refine SRO.underlying_bind hs ?_
      dsimp only
      rw [hf]
      refine SRO.bind (SRO.sureAddr _) fun a=>SRO.bind (SRO.size_bind hi ?_) fun _=>SRO.pure _
      rw [if_neg hsz]
      exact SRO.pure _
 case field t x f=>exact Floats.of (SRO.field _ _ _)
 case indexAddr t x i=>exact Floats.of (SRO.indexAt _ _ _)
 case index t x i=>exact Floats.of (SRO.index _ _ _)
 case slice t x l h m=>exact Floats.of (SRO.sliceAt _ _ _ _ _)
 case extract x i=>exact Floats.of (SRO.extract _ _)
 case build t parts=>exact Floats.of (SRO.build _ _)
 case makeInterface t x=>
  refine Floats.of ?_
  unfold Instr.makeInterface
  refine SRO.bind (SRO.underlying t) fun d=>?_
  split
  ·exact dJ _
  ·exact SRO.pure _
 case call c=>
  obtain⟨callee,args,ats⟩:=c
  cases callee<;>try (cases h;done)
  case builtin b=>
   cases b<;>try (cases h;done)
   rw [BigFrame.execOp_builtin,BigFrame.builtin_len]
   refine Floats.of ?_
   have e:args.map ρ=(args.toList.map ρ).toArray:=by apply Array.ext';simp
   rw [e]
   dsimp only at h
   revert h
   generalize args.toList.map ρ=L
   intro h
   unfold Builtin.len_
   cases hat:ats[0]? with
   |none=>cases L<;>exact dJ _
   |some t=>
    match L,h with
    | [.slice _ _ _],_=>
     refine SRO.bind (SRO.underlying t) fun d=>?_
     cases d<;>first|exact SRO.pure _|exact dJ _|skip
     refine SRO.bind (SRO.underlying _) fun d=>?_
     cases d<;>first|exact SRO.pure _|exact dJ _
    | [.string _],_=>
     refine SRO.bind (SRO.underlying t) fun d=>?_
     cases d<;>first|exact SRO.pure _|exact dJ _|skip
     refine SRO.bind (SRO.underlying _) fun d=>?_
     cases d<;>first|exact SRO.pure _|exact dJ _
    | [.map none],_=>
     refine SRO.bind (SRO.underlying t) fun d=>?_
     cases d<;>first|exact SRO.pure _|exact dJ _|skip
     refine SRO.bind (SRO.underlying _) fun d=>?_
     cases d<;>first|exact SRO.pure _|exact dJ _
variable {P : Program} {ops : Array Oper} {md : Region.Mode} {Q : Exit → Act → World → Prop}
def wpOne (P:Program) (ops:Array Oper) (sink:Nat→Bool) (Q:Exit→Act→World→Prop):List Nat→Act→World→Prop
 | [],a,w=>Q .normal a w
 |i::rest,a,w=>
  match ops[i]? with
  |none=>False
  |some o=>
   if Region.wanted o (yielded ops a.tmps)then
    if floats o.op then floatOK P o.op a.eval=true∧o.wp P a w (wpOne P ops sink Q rest) (fun _ _ _=>False)
    else o.wp P a w (fun a' w'=>(sink i=true∨Agree w w')∧wpOne P ops sink Q rest a' w') (fun _ _ _=>False)
   else wpOne P ops sink Q rest (a.put o.dst undef) w
def RunsNow (P:Program) (ops:Array Oper) (w:World) (o:Oper) (a:Act) (v:Value):Prop:=
 (Region.wanted o (yielded ops a.tmps)=true∧ ∀w',Agree w w'→(execOp a.eval o).run P w'=.ok (.value v) w')∨(Region.wanted o (yielded ops a.tmps)=false∧v=undef)
inductive PendRun (P:Program) (ops:Array Oper) (w:World):Act→List (Nat×Value)→Act→Prop
 |nil (a:Act):PendRun P ops w a [] a
 |cons {a ag:Act} {i:Nat} {v:Value} {o:Oper} {l:List (Nat×Value)} (ho:ops[i]? =some o) (hr:RunsNow P ops w o a v) (h:PendRun P ops w (a.put o.dst v) l ag):PendRun P ops w a ((i,v)::l) ag
def NoSel (o:Oper):Prop:= ∀cs b,o.op≠.select cs b
theorem RunsNow.put {w:World} {oi oj:Oper} {a:Act} {v u:Value} (hap:oi.apart ops oj=true) (hs:NoSel oj) (h:RunsNow P ops w oj (a.put oi.dst v) u):RunsNow P ops w oj a u:=by
 obtain⟨h1,_,_⟩:=Oper.apart_spec hap
 unfold RunsNow at*
 rw [wanted_put oj a oi.dst v h1,execOp_put oj hs a oi.dst v h1]at h
 exact h
theorem RunsNow.put' {w:World} {oi oj:Oper} {a:Act} {v u:Value} (hap:oi.apart ops oj=true) (hs:NoSel oj) (h:RunsNow P ops w oj a u):RunsNow P ops w oj (a.put oi.dst v) u:=by
 obtain⟨h1,_,_⟩:=Oper.apart_spec hap
 unfold RunsNow at*
 rw [wanted_put oj a oi.dst v h1,execOp_put oj hs a oi.dst v h1]
 exact h
theorem apart_symm {oi oj:Oper} (h:oi.apart ops oj=true):oj.apart ops oi=true:=by
 obtain⟨h1,h2,h3⟩:=Oper.apart_spec h
 unfold Oper.apart
 cases hi:oi.dst with
 |none=>
  cases hj:oj.dst with
  |none=>rfl
  |some d=>simp;exact h3 d hj
 |some c=>
  cases hj:oj.dst with
  |none=>simp;exact h1 c hi
  |some d=>
   have:=h2 c hi
   rw [hj]at this
   simp
   exact⟨⟨h3 d hj,fun e=>this (by rw [e])⟩,h1 c hi⟩
theorem PendRun.mono {w w':World} (hw:Agree w w') {a ag:Act} {l:List (Nat×Value)} (h:PendRun P ops w a l ag):PendRun P ops w' a l ag:=by
 induction h with
 |nil a=>exact .nil a
 |cons ho hr _ ih=>exact .cons ho (hr.imp (fun⟨x,y⟩=>⟨x,fun w2 h2=>y w2 (hw.trans h2)⟩) id) ih
theorem PendRun.pull {w:World} {i:Nat} {o:Oper} {v:Value} (hi:ops[i]? =some o) (hs: ∀(j:Nat) (oj:Oper),ops[j]? =some oj→NoSel oj) {post:List (Nat×Value)} :
 ∀(pre:List (Nat×Value)) {a ag:Act},(∀p∈pre, ∀oj,ops[p.1]? =some oj→oj.apart ops o=true)→PendRun P ops w a (pre++(i,v)::post) ag→
  RunsNow P ops w o a v∧PendRun P ops w (a.put o.dst v) (pre++post) ag:=by
 intro pre
 induction pre with
 |nil=>
  intro a ag _ h
  cases h with
  |cons ho hr h=>rw [hi]at ho;cases ho;exact⟨hr,h⟩
 |cons p pre ih=>
  intro a ag hap h
  cases h with
  | @cons _ _ j u oj _ ho hr h=>
   have hj:=hap (j,u) (List.mem_cons_self) oj ho
   obtain⟨h1,h2⟩:=ih (fun q hq=>hap q (List.mem_cons_of_mem _ hq)) h
   refine⟨h1.put hj (hs i o hi),(.cons ho (hr.put' (apart_symm hj) (hs j oj ho)) ?_)⟩
   rw [←Act.put_comm a u v (Oper.apart_spec hj).2.1]
   exact h2
theorem PendRun.push {w:World} {o:Oper} (hs: ∀(j:Nat) (oj:Oper),ops[j]? =some oj→NoSel oj) (ho:NoSel o) {l:List (Nat×Value)} {a ag:Act} (h:PendRun P ops w a l ag)
 (hap: ∀p∈l, ∀oj,ops[p.1]? =some oj→oj.apart ops o=true):
 execOp ag.eval o=execOp a.eval o∧Region.wanted o (yielded ops ag.tmps)=Region.wanted o (yielded ops a.tmps)∧ ∀u,PendRun P ops w (a.put o.dst u) l (ag.put o.dst u):=by
 induction h with
 |nil a=>exact⟨rfl,rfl,fun u=>.nil _⟩
 | @cons a ag j v oj l hoj hr h ih=>
  have hj:=hap (j,v) (List.mem_cons_self) oj hoj
  obtain⟨h1,h2,h3⟩:=Oper.apart_spec hj
  obtain⟨i1,i2,i3⟩:=ih (fun q hq=>hap q (List.mem_cons_of_mem _ hq))
  refine⟨i1.trans (execOp_put o ho a _ _ h1),i2.trans (wanted_put o a _ _ h1),fun u=>.cons hoj (hr.put' (apart_symm hj) (hs j oj hoj)) ?_⟩
  rw [←Act.put_comm a v u h2]
  exact i3 u
theorem PendRun.snoc {w:World} {l:List (Nat×Value)} {a ag:Act} {c:Nat} {oc:Oper} {v:Value} (h:PendRun P ops w a l ag) (hoc:ops[c]? =some oc) (hr:RunsNow P ops w oc ag v):
 PendRun P ops w a (l++ [(c,v)]) (ag.put oc.dst v):=by
 induction h with
 |nil a=>exact .cons hoc hr (.nil _)
 |cons ho hr' _ ih=>exact .cons ho hr' (ih hr)
theorem PendRun.defers {w:World} {l:List (Nat×Value)} {a ag:Act} (h:PendRun P ops w a l ag) (d:Deferred):
 PendRun P ops w { a with defers:=d::a.defers } l { ag with defers:=d::ag.defers } :=by
 induction h with
 |nil a=>exact .nil _
 | @cons a ag j v oj l hoj hr h ih=>
  refine .cons hoj hr ?_
  rw [←Act.put_defers]
  exact ih
def DepsIn (md:Region.Mode) (ops:Array Oper) (G:Nat→Prop) (i:Nat):Prop:= ∀o,ops[i]? =some o→ ∀e∈o.after,Region.binds md e=true→G e.on
def WaitsOn (md:Region.Mode) (ops:Array Oper) (k j:Nat):Prop:= ∃o,ops[k]? =some o∧ ∃e∈o.after,Region.binds md e=true∧e.on=j
def FloatsAt (ops:Array Oper) (i:Nat):Prop:= ∀o,ops[i]? =some o→floats o.op=true
def With (G:Nat→Prop) (i:Nat) (j:Nat):Prop:=G j∨j=i
def OrdOK (md:Region.Mode) (ops:Array Oper) (sink:Nat→Bool):(Nat→Prop)→List Nat→Prop
 |_,[]=>True
 |G,i::l=>DepsIn md ops G i∧(FloatsAt ops i∨((∀j,j<ops.size→ ¬G j→DepsIn md ops G j→j=i)∧(sink i=true→ ∀j,G j→ ∃k,With G i k∧WaitsOn md ops k j)))∧OrdOK md ops sink (With G i) l
variable {sink : Nat → Bool}
theorem DepsIn.mono {G G':Nat→Prop} (h: ∀j,G j→G' j) {i:Nat} (hd:DepsIn md ops G i):DepsIn md ops G' i:=fun o ho e he hb=>h _ (hd o ho e he hb)
theorem OrdOK.congr {l:List Nat} : ∀ {G G':Nat→Prop},(∀j,G j↔G' j)→OrdOK md ops sink G l→OrdOK md ops sink G' l:=by
 intro G G' h
 have:G=G':=funext fun j=>propext (h j)
 rw [this];exact id
theorem OrdOK.pull {l:List Nat} {i:Nat} : ∀(pre:List Nat) {G:Nat→Prop},(∀j∈pre,FloatsAt ops j)→DepsIn md ops G i→OrdOK md ops sink G (pre++i::l)→OrdOK md ops sink (With G i) (pre++l):=by
 intro pre
 induction pre with
 |nil=>intro G _ _ h;exact h.2.2
 |cons p pre ih=>
  intro G hf hd h
  refine⟨h.1.mono (fun j=>Or.inl),.inl (hf p List.mem_cons_self),(OrdOK.congr (fun j=>?_) (ih (fun j hj=>hf j (List.mem_cons_of_mem _ hj)) (hd.mono (fun j=>Or.inl)) h.2.2))⟩
  simp only [With,or_assoc,or_comm (a:=j=p)]
theorem OrdOK.noWait {l:List Nat} {i:Nat} : ∀(pre:List Nat) {G:Nat→Prop}, ¬G i→i∉pre→OrdOK md ops sink G (pre++i::l)→ ∀j∈pre, ¬WaitsOn md ops j i:=by
 intro pre
 induction pre with
 |nil=>intro G _ _ _ j hj;cases hj
 |cons p pre ih=>
  intro G hG hn h j hj hw
  rcases List.mem_cons.1 hj with rfl|hj
  ·obtain⟨o,ho,e,he,hb,rfl⟩:=hw
   exact hG (h.1 o ho e he hb)
  ·refine ih (G:=With G p) (fun hh=>?_) (fun hh=>hn (List.mem_cons_of_mem _ hh)) h.2.2 j hj hw
   rcases hh with hh|hh
   ·exact hG hh
   ·exact hn (by rw [hh];exact List.mem_cons_self)
theorem OrdOK.at {l:List Nat} {i:Nat} : ∀(pre:List Nat) {G:Nat→Prop},OrdOK md ops sink G (pre++i::l)→OrdOK md ops sink (fun j=>G j∨j∈pre) (i::l):=by
 intro pre
 induction pre with
 |nil=>intro G h;exact OrdOK.congr (fun j=>by simp) h
 |cons p pre ih=>
  intro G h
  exact OrdOK.congr (fun j=>by simp [With,or_assoc]) (ih h.2.2)
theorem upon_carry {o:Oper} {a ag:Act} {K K':Act→World→Prop} {r:Result Next} (hv: ∀v w',K (ag.put o.dst v) w'→K' (a.put o.dst v) w')
 (hd: ∀d w',K ({ ag with defers:=d::ag.defers }.put o.dst undef) w'→K' ({ a with defers:=d::a.defers }.put o.dst undef) w')
 (h:o.upon P ag K (fun _ _ _=>False) r):o.upon P a K' Q r:=by
 cases r with
 |ok n w'=>
  cases n<;>simp only [Oper.upon]at h⊢
  case value v=>exact hv _ _ h
  case skip=>exact hv _ _ h
  case defer d=>exact hd _ _ h
  case enter f args=>
   refine Calls.mono h fun e w'' he=>?_
   cases e with
   |returned v=>exact hv _ _ he
   |panicked c=>exact he.elim
   |outgrown=>obtain⟨_,_,hx⟩:=he;exact hx.elim
  case row row args=>exact Rows.mono h fun u w'' he=>hv _ _ he
 |halt x w'=>cases x<;>simp only [Oper.upon]at h
theorem RunsNow.wpOp {w:World} {i:Nat} {o:Oper} {a:Act} {v:Value} (hi:ops[i]? =some o) (h:RunsNow P ops w o a v) {K:Act→World→Prop} (hk:K (a.put o.dst v) w):wpOp P ops Q i K a w:=by
 unfold Go.wpOp
 simp only [hi]
 rcases h with ⟨hw,hr⟩|⟨hw,rfl⟩
 ·rw [if_pos hw]
  left
  unfold Oper.wp
  rw [hr w (Agree.refl w)]
  exact hk
 ·rw [hw]
  exact hk
theorem runsNow_of_wp {w:World} {o:Oper} {a:Act} {K:Act→World→Prop} (hw:Region.wanted o (yielded ops a.tmps)=true) (hf:floatOK P o.op a.eval=true)
 (h:o.wp P a w K (fun _ _ _=>False)): ∃v,RunsNow P ops w o a v∧K (a.put o.dst v) w:=by
 unfold Oper.wp at h
 cases hr:(execOp a.eval o).run P w with
 |halt x w'=>rw [hr]at h;cases x<;>simp only [Oper.upon]at h
 |ok n w'=>
  obtain⟨v,rfl,rfl,h2⟩:=floats_exec P o a.eval hf w n w' hr
  rw [hr]at h
  exact⟨v,.inl ⟨hw,h2⟩,h⟩
structure OneInv (P:Program) (md:Region.Mode) (ops:Array Oper) (sink:Nat→Bool) (Q:Exit→Act→World→Prop) (listed:Array Bool) (pend:List (Nat×Value)) (rem:List Nat) (a ag:Act) (w:World):Prop where
 size:listed.size=ops.size
 closed: ∀j,listed.getD j false=true→DepsIn md ops (fun k=>listed.getD k false=true) j
 parts: ∀j,j<ops.size→listed.getD j false=true∨j∈pend.map (·.1)++rem
 apart: ∀j∈pend.map (·.1)++rem,j<ops.size∧listed.getD j false=false
 nodup:(pend.map (·.1)++rem).Nodup
 fl: ∀j∈pend.map (·.1),FloatsAt ops j
 ord:OrdOK md ops sink (fun k=>listed.getD k false=true) (pend.map (·.1)++rem)
 run:PendRun P ops w a pend ag
 wp:wpOne P ops sink Q rem ag w
theorem getD_tf {listed:Array Bool} {j:Nat} (h:j<listed.size):listed.getD j true=listed.getD j false:=by
 simp [Array.getD,h]
theorem ready_iff {listed:Array Bool} {j:Nat} (hs:listed.size=ops.size):j∈Region.ready md ops listed↔j<ops.size∧listed.getD j false=false∧DepsIn md ops (fun k=>listed.getD k false=true) j:=by
 rw [mem_ready]
 constructor
 ·rintro⟨h0,o,ho,h⟩
  have hlt:j<ops.size:=(Array.getElem?_eq_some_iff.1 ho).1
  refine⟨hlt,by rw [←getD_tf (by omega)];exact h0,fun o' ho'=>?_⟩
  rw [ho]at ho';cases ho'
  exact h
 ·rintro⟨hlt,h0,h⟩
  exact⟨by rw [getD_tf (by omega)];exact h0,ops[j],Array.getElem?_eq_getElem hlt,h _ (Array.getElem?_eq_getElem hlt)⟩
theorem getD_setIf {listed:Array Bool} {i j:Nat} (h:i<listed.size):(listed.setIfInBounds i true).getD j false=true↔With (fun k=>listed.getD k false=true) i j:=by
 by_cases hij:i=j
 ·subst hij
  simp [With,Array.getD,h]
 ·rw [getD_set_ne false hij]
  simp only [With]
  exact⟨Or.inl,fun hh=>hh.elim id (fun e=>absurd e.symm hij)⟩
theorem closed_set {listed:Array Bool} {i:Nat} (hs:listed.size=ops.size) (hi:i<ops.size) (hc: ∀j,listed.getD j false=true→DepsIn md ops (fun k=>listed.getD k false=true) j)
 (hd:DepsIn md ops (fun k=>listed.getD k false=true) i): ∀j,(listed.setIfInBounds i true).getD j false=true→DepsIn md ops (fun k=>(listed.setIfInBounds i true).getD k false=true) j:=by
 intro j hj
 have up: ∀k,listed.getD k false=true→(listed.setIfInBounds i true).getD k false=true:=fun k hk=>(getD_setIf (by omega)).2 (.inl hk)
 rcases(getD_setIf (by omega)).1 hj with h|h
 ·exact(hc j h).mono up
 ·rw [h];exact hd.mono up
def PairsOK (md:Region.Mode) (ops:Array Oper):Prop:= ∀i j (oi oj:Oper),ops[i]? =some oi→ops[j]? =some oj→i≠j→oi.apart ops oj=true∨WaitsOn md ops i j∨WaitsOn md ops j i
theorem OneInv.apartPre {listed:Array Bool} {pre:List (Nat×Value)} {l:List Nat} {i:Nat} {o:Oper} (hp:PairsOK md ops) (hi:ops[i]? =some o)
 (hd:DepsIn md ops (fun k=>listed.getD k false=true) i) (hun:listed.getD i false=false) (hpre: ∀j∈pre.map (·.1),listed.getD j false=false) (hn:i∉pre.map (·.1))
 (hord:OrdOK md ops sink (fun k=>listed.getD k false=true) (pre.map (·.1)++i::l)): ∀p∈pre, ∀oj,ops[p.1]? =some oj→oj.apart ops o=true:=by
 intro p hpp oj hoj
 have hpm:p.1∈pre.map (·.1):=List.mem_map_of_mem hpp
 have hne:p.1≠i:=fun e=>hn (e▸hpm)
 rcases hp p.1 i oj o hoj hi hne with h|h|h
 ·exact h
 ·exact absurd h (hord.noWait _ (by simp [hun]) hn p.1 hpm)
 ·obtain⟨o',ho',e,he,hb,heq⟩:=h
  have:=hd o' ho' e he hb
  rw [heq,hpre _ hpm]at this
  cases this
theorem wpAny_of_one (hs: ∀(j:Nat) (oj:Oper),ops[j]? =some oj→NoSel oj) (hp:PairsOK md ops):
 ∀(fuel:Nat) (listed:Array Bool) (pend:List (Nat×Value)) (rem:List Nat) (a ag:Act) (w:World),
  pend.length+rem.length≤fuel→OneInv P md ops sink Q listed pend rem a ag w→wpAny P md ops Q fuel listed a w:=by
 have stop: ∀(listed:Array Bool) (pend:List (Nat×Value)) (rem:List Nat) (a ag:Act) (w:World),OneInv P md ops sink Q listed pend rem a ag w→Region.ready md ops listed= []→Q .normal a w:=by
  intro listed pend rem a ag w I hr
  cases hl:pend.map (·.1)++rem with
  |nil=>
   obtain⟨h1,h2⟩:=List.append_eq_nil_iff.1 hl
   have h1':pend= []:=by simpa using h1
   subst h1';subst h2
   have hrun:=I.run
   cases hrun
   exact I.wp
  |cons i l=>
   have ha:=I.apart i (by rw [hl];exact List.mem_cons_self)
   have ho:=I.ord
   rw [hl]at ho
   have:i∈Region.ready md ops listed:=(ready_iff I.size).2 ⟨ha.1,ha.2,ho.1⟩
   rw [hr]at this
   cases this
 intro fuel
 induction fuel with
 |zero=>
  intro listed pend rem a ag w hlen I
  have hp0:pend= []:=List.eq_nil_of_length_eq_zero (by omega)
  have hr0:rem= []:=List.eq_nil_of_length_eq_zero (by omega)
  subst hp0;subst hr0
  have hready:Region.ready md ops listed= []:=by
   cases h:Region.ready md ops listed with
   |nil=>rfl
   |cons j l=>
    have hj:j∈Region.ready md ops listed:=by rw [h];exact List.mem_cons_self
    obtain⟨hlt,h0,_⟩:=(ready_iff I.size).1 hj
    rcases I.parts j hlt with h1|h1
    ·rw [h0]at h1;cases h1
    ·cases h1
  exact⟨hready,stop _ _ _ _ _ _ I hready⟩
 |succ fuel ih=>
  intro listed pend rem a ag w hlen I
  refine⟨stop _ _ _ _ _ _ I,?_⟩
  intro i hi
  obtain⟨hlt,hun,hd⟩:=(ready_iff I.size).1 hi
  obtain⟨o,ho⟩: ∃o,ops[i]? =some o:=⟨_,Array.getElem?_eq_getElem hlt⟩
  -- an operation that is pending comes up
  have hpull: ∀(pend:List (Nat×Value)) (rem:List Nat) (ag:Act),pend.length+rem.length≤fuel+1→OneInv P md ops sink Q listed pend rem a ag w→i∈pend.map (·.1)→
   wpOp P ops Q i (wpAny P md ops Q fuel (listed.setIfInBounds i true)) a w:=by
   intro pend rem ag hlen I hm
   obtain⟨⟨i',v⟩,hmem,rfl⟩:=List.mem_map.1 hm
   obtain⟨pre,post,rfl⟩:=List.append_of_mem hmem
   dsimp only at*
   have hord:=I.ord
   have hnd:=I.nodup
   simp only [List.map_append,List.map_cons,List.append_assoc,List.cons_append]at hord hnd
   have hn:i'∉pre.map (·.1):=by
    intro hh
    have:=List.nodup_append.1 hnd
    exact this.2.2 i' hh i' List.mem_cons_self U
   have hpre: ∀j∈pre.map (·.1),listed.getD j false=false:=fun j hj=>(I.apart j (by simp only [List.map_append,List.append_assoc];exact List.mem_append_left _ hj)).2
   obtain⟨h1,h2⟩:=PendRun.pull ho hs pre (OneInv.apartPre hp ho hd hun hpre hn hord) I.run
   refine h1.wpOp ho ?_
   refine ih _ (pre++post) rem _ ag w (by simp at hlen⊢;omega) ?_
   have hsub: ∀j,j∈(pre++post).map (·.1)++rem→j∈(pre++(i',v)::post).map (·.1)++rem∧j≠i':=by
    intro j hj
    simp only [List.map_append,List.map_cons,List.append_assoc,List.cons_append]at hj⊢
    refine⟨?_,?_⟩
    ·rcases List.mem_append.1 hj with h|h
     ·exact List.mem_append_left _ h
     ·exact List.mem_append_right _ (List.mem_cons_of_mem _ h)
    ·rintro rfl
     have hnd2:=List.nodup_append.1 hnd
     rcases List.mem_append.1 hj with h|h
     ·exact hn h
     ·exact(List.nodup_cons.1 hnd2.2.1).1 h
   refine⟨by simpa using I.size,closed_set I.size hlt I.closed hd,?_,?_,?_,?_,?_,h2,I.wp⟩
   ·intro j hj
    rcases I.parts j hj with h|h
    ·exact .inl ((getD_setIf (by have:=I.size;omega)).2 (.inl h))
    ·by_cases hji:j=i'
     ·exact .inl ((getD_setIf (by have:=I.size;omega)).2 (.inr hji))
     ·right
      simp only [List.map_append,List.map_cons,List.append_assoc,List.cons_append]at h⊢
      rcases List.mem_append.1 h with h|h
      ·exact List.mem_append_left _ h
      ·rcases List.mem_cons.1 h with h|h
       ·exact absurd h hji
       ·exact List.mem_append_right _ h
   ·intro j hj
    obtain⟨h1,h2⟩:=hsub j hj
    refine⟨(I.apart j h1).1,?_⟩
    rw [getD_set_ne false (Ne.symm h2)]
    exact(I.apart j h1).2
   ·simp only [List.map_append,List.append_assoc]
    exact(List.nodup_cons.1 ((List.Perm.nodup_iff List.perm_middle).1 hnd)).2
   ·intro j hj
    refine I.fl j ?_
    simp only [List.map_append,List.map_cons]at hj⊢
    rcases List.mem_append.1 hj with h|h
    ·exact List.mem_append_left _ h
    ·exact List.mem_append_right _ (List.mem_cons_of_mem _ h)
   ·have:=OrdOK.pull (pre.map (·.1)) (fun j hj=>I.fl j (by simp only [List.map_append];exact List.mem_append_left _ hj)) hd hord
    simp only [List.map_append,List.append_assoc]
    exact OrdOK.congr (fun j=>(getD_setIf (by have:=I.size;omega)).symm) this
  -- on along the order till i has been met
  have hgo: ∀(rem:List Nat) (pend:List (Nat×Value)) (ag:Act),pend.length+rem.length≤fuel+1→OneInv P md ops sink Q listed pend rem a ag w→
   wpOp P ops Q i (wpAny P md ops Q fuel (listed.setIfInBounds i true)) a w:=by
   intro rem
   induction rem with
   |nil=>
    intro pend ag hlen I
    rcases I.parts i hlt with h|h
    ·rw [hun]at h;cases h
    ·exact hpull pend [] ag hlen I (by simpa using h)
   |cons c rem ihr=>
    intro pend ag hlen I
    have hc:=I.apart c (by simp)
    obtain⟨oc,hoc⟩: ∃oc,ops[c]? =some oc:=⟨_,Array.getElem?_eq_getElem hc.1⟩
    have hat:=OrdOK.at (pend.map (·.1)) I.ord
    have hwp:=I.wp
    simp only [wpOne,hoc]at hwp
    by_cases hfl:floats oc.op=true
    · -- it floats: it joins those that are pending
     have hnext: ∃v,RunsNow P ops w oc ag v∧wpOne P ops sink Q rem (ag.put oc.dst v) w:=by
      by_cases hw:Region.wanted oc (yielded ops ag.tmps)=true
      ·rw [if_pos hw,if_pos hfl]at hwp
       exact runsNow_of_wp hw hwp.1 hwp.2
      ·rw [if_neg hw]at hwp
       exact⟨undef,.inr ⟨by simpa using hw,rfl⟩,hwp⟩
     obtain⟨v,hrn,hwp'⟩:=hnext
     have hrun:PendRun P ops w a (pend++ [(c,v)]) (ag.put oc.dst v):=by
      exact I.run.snoc hoc hrn
     have e:(pend++ [(c,v)]).map (·.1)++rem=pend.map (·.1)++c::rem:=by simp
     refine ihr (pend++ [(c,v)]) (ag.put oc.dst v) (by simp at hlen⊢;omega) ⟨I.size,I.closed,?_,?_,?_,?_,?_,hrun,hwp'⟩
     ·rw [e];exact I.parts
     ·rw [e];exact I.apart
     ·rw [e];exact I.nodup
     ·intro j hj
      simp only [List.map_append,List.map_cons,List.map_nil]at hj
      rcases List.mem_append.1 hj with h|h
      ·exact I.fl j h
      ·simp at h;subst h;intro o' ho';rw [hoc]at ho';cases ho';exact hfl
     ·rw [e];exact I.ord
    · -- it acts
     by_cases him:i∈pend.map (·.1)
     ·exact hpull pend (c::rem) ag hlen I him
     ·rcases hat.2.1 with hf|⟨honly,hsink⟩
      ·exact absurd (hf oc hoc) hfl
      have hci:i=c:=honly i hlt (by simp only [not_or];exact⟨by simp [hun],him⟩) (hd.mono fun j hj=>.inl hj)
      subst hci
      rw [ho]at hoc;cases hoc
      have hpre: ∀j∈pend.map (·.1),listed.getD j false=false:=fun j hj=>(I.apart j (List.mem_append_left _ hj)).2
      have hap:=OneInv.apartPre hp ho hd hun hpre him I.ord
      obtain⟨e1,e2,e3⟩:=PendRun.push hs (hs i o ho) I.run hap
      have hnd:=I.nodup
      have hstep: ∀w',(sink i=true∨Agree w w')→ ∀a' ag',wpOne P ops sink Q rem ag' w'→PendRun P ops w a' pend ag'→wpAny P md ops Q fuel (listed.setIfInBounds i true) a' w':=by
       intro w' hsa a' ag' hw' hrun'
       have hrun2:PendRun P ops w' a' pend ag':=by
        rcases hsa with hsa|hsa
        · -- the sink: nothing is pending
         have hnil:pend= []:=by
          rcases List.eq_nil_or_concat pend with h|⟨pre,⟨j,u⟩,h⟩
          ·exact h
          ·exfalso
           rw [List.concat_eq_append]at h
           subst h
           have hjm:j∈(pre++ [(j,u)]).map (·.1):=by simp
           have hju:=hpre j hjm
           obtain⟨k,hk,hwt⟩:=hsink hsa j (.inr hjm)
           have hord:=I.ord
           simp only [List.map_append,List.map_cons,List.map_nil,List.append_assoc,List.singleton_append]at hord hnd
           have hjn:j∉pre.map (·.1):=fun hh=>(List.nodup_append.1 hnd).2.2 j hh j List.mem_cons_self rfl
           have hself: ¬WaitsOn md ops j j:=by
            intro hh
            obtain⟨o',ho',e,he,hb,heq⟩:=hh
            have h0:=(OrdOK.at (pre.map (·.1)) hord).1 o' ho' e he hb
            rw [heq]at h0
            rcases h0 with h0|h0
            ·rw [hju]at h0;cases h0
            ·exact hjn h0
           obtain⟨o',ho',e,he,hb,heq⟩:=hwt
           rcases hk with (hk|hk)|hk
           ·have:=I.closed k hk o' ho' e he hb
            rw [heq,hju]at this;cases this
           ·simp only [List.map_append,List.map_cons,List.map_nil,List.mem_append,List.mem_singleton]at hk
            rcases hk with hk|hk
            ·exact hord.noWait _ (by simp [hju]) hjn k hk ⟨o',ho',e,he,hb,heq⟩
            ·subst hk;exact hself ⟨o',ho',e,he,hb,heq⟩
           ·subst hk
            have:=hd o' ho' e he hb
            rw [heq,hju]at this;cases this
         subst hnil
         cases hrun'
         exact .nil _
        ·exact hrun'.mono hsa
       refine ih _ pend rem a' ag' w' (by simp at hlen⊢;omega) ?_
       have hsub: ∀j,j∈pend.map (·.1)++rem→j∈pend.map (·.1)++i::rem∧j≠i:=by
        intro j hj
        refine⟨?_,?_⟩
        ·rcases List.mem_append.1 hj with h|h
         ·exact List.mem_append_left _ h
         ·exact List.mem_append_right _ (List.mem_cons_of_mem _ h)
        ·rintro rfl
         rcases List.mem_append.1 hj with h|h
         ·exact him h
         ·exact(List.nodup_cons.1 (List.nodup_append.1 hnd).2.1).1 h
       refine⟨by simpa using I.size,closed_set I.size hlt I.closed hd,?_,?_,?_,I.fl,?_,hrun2,hw'⟩
       ·intro j hj
        rcases I.parts j hj with h|h
        ·exact .inl ((getD_setIf (by have:=I.size;omega)).2 (.inl h))
        ·by_cases hji:j=i
         ·exact .inl ((getD_setIf (by have:=I.size;omega)).2 (.inr hji))
         ·right
          rcases List.mem_append.1 h with h|h
          ·exact List.mem_append_left _ h
          ·rcases List.mem_cons.1 h with h|h
           ·exact absurd h hji
           ·exact List.mem_append_right _ h
       ·intro j hj
        obtain⟨h1,h2⟩:=hsub j hj
        refine⟨(I.apart j h1).1,?_⟩
        rw [getD_set_ne false (Ne.symm h2)]
        exact(I.apart j h1).2
       ·exact(List.nodup_cons.1 ((List.Perm.nodup_iff List.perm_middle).1 hnd)).2
       ·exact OrdOK.congr (fun j=>(getD_setIf (by have:=I.size;omega)).symm) (OrdOK.pull (pend.map (·.1)) I.fl hd I.ord)
      unfold Go.wpOp
      simp only [ho]
      by_cases hw:Region.wanted o (yielded ops ag.tmps)=true
      ·rw [if_pos hw,if_neg hfl]at hwp
       rw [←e2,if_pos hw]
       left
       unfold Oper.wp at hwp⊢
       rw [e1]at hwp
       refine upon_carry (fun v w' hk=>?_) (fun d w' hk=>?_) hwp
       ·exact hstep w' hk.1 _ _ hk.2 (e3 v)
       ·exact hstep w' hk.1 _ _ hk.2 ((PendRun.push hs (hs i o ho) (I.run.defers d) hap).2.2 undef)
      ·rw [if_neg hw]at hwp
       rw [←e2,if_neg hw]
       exact hstep w (.inr (Agree.refl w)) _ _ hwp (e3 undef)
  exact hgo rem pend ag hlen I
def depsB (md:Region.Mode) (ops:Array Oper) (G:Array Bool) (i:Nat):Bool:=
 match ops[i]? with
 |none=>true
 |some o=>o.after.toList.all fun e=> !Region.binds md e ||G.getD e.on false
def waitsB (md:Region.Mode) (ops:Array Oper) (k j:Nat):Bool:=
 match ops[k]? with
 |none=>false
 |some o=>o.after.toList.any fun e=>Region.binds md e&&e.on==j
def floatsB (ops:Array Oper) (i:Nat):Bool:=
 match ops[i]? with
 |none=>true
 |some o=>floats o.op
def ordB (md:Region.Mode) (ops:Array Oper) (sink:Nat→Bool):Array Bool→List Nat→Bool
 |_,[]=>true
 |G,i::l=>decide (i<G.size)&&depsB md ops G i&&(floatsB ops i ||((List.range ops.size).all fun j=>G.getD j false || !depsB md ops G j ||j==i))&&
  (floatsB ops i || !sink i ||(List.range ops.size).all fun j=> !G.getD j false ||(List.range ops.size).any fun k=>(G.getD k false ||k==i)&&waitsB md ops k j)&&ordB md ops sink (G.setIfInBounds i true) l
def pairsB (md:Region.Mode) (ops:Array Oper):Bool:=
 (List.range ops.size).all fun i=>(List.range ops.size).all fun j=>i==j ||waitsB md ops i j ||waitsB md ops j i ||match ops[i]?,ops[j]? with
  |some oi,some oj=>oi.apart ops oj
  |_,_=>true
def oneB (md:Region.Mode) (ops:Array Oper) (snk ord:List Nat):Bool:=
 Region.noSelect ops&&pairsB md ops&&ordB md ops (fun i=>snk.contains i) (Array.replicate ops.size false) ord&&
  (List.range ops.size).all (fun j=>ord.contains j)&&decide ord.Nodup&&ord.all (fun j=>decide (j<ops.size))&&decide (ord.length≤ops.size)
theorem depsB_spec {G:Array Bool} {i:Nat} :depsB md ops G i=true↔DepsIn md ops (fun k=>G.getD k false=true) i:=by
 unfold depsB DepsIn
 cases h:ops[i]? with
 |none=>simp
 |some o=>
  simp only [List.all_eq_true,Option.some.injEq,forall_eq',Array.mem_toList_iff,Bool.or_eq_true,Bool.not_eq_true']
  exact⟨fun h e he hb=>(h e he).resolve_left (by simp [hb]),fun h e he=>by
   cases hb:Region.binds md e
   ·exact .inl U
   ·exact .inr (h e he hb)⟩
theorem waitsB_spec {k j:Nat} (h:waitsB md ops k j=true):WaitsOn md ops k j:=by
 unfold waitsB at h
 cases ho:ops[k]? with
 |none=>rw [ho]at h;cases h
 |some o=>
  rw [ho]at h
  simp only [List.any_eq_true,Bool.and_eq_true,beq_iff_eq,Array.mem_toList_iff]at h
  exact⟨o,ho,h⟩
theorem floatsB_spec {i:Nat} (h:floatsB ops i=true):FloatsAt ops i:=by
 intro o ho
 simpa [floatsB,ho]using h
theorem ordB_spec (l:List Nat): ∀(G:Array Bool),G.size=ops.size→ordB md ops sink G l=true→OrdOK md ops sink (fun k=>G.getD k false=true) l:=by
 induction l with
 |nil=>intro G _ _;trivial
 |cons i l ih=>
  intro G hG h
  simp only [ordB,Bool.and_eq_true,decide_eq_true_eq]at h
  obtain⟨⟨⟨⟨h0,h1⟩,h2⟩,h3⟩,h4⟩:=h
  refine⟨depsB_spec.1 h1,?_,OrdOK.congr (fun j=>getD_setIf h0) (ih _ (by simpa using hG) h4)⟩
  cases hf:floatsB ops i with
  |true=>exact .inl (floatsB_spec hf)
  |false=>
   simp only [hf,Bool.false_or,List.all_eq_true,List.mem_range]at h2 h3
   refine .inr ⟨fun j hj hn hd=>?_,fun hs j hj=>?_⟩
   ·have:=h2 j hj
    simp only [Bool.or_eq_true,beq_iff_eq,Bool.not_eq_true']at this
    rcases this with (h|h)|h
    ·exact absurd h hn
    ·rw [depsB_spec.2 hd]at h;cases h
    ·exact h
   ·simp only [hs,Bool.not_true,Bool.false_or]at h3
    rw [List.all_eq_true]at h3
    have hjl:j<ops.size:=by
     rcases Nat.lt_or_ge j G.size with hh|hh
     ·omega
     ·replace hj:G.getD j false=true:=hj
      rw [Array.getD_eq_getD_getElem?,Array.getElem?_eq_none hh]at hj;cases hj
    have:=h3 j (List.mem_range.2 hjl)
    simp only [hj,Bool.not_true,Bool.false_or,List.any_eq_true,Bool.and_eq_true,Bool.or_eq_true,beq_iff_eq]at this
    obtain⟨k,_,hk,hw⟩:=this
    exact⟨k,hk,waitsB_spec hw⟩
theorem pairsB_spec (h:pairsB md ops=true):PairsOK md ops:=by
 intro i j oi oj hi hj hne
 simp only [pairsB,List.all_eq_true,List.mem_range]at h
 have:=h i (Array.getElem?_eq_some_iff.1 hi).1 j (Array.getElem?_eq_some_iff.1 hj).1
 simp only [hi,hj,Bool.or_eq_true,beq_iff_eq]at this
 rcases this with ((h|h)|h)|h
 ·exact absurd h hne
 ·exact .inr (.inl (waitsB_spec h))
 ·exact .inr (.inr (waitsB_spec h))
 ·exact .inl h
theorem wp_one {id:Nat} {a:Act} {w:World} {l:List Oper} (snk ord:List Nat) (hm:P.follows .mixedOrders=true) (hB:oneB .any l.toArray snk ord=true)
 (h:wpOne P l.toArray (fun i=>snk.contains i) Q ord a w.drew):(Code.region id l.toArray true).wp P Q a w:=by
 simp only [oneB,Bool.and_eq_true,decide_eq_true_eq]at hB
 obtain⟨⟨⟨⟨⟨⟨hsel,hpair⟩,hord⟩,hall⟩,hnd⟩,hlt⟩,hlen⟩:=hB
 refine wp_region_any hm (wpAny_of_one (fun j oj hj cs b=>Region.noSelect_spec hsel j oj cs b hj) (pairsB_spec hpair) _ _ [] ord a a _ ?_ ⟨by simp,?_,?_,?_,by simpa using hnd,by simp,?_,.nil _,h⟩)
 ·simpa using hlen
 ·intro j hj
  exfalso
  rw [Array.getD_eq_getD_getElem?,Array.getElem?_replicate]at hj
  split at hj<;>cases hj
 ·intro j hj
  right
  have:=List.all_eq_true.1 hall j (List.mem_range.2 hj)
  simpa using this
 ·intro j hj
  refine⟨by simpa using List.all_eq_true.1 hlt j (by simpa using hj),?_⟩
  rw [Array.getD_eq_getD_getElem?,Array.getElem?_replicate]
  split<;>rfl
 ·exact ordB_spec _ _ (by simp) hord
section
variable {a : Act} {w : World} {i : Nat} {rest : List Nat} {o : Oper}
theorem wpOne_nil (h:Q .normal a w):wpOne P ops sink Q [] a w:=h
theorem wpOne_float (ho:ops[i]? =some o) (hf:floats o.op=true) (hw:Region.wanted o (yielded ops a.tmps)=true) (hok:floatOK P o.op a.eval=true)
 (h: ∀K:Act→World→Prop,(∀a w,wpOne P ops sink Q rest a w→K a w)→o.wp P a w K (fun _ _ _=>False)):wpOne P ops sink Q (i::rest) a w:=by
 simp only [wpOne,ho,if_pos hw,if_pos hf]
 exact⟨hok,h _ fun _ _ h=>h⟩
theorem wpOne_skip (ho:ops[i]? =some o) (hw:Region.wanted o (yielded ops a.tmps)=false) (h:wpOne P ops sink Q rest (a.put o.dst undef) w):wpOne P ops sink Q (i::rest) a w:=by
 simp only [wpOne,ho,hw]
 exact h
theorem wpOne_sink (ho:ops[i]? =some o) (hf:floats o.op=false) (hs:sink i=true) (hw:Region.wanted o (yielded ops a.tmps)=true)
 (h: ∀K:Act→World→Prop,(∀a w,wpOne P ops sink Q rest a w→K a w)→o.wp P a w K (fun _ _ _=>False)):wpOne P ops sink Q (i::rest) a w:=by
 simp only [wpOne,ho,if_pos hw,hf,hs]
 exact h _ fun _ _ h=>⟨.inl trivial,h⟩
theorem wpOne_act (ho:ops[i]? =some o) (hf:floats o.op=false) (hw:Region.wanted o (yielded ops a.tmps)=true)
 (h: ∀K:Act→World→Prop,(∀a' w',(Agree w w'∧wpOne P ops sink Q rest a' w')→K a' w')→o.wp P a w K (fun _ _ _=>False)):wpOne P ops sink Q (i::rest) a w:=by
 simp only [wpOne,ho,if_pos hw,hf]
 exact h _ fun _ _ h=>⟨.inr h.1,h.2⟩
end
#print axioms wp_one
open Go Go.RowKit
def Sl (w:World) (size:Nat) (ao:Option Addr) (n cap:Nat) (xs:List Value):Prop:=
 xs.length=n*size∧n≤cap∧cap≤maxLen∧(0<n→ ∃b off,ao=some ⟨b,off,none⟩∧ ∀i (h:i<xs.length),w.cell? ⟨b,off+i,none⟩=some xs[i])
def vb (x:UInt8):Value:=.int .u8 (x.toNat:Int)
def vl (x:UInt64):Value:=.int .u64 (x.toNat:Int)
def vd (x:UInt32):Value:=.int .u32 (x.toNat:Int)
def u8s (l:List UInt8):List Value:=l.map vb
def u64s (l:List UInt64):List Value:=l.map vl
def u32s (l:List UInt32):List Value:=l.map vd
@[simp] theorem length_u8s (l:List UInt8):(u8s l).length=l.length:=by simp [u8s]
@[simp] theorem length_u64s (l:List UInt64):(u64s l).length=l.length:=by simp [u64s]
@[simp] theorem length_u32s (l:List UInt32):(u32s l).length=l.length:=by simp [u32s]
theorem one_u8s (l:List UInt8): ∀u∈u8s l,u.oneCell'=true:=by
 intro u hu;obtain⟨x,_,rfl⟩:=List.mem_map.1 hu;rfl
theorem one_u64s (l:List UInt64): ∀u∈u64s l,u.oneCell'=true:=by
 intro u hu;obtain⟨x,_,rfl⟩:=List.mem_map.1 hu;rfl
theorem one_u32s (l:List UInt32): ∀u∈u32s l,u.oneCell'=true:=by
 intro u hu;obtain⟨x,_,rfl⟩:=List.mem_map.1 hu;rfl
section
variable {w w' : World} {size : Nat} {ao : Option Addr} {n cap : Nat} {xs : List Value}
theorem Sl.nil (w:World) (size:Nat):Sl w size none 0 0 []:=⟨by simp,Nat.le_refl _,by unfold maxLen;omega,fun h=>absurd h (by omega)⟩
theorem Sl.agree (h:Sl w size ao n cap xs) (hw:Agree w w'):Sl w' size ao n cap xs:=by
 obtain⟨h1,h2,h3,h4⟩:=h
 refine⟨h1,h2,h3,fun hn=>?_⟩
 obtain⟨b,off,e,hc⟩:=h4 hn
 exact⟨b,off,e,fun i hi=>hw.cell (hc i hi)⟩
theorem Sl.below (h:Sl w size ao n cap xs) (hb:Below w.heap.size w w'):Sl w' size ao n cap xs:=h.agree (Agree.of_below hb)
theorem Sl.drew (h:Sl w size ao n cap xs):Sl w.drew size ao n cap xs:=h
theorem owns_form {base:Nat} {e:TypeId} {v:Value} (h:w.ownsRow base e size v n xs): ∃ao cap,v=.slice ao n cap:=by
 rcases h.2 with ⟨rfl,rfl⟩|⟨g,cap',cur,rfl,_⟩
 ·exact⟨_,_,rfl⟩
 ·exact⟨_,_,rfl⟩
theorem owns_mono {base base':Nat} {e:TypeId} {v:Value} (h:w.ownsRow base e size v n xs) (hb:base'≤base):w.ownsRow base' e size v n xs:=by
 refine⟨h.1,h.2.imp id ?_⟩
 rintro⟨g,cap',cur,h1,h2,h3⟩
 exact⟨g,cap',cur,h1,Nat.le_trans hb h2,h3⟩
theorem Sl.cell {x:Value} {i:Nat} (h:Sl w 1 ao n cap xs) (hi:xs[i]? =some x): ∃b off,ao=some ⟨b,off,none⟩∧w.cell? ⟨b,off+i,none⟩=some x:=by
 obtain⟨h1,h2,h3,h4⟩:=h
 obtain⟨hlt,hx⟩:=List.getElem?_eq_some_iff.1 hi
 obtain⟨b,off,e,hc⟩:=h4 (by omega)
 exact⟨b,off,e,by rw [hc i hlt,hx]⟩
theorem Sl.len (h:Sl w 1 ao n cap xs):xs.length=n:=by have:=h.1;omega
end
def ElemInfo (P:Program) (e:TypeId) (z:Value) (size bytes:Nat):Prop:= ∃i,P.info? e=some i∧i.zero=some z∧i.size=size∧i.bytes=bytes∧z.cells.size=size∧0<size
theorem elem_of {P:Program} {e:TypeId} {z:Value} {size bytes:Nat} (h:(P.info? e).map (fun i=>(i.zero,i.size,i.bytes))=some (some z,size,bytes)) (hz:z.cells.size=size) (h0:0<size):ElemInfo P e z size bytes:=by
 obtain⟨i,h1,h2,h3,h4⟩:=info_parts h
 exact⟨i,h1,h2,h3,h4,hz,h0⟩
section
variable {P : Program} {w : World} {t e : TypeId} {z : Value} {size bytes : Nat}
theorem made_one (z:Value) (n:Nat) (h:z.cells= #[z]):(madeCells z.cells (n*1)).toList=List.replicate n z:=by
 rw [h,Nat.mul_one];exact toList_madeCells_one z n
def str (l:List UInt8):Value:=.string ⟨l.toArray⟩
theorem foldl_push (l:List UInt8): ∀s:ByteArray,(l.map fun x=>((x.toNat:Nat):Int)).foldl (fun r n=>r.push (UInt8.ofNat n.toNat)) s=⟨s.data++l.toArray⟩:=by
 induction l with
 |nil=>intro s;simp
 |cons x l ih=>
  intro s
  rw [List.map_cons,List.foldl_cons,ih]
  congr 1
  simp [ByteArray.push]
theorem run_string {src dst:TypeId} {ao:Option Addr} {n cap:Nat} {l:List UInt8} (hs:P.underlying src=some (.slice e)) (he:P.underlying e=some (.int .u8)) (hd:P.underlying dst=some .string)
 (h:Sl w 1 ao n cap (u8s l)):(convert src dst (.slice ao n cap)).run P w=.ok (str l) w:=by
 rw [run_convert_bytes_string w src dst e ao n cap hs he hd]
 obtain⟨h1,h2,h3,h4⟩:=h
 have hn:n=l.length:=by simpa using h1.symm
 cases ao with
 |none=>
  by_cases hn0:0<n
  ·obtain⟨b,off,e,_⟩:=h4 hn0;cases e
  ·have:l= []:=List.eq_nil_of_length_eq_zero (by omega)
   subst this
   rfl
 |some ad=>
  have hload:(loadCells ad n).run P w=.ok (((l.map fun x=>((x.toNat:Nat):Int)).map (Value.int .u8)).toArray) w:=by
   have e:(l.map fun x=>((x.toNat:Nat):Int)).map (Value.int .u8)=u8s l:=by simp [u8s,vb,Function.comp_def]
   rw [e]
   have:=run_firstCells_some (P:=P) w 1 n ad n 0 (u8s l) (by simpa using h1) (fun j u hu=>?_)
   ·simpa [Builtin.firstCells]using this
   ·obtain⟨hj,rfl⟩:=List.getElem?_eq_some_iff.1 hu
    obtain⟨b,off,e,hc⟩:=h4 (by rw [hn];simp at hj;omega)
    cases e
    rw [←hc j hj]
    congr 1
    unfold Addr.add
    split<;>simp_all
  rw [run_bytesToString w ad n cap _ hload,foldl_push]
  simp [str,ByteArray.empty,ByteArray.emptyWithCapacity]
  rfl
end
def Ret (w:World) (R:Value→World→Prop) (e:Ending) (w':World):Prop:= ∃v,e=.returned v∧R v w'∧Below w.heap.size w w'
def OwnB (base:Nat) (e:TypeId) (xs:List Value) (v:Value) (w':World):Prop:= ∃ao cap,v=.slice ao xs.length cap∧w'.ownsRow base e 1 (.slice ao xs.length cap) xs.length xs
def RdB (xs:List Value) (v:Value) (w':World):Prop:= ∃ao cap,v=.slice ao xs.length cap∧Sl w' 1 ao xs.length cap xs
abbrev Heaplet:=Nat→Option Obj
def Heaplet.le (N M:Heaplet):Prop:= ∀k o,N k=some o→M k=some o
def whole (w:World):Heaplet:=fun k=>w.heap[k]?
def single (b:Nat) (o:Obj):Heaplet:=fun k=>if k=b then some o else none
def upd (N:Heaplet) (b:Nat) (o:Obj):Heaplet:=fun k=>if k=b then some o else N k
def join2 (A B:Heaplet):Heaplet:=fun k=>(A k).or (B k)
def cellOf (N:Heaplet) (b i:Nat):Option Value:=match N b with
 |some (.cells c _ _)=>c[i]?
 |_=>none
theorem Heaplet.le_refl (N:Heaplet):N.le N:=fun _ _ h=>h
theorem Heaplet.le_trans {A B C:Heaplet} (h:A.le B) (k:B.le C):A.le C:=fun x o e=>k x o (h x o e)
theorem cellOf_le {N M:Heaplet} (h:N.le M) {b i:Nat} {v:Value} (hc:cellOf N b i=some v):cellOf M b i=some v:=by
 unfold cellOf at hc⊢
 split at hc
 ·rename_i c t f e;rw [h _ _ e];exact hc
 ·cases hc
def Apart (A B:Heaplet):Prop:= ∀k,A k=none∨B k=none
structure Hp (E:World) (L:List Heaplet) (w:World):Prop where
 os:w.os=E.os
 tape:w.tape=E.tape
 output:w.output=E.output
 sub: ∀N∈L,N.le (whole w)
 sep:L.Pairwise Apart
theorem Apart.symm {A B:Heaplet} (h:Apart A B):Apart B A:=fun k=>(h k).symm
theorem Apart.le {A B A' B':Heaplet} (h:Apart A B) (ha:A'.le A) (hb:B'.le B):Apart A' B':=fun k=>by
 cases hA:A' k with
 |none=>exact .inl rfl
 |some o=>
  cases hB:B' k with
  |none=>exact .inr rfl
  |some o'=>
   have h1:=ha _ _ hA
   have h2:=hb _ _ hB
   rcases h k with h|h<;>simp_all
section
variable {E : World} {L L' : List Heaplet} {w : World} {N A B : Heaplet}
theorem Hp.perm (h:Hp E L w) (p:L.Perm L'):Hp E L' w:=
 ⟨h.os,h.tape,h.output,fun N hN=>h.sub N (p.mem_iff.2 hN),(p.pairwise_iff fun h=>h.symm).1 h.sep⟩
theorem Hp.drop (h:Hp E L w) (p:L'.Sublist L):Hp E L' w:=
 ⟨h.os,h.tape,h.output,fun N hN=>h.sub N (p.subset hN),h.sep.sublist p⟩
theorem Hp.drew (h:Hp E L w):Hp E L w.drew:=⟨h.os,h.tape,h.output,h.sub,h.sep⟩
theorem Hp.cell (h:Hp E L w) (hN:N∈L) {b i:Nat} {v:Value} (hc:cellOf N b i=some v):w.cell? ⟨b,i,none⟩=some v:=by
 have h1:=cellOf_le (h.sub N hN) hc
 unfold cellOf Go.Proofs.YtalmjkcapecpiaaGreat.whole at h1
 unfold World.cell?
 split at h1
 ·rename_i e;rw [e];simpa using h1
 ·cases h1
theorem Hp.lt (h:Hp E L w) (hN:N∈L) {b:Nat} {o:Obj} (hb:N b=some o):b<w.heap.size:=by
 have:=h.sub N hN _ _ hb
 exact(Array.getElem?_eq_some_iff.1 this).1
theorem Hp.whole (w:World):Hp w [whole w] w:=⟨rfl,rfl,rfl,fun N hN=>by simp at hN;subst hN;exact Heaplet.le_refl _,by simp⟩
theorem Hp.env {E':World} (h:Hp E L w) (ho:E.os=E'.os) (ht:E.tape=E'.tape) (hu:E.output=E'.output):Hp E' L w:=⟨h.os.trans ho,h.tape.trans ht,h.output.trans hu,h.sub,h.sep⟩
theorem Hp.agree {w':World} (h:Hp E (L++ [Go.Proofs.YtalmjkcapecpiaaGreat.whole w]) w'):Agree w w':=fun b hb=>by
 have:=h.sub (Go.Proofs.YtalmjkcapecpiaaGreat.whole w) (by simp) b w.heap[b] (by simp [Go.Proofs.YtalmjkcapecpiaaGreat.whole,hb])
 simpa [Go.Proofs.YtalmjkcapecpiaaGreat.whole,hb]using this
theorem Hp.below {w':World} (h:Hp w (L++ [Go.Proofs.YtalmjkcapecpiaaGreat.whole w]) w'):Below w.heap.size w w':=by
 have ha:=h.agree
 exact⟨h.os,h.tape,h.output,ha.le,ha⟩
theorem Hp.of_below {w':World} (h:Below w.heap.size w w'):Hp w [Go.Proofs.YtalmjkcapecpiaaGreat.whole w] w':=
 ⟨h.os,h.tape,h.output,fun N hN k o hk=>by
  simp at hN;subst hN
  have hlt:k<w.heap.size:=(Array.getElem?_eq_some_iff.1 hk).1
  exact(h.block k hlt).trans hk,by simp⟩
theorem Hp.refine {R:Heaplet} (h:Hp E (L++ [R]) w) (hs: ∀N∈L',N.le R) (hp:L'.Pairwise Apart):Hp E (L++L') w:=by
 refine⟨h.os,h.tape,h.output,fun N hN=>?_,?_⟩
 ·rcases List.mem_append.1 hN with hN|hN
  ·exact h.sub N (by simp [hN])
  ·exact Heaplet.le_trans (hs N hN) (h.sub R (by simp))
 ·rw [List.pairwise_append]
  have:=List.pairwise_append.1 h.sep
  refine⟨this.1,hp,fun a ha b hb=>?_⟩
  exact(this.2.2 a ha R (by simp)).le (Heaplet.le_refl _) (hs b hb)
theorem Hp.push (h:Hp E L w) {w':World} (hos:w'.os=w.os) (ht:w'.tape=w.tape) (hu:w'.output=w.output) (ha:Agree w w') {N:Heaplet} (hN:N.le (Go.Proofs.YtalmjkcapecpiaaGreat.whole w')) (hnew: ∀k o,N k=some o→w.heap.size≤k):Hp E (N::L) w':=by
 refine⟨hos.trans h.os,ht.trans h.tape,hu.trans h.output,fun M hM=>?_,?_⟩
 ·rcases List.mem_cons.1 hM with rfl|hM
  ·exact hN
  ·intro k o hk
   have hlt:=h.lt hM hk
   exact(ha k hlt).trans (h.sub M hM k o hk)
 ·rw [List.pairwise_cons]
  refine⟨fun M hM k=>?_,h.sep⟩
  cases hk:N k with
  |none=>exact .inl rfl
  |some o=>
   right
   cases hm:M k with
   |none=>rfl
   |some o'=>exact absurd (h.lt hM hm) (by have:=hnew _ _ hk;omega)
theorem Hp.alloc (h:Hp E L w) (o:Obj):Hp E (single w.heap.size o::L) (w.alloc o):=by
 refine h.push (w':=w.alloc o) U U U (Agree.alloc _ _) (fun k o' hk=>?_) (fun k o' hk=>?_)
 ·unfold single at hk
  split at hk
  ·rename_i e;subst e;cases hk;exact heap_alloc_new w o
  ·cases hk
 ·unfold single at hk
  split at hk
  ·rename_i e;omega
  ·cases hk
theorem Hp.put (h:Hp E (N::L) w) {b:Nat} {o o':Obj} (hb:N b=some o) {w':World} (hos:w'.os=w.os) (ht:w'.tape=w.tape) (hu:w'.output=w.output)
 (hnew:w'.heap[b]? =some o') (hold: ∀k,k≠b→k<w.heap.size→w'.heap[k]? =w.heap[k]?):Hp E (upd N b o'::L) w':=by
 have hs:=List.pairwise_cons.1 h.sep
 refine⟨hos.trans h.os,ht.trans h.tape,hu.trans h.output,fun M hM=>?_,?_⟩
 ·rcases List.mem_cons.1 hM with rfl|hM'
  ·intro k o2 hk
   unfold upd at hk
   split at hk
   ·rename_i e;subst e;cases hk;exact hnew
   ·rename_i e;exact(hold k e (h.lt (List.mem_cons_self ..) hk)).trans (h.sub N (List.mem_cons_self ..) _ _ hk)
  ·intro k o2 hk
   have hne:k≠b:=by
    rintro rfl
    rcases hs.1 M hM' k with h1|h1
    ·rw [hb]at h1;cases h1
    ·rw [hk]at h1;cases h1
   exact(hold k hne (h.lt (List.mem_cons_of_mem _ hM') hk)).trans (h.sub M (List.mem_cons_of_mem _ hM') _ _ hk)
 ·rw [List.pairwise_cons]
  refine⟨fun M hM k=>?_,hs.2⟩
  have h0:=hs.1 M hM k
  unfold upd
  split
  ·rename_i e;subst e
   rcases h0 with h1|h1
   ·rw [hb]at h1;cases h1
   ·exact .inr h1
  ·exact h0
theorem Hp.merge (h:Hp E (A::B::L) w):Hp E (join2 A B::L) w:=by
 have hs:=List.pairwise_cons.1 h.sep
 have hs2:=List.pairwise_cons.1 hs.2
 refine⟨h.os,h.tape,h.output,fun M hM=>?_,?_⟩
 ·rcases List.mem_cons.1 hM with rfl|hM
  ·intro k o hk
   unfold join2 at hk
   cases hA:A k with
   |none=>rw [hA]at hk;exact h.sub B (by simp) _ _ (by simpa using hk)
   |some x=>rw [hA]at hk;exact h.sub A (by simp) _ _ (by rw [hA];simpa using hk)
  ·exact h.sub M (by simp [hM])
 ·rw [List.pairwise_cons]
  refine⟨fun M hM k=>?_,hs2.2⟩
  rcases hs.1 M (by simp [hM]) k with h1|h1
  ·rcases hs2.1 M hM k with h2|h2
   ·exact .inl (by simp [join2,h1,h2])
   ·exact .inr h2
  ·exact .inr h1
theorem join2_left {A B:Heaplet} :A.le (join2 A B):=fun k o h=>by simp [join2,h]
theorem join2_right {A B:Heaplet} (h:Apart A B):B.le (join2 A B):=fun k o hk=>by
 rcases h k with h|h
 ·simp [join2,h,hk]
 ·rw [h]at hk;cases hk
end
theorem beq_no {i j:Nat} (h: ¬i=j):Nat.beq i j=false:=by
 cases e:Nat.beq i j with
 |false=>rfl
 |true=>exact absurd (Nat.eq_of_beq_eq_true e) h
def lk:List (Nat×Value)→Nat→Option Value
 | [],_=>none
 |(j,v)::t,i=>bif Nat.beq j i then some v else lk t i
def ev (l:List (Nat×Value)):Operand→Option Value
 |.tmp t=>lk l t
 |.const v=>some v
 |.global g=>some (.pointer (some ⟨g,0,none⟩))
 |.func f=>some (.func (.func f) #[] #[])
def dfOf (E:World):List Deferred:=
 match (E.heap[0]? :Option Obj)with
 |some (Obj.cells cs _ _)=>match (cs[0]? :Option Value)with
  |some (Value.func fv cap args)=> [{ target:=.fn fv cap,args:=args }]
  |_=> []
 |_=> []
def dfNo (E:World):World:= { E with heap:= #[] }
def dfOn (E:World) (fv:Fn) (cap args:Array Value):World:= { E with heap:= #[Obj.cells #[.func fv cap args] 0 (0,0)] }
theorem dfOf_no (E:World):dfOf (dfNo E)= []:=by simp [dfOf,dfNo]
structure Fr (ds:List Deferred) (n:Nat) (l:List (Nat×Value)) (a:Act):Prop where
 defers:a.defers=ds
 size:a.tmps.size=n
 get: ∀i v,lk l i=some v→a.tmps[i]? =some v
theorem Fr.eval {ds:List Deferred} {n:Nat} {l:List (Nat×Value)} {a:Act} (h:Fr ds n l a) {x:Operand} {v:Value} (hx:ev l x=some v):a.eval x=v:=by
 cases x with
 |tmp t=>
  have:=h.get t v hx
  simp [Act.eval,Array.getD_eq_getD_getElem?,this]
 |const c=>simpa [ev,Act.eval]using hx
 |global g=>simpa [ev,Act.eval]using hx
 |func f=>simpa [ev,Act.eval]using hx
theorem Fr.put {ds:List Deferred} {n:Nat} {l:List (Nat×Value)} {a:Act} (h:Fr ds n l a) {d:Nat} {v:Value} (hd:d<n):Fr ds n ((d,v)::l) (a.put (some d) v):=by
 refine⟨h.defers,by simp [Act.put,h.size],fun i u hi=>?_⟩
 have hs:=h.size
 simp only [Act.put,lk]at hi⊢
 by_cases e:d=i
 ·subst e
  simp at hi
  subst hi
  simp [hs,hd]
 ·have:Nat.beq d i=false:=beq_no e
  rw [this]at hi
  rw [Array.getElem?_setIfInBounds_ne e]
  exact h.get i u hi
theorem Fr.skip {ds:List Deferred} {n:Nat} {l:List (Nat×Value)} {a:Act} (h:Fr ds n l a) {d:Nat} {v:Value} (hl:lk l d=none):Fr ds n l (a.put (some d) v):=by
 refine⟨h.defers,by simp [Act.put,h.size],fun i u hi=>?_⟩
 have hne:d≠i:=by rintro rfl;rw [hl]at hi;cases hi
 simp only [Act.put]
 rw [Array.getElem?_setIfInBounds_ne hne]
 exact h.get i u hi
theorem Fr.init {n:Nat} {args:Array Value} {l:List (Nat×Value)} (hn:args.size≤n) (hl: ∀i v,lk l i=some v→args[i]? =some v):
 Fr [] n l { tmps:=args++Array.replicate (n- args.size) undef,defers:= [] } :=by
 refine⟨rfl,by simp;omega,fun i v h=>?_⟩
 have h:=hl i v h
 have hlt:=(Array.getElem?_eq_some_iff.1 h).1
 rw [Array.getElem?_append_left hlt];exact h
inductive Keeps (l:List (Nat×Value)):List (Nat×Value)→Prop
 |nil:Keeps l []
 |cons {i:Nat} {v:Value} {t:List (Nat×Value)} (h:lk l i=some v) (k:Keeps l t):Keeps l ((i,v)::t)
theorem Keeps.lk {l l':List (Nat×Value)} (h:Keeps l l'): ∀i v,lk l' i=some v→lk l i=some v:=by
 induction h with
 |nil=>intro i v h;cases h
 |cons h k ih=>
  intro i v hi
  unfold Go.Proofs.YtalmjkcapecpiaaGreat.lk at hi
  rename_i j u t
  by_cases e:j=i
  ·subst e;simp at hi;subst hi;exact h
  ·have:Nat.beq j i=false:=beq_no e
   rw [this]at hi
   exact ih i v hi
theorem cW {l t:List (Nat×Value)} {i:Nat} {v:Value} (h:lk l i=some v) (k:Keeps l t):Keeps l ((i,v)::t):=.cons h k
def At (n:Nat) (l:List (Nat×Value)) (E:World) (L:List Heaplet) (K:Act→World→Prop):Prop:= ∀a w,Fr (dfOf E) n l a→Hp E L w→K a w
section
variable {P : Program} {n : Nat} {l l' : List (Nat × Value)} {E : World} {L L' : List Heaplet} {K K' : Act → World → Prop} {Q : Exit → Act → World → Prop}
theorem At.keep (hk:Keeps l l') (h:At n l' E L K):At n l E L K:=fun a w hf hw=>h a w ⟨hf.defers,hf.size,fun i v hi=>hf.get i v (hk.lk i v hi)⟩ hw
theorem At.perm (p:L.Perm L') (h:At n l E L' K):At n l E L K:=fun a w hf hw=>h a w hf (hw.perm p)
theorem aZ {L:List Heaplet}:L.Perm L:=.refl _
theorem At.sub (p:L'.Sublist L) (h:At n l E L' K):At n l E L K:=fun a w hf hw=>h a w hf (hw.drop p)
theorem dropAt0 {n:Nat} {l:List (Nat×Value)} {E:World} {K:Act→World→Prop} {L:List Heaplet} {A0:Heaplet} (h:At n l E (L) K):At n l E (A0::L) K:=At.sub (.cons _ (.refl _)) h
theorem cT {n:Nat} {l:List (Nat×Value)} {E:World} {K:Act→World→Prop} {L:List Heaplet} {A0 A1:Heaplet} (h:At n l E (A0::L) K):At n l E (A0::A1::L) K:=At.sub (.cons_cons _ (.cons _ (.refl _))) h
theorem dropAt2 {n:Nat} {l:List (Nat×Value)} {E:World} {K:Act→World→Prop} {L:List Heaplet} {A0 A1 A2:Heaplet} (h:At n l E (A0::A1::L) K):At n l E (A0::A1::A2::L) K:=At.sub (.cons_cons _ (.cons_cons _ (.cons _ (.refl _)))) h
theorem dropAt3 {n:Nat} {l:List (Nat×Value)} {E:World} {K:Act→World→Prop} {L:List Heaplet} {A0 A1 A2 A3:Heaplet} (h:At n l E (A0::A1::A2::L) K):At n l E (A0::A1::A2::A3::L) K:=At.sub (.cons_cons _ (.cons_cons _ (.cons_cons _ (.cons _ (.refl _))))) h
theorem dropAt4 {n:Nat} {l:List (Nat×Value)} {E:World} {K:Act→World→Prop} {L:List Heaplet} {A0 A1 A2 A3 A4:Heaplet} (h:At n l E (A0::A1::A2::A3::L) K):At n l E (A0::A1::A2::A3::A4::L) K:=At.sub (.cons_cons _ (.cons_cons _ (.cons_cons _ (.cons_cons _ (.cons _ (.refl _)))))) h
theorem dropAt5 {n:Nat} {l:List (Nat×Value)} {E:World} {K:Act→World→Prop} {L:List Heaplet} {A0 A1 A2 A3 A4 A5:Heaplet} (h:At n l E (A0::A1::A2::A3::A4::L) K):At n l E (A0::A1::A2::A3::A4::A5::L) K:=At.sub (.cons_cons _ (.cons_cons _ (.cons_cons _ (.cons_cons _ (.cons_cons _ (.cons _ (.refl _))))))) h
theorem dropAt6 {n:Nat} {l:List (Nat×Value)} {E:World} {K:Act→World→Prop} {L:List Heaplet} {A0 A1 A2 A3 A4 A5 A6:Heaplet} (h:At n l E (A0::A1::A2::A3::A4::A5::L) K):At n l E (A0::A1::A2::A3::A4::A5::A6::L) K:=At.sub (.cons_cons _ (.cons_cons _ (.cons_cons _ (.cons_cons _ (.cons_cons _ (.cons_cons _ (.cons _ (.refl _)))))))) h
theorem dropAt7 {n:Nat} {l:List (Nat×Value)} {E:World} {K:Act→World→Prop} {L:List Heaplet} {A0 A1 A2 A3 A4 A5 A6 A7:Heaplet} (h:At n l E (A0::A1::A2::A3::A4::A5::A6::L) K):At n l E (A0::A1::A2::A3::A4::A5::A6::A7::L) K:=At.sub (.cons_cons _ (.cons_cons _ (.cons_cons _ (.cons_cons _ (.cons_cons _ (.cons_cons _ (.cons_cons _ (.cons _ (.refl _))))))))) h
theorem dropAt8 {n:Nat} {l:List (Nat×Value)} {E:World} {K:Act→World→Prop} {L:List Heaplet} {A0 A1 A2 A3 A4 A5 A6 A7 A8:Heaplet} (h:At n l E (A0::A1::A2::A3::A4::A5::A6::A7::L) K):At n l E (A0::A1::A2::A3::A4::A5::A6::A7::A8::L) K:=At.sub (.cons_cons _ (.cons_cons _ (.cons_cons _ (.cons_cons _ (.cons_cons _ (.cons_cons _ (.cons_cons _ (.cons_cons _ (.cons _ (.refl _)))))))))) h
theorem dropAt9 {n:Nat} {l:List (Nat×Value)} {E:World} {K:Act→World→Prop} {L:List Heaplet} {A0 A1 A2 A3 A4 A5 A6 A7 A8 A9:Heaplet} (h:At n l E (A0::A1::A2::A3::A4::A5::A6::A7::A8::L) K):At n l E (A0::A1::A2::A3::A4::A5::A6::A7::A8::A9::L) K:=At.sub (.cons_cons _ (.cons_cons _ (.cons_cons _ (.cons_cons _ (.cons_cons _ (.cons_cons _ (.cons_cons _ (.cons_cons _ (.cons_cons _ (.cons _ (.refl _))))))))))) h
theorem dropAt10 {n:Nat} {l:List (Nat×Value)} {E:World} {K:Act→World→Prop} {L:List Heaplet} {A0 A1 A2 A3 A4 A5 A6 A7 A8 A9 A10:Heaplet} (h:At n l E (A0::A1::A2::A3::A4::A5::A6::A7::A8::A9::L) K):At n l E (A0::A1::A2::A3::A4::A5::A6::A7::A8::A9::A10::L) K:=At.sub (.cons_cons _ (.cons_cons _ (.cons_cons _ (.cons_cons _ (.cons_cons _ (.cons_cons _ (.cons_cons _ (.cons_cons _ (.cons_cons _ (.cons_cons _ (.cons _ (.refl _)))))))))))) h
theorem dropAt11 {n:Nat} {l:List (Nat×Value)} {E:World} {K:Act→World→Prop} {L:List Heaplet} {A0 A1 A2 A3 A4 A5 A6 A7 A8 A9 A10 A11:Heaplet} (h:At n l E (A0::A1::A2::A3::A4::A5::A6::A7::A8::A9::A10::L) K):At n l E (A0::A1::A2::A3::A4::A5::A6::A7::A8::A9::A10::A11::L) K:=At.sub (.cons_cons _ (.cons_cons _ (.cons_cons _ (.cons_cons _ (.cons_cons _ (.cons_cons _ (.cons_cons _ (.cons_cons _ (.cons_cons _ (.cons_cons _ (.cons_cons _ (.cons _ (.refl _))))))))))))) h
theorem dropAt12 {n:Nat} {l:List (Nat×Value)} {E:World} {K:Act→World→Prop} {L:List Heaplet} {A0 A1 A2 A3 A4 A5 A6 A7 A8 A9 A10 A11 A12:Heaplet} (h:At n l E (A0::A1::A2::A3::A4::A5::A6::A7::A8::A9::A10::A11::L) K):At n l E (A0::A1::A2::A3::A4::A5::A6::A7::A8::A9::A10::A11::A12::L) K:=At.sub (.cons_cons _ (.cons_cons _ (.cons_cons _ (.cons_cons _ (.cons_cons _ (.cons_cons _ (.cons_cons _ (.cons_cons _ (.cons_cons _ (.cons_cons _ (.cons_cons _ (.cons_cons _ (.cons _ (.refl _)))))))))))))) h
theorem dropAt13 {n:Nat} {l:List (Nat×Value)} {E:World} {K:Act→World→Prop} {L:List Heaplet} {A0 A1 A2 A3 A4 A5 A6 A7 A8 A9 A10 A11 A12 A13:Heaplet} (h:At n l E (A0::A1::A2::A3::A4::A5::A6::A7::A8::A9::A10::A11::A12::L) K):At n l E (A0::A1::A2::A3::A4::A5::A6::A7::A8::A9::A10::A11::A12::A13::L) K:=At.sub (.cons_cons _ (.cons_cons _ (.cons_cons _ (.cons_cons _ (.cons_cons _ (.cons_cons _ (.cons_cons _ (.cons_cons _ (.cons_cons _ (.cons_cons _ (.cons_cons _ (.cons_cons _ (.cons_cons _ (.cons _ (.refl _))))))))))))))) h
theorem dropAt15 {n:Nat} {l:List (Nat×Value)} {E:World} {K:Act→World→Prop} {L:List Heaplet} {A0 A1 A2 A3 A4 A5 A6 A7 A8 A9 A10 A11 A12 A13 A14 A15:Heaplet} (h:At n l E (A0::A1::A2::A3::A4::A5::A6::A7::A8::A9::A10::A11::A12::A13::A14::L) K):At n l E (A0::A1::A2::A3::A4::A5::A6::A7::A8::A9::A10::A11::A12::A13::A14::A15::L) K:=At.sub (.cons_cons _ (.cons_cons _ (.cons_cons _ (.cons_cons _ (.cons_cons _ (.cons_cons _ (.cons_cons _ (.cons_cons _ (.cons_cons _ (.cons_cons _ (.cons_cons _ (.cons_cons _ (.cons_cons _ (.cons_cons _ (.cons_cons _ (.cons _ (.refl _))))))))))))))))) h
theorem dropAt16 {n:Nat} {l:List (Nat×Value)} {E:World} {K:Act→World→Prop} {L:List Heaplet} {A0 A1 A2 A3 A4 A5 A6 A7 A8 A9 A10 A11 A12 A13 A14 A15 A16:Heaplet} (h:At n l E (A0::A1::A2::A3::A4::A5::A6::A7::A8::A9::A10::A11::A12::A13::A14::A15::L) K):At n l E (A0::A1::A2::A3::A4::A5::A6::A7::A8::A9::A10::A11::A12::A13::A14::A15::A16::L) K:=At.sub (.cons_cons _ (.cons_cons _ (.cons_cons _ (.cons_cons _ (.cons_cons _ (.cons_cons _ (.cons_cons _ (.cons_cons _ (.cons_cons _ (.cons_cons _ (.cons_cons _ (.cons_cons _ (.cons_cons _ (.cons_cons _ (.cons_cons _ (.cons_cons _ (.cons _ (.refl _)))))))))))))))))) h
theorem dropAt17 {n:Nat} {l:List (Nat×Value)} {E:World} {K:Act→World→Prop} {L:List Heaplet} {A0 A1 A2 A3 A4 A5 A6 A7 A8 A9 A10 A11 A12 A13 A14 A15 A16 A17:Heaplet} (h:At n l E (A0::A1::A2::A3::A4::A5::A6::A7::A8::A9::A10::A11::A12::A13::A14::A15::A16::L) K):At n l E (A0::A1::A2::A3::A4::A5::A6::A7::A8::A9::A10::A11::A12::A13::A14::A15::A16::A17::L) K:=At.sub (.cons_cons _ (.cons_cons _ (.cons_cons _ (.cons_cons _ (.cons_cons _ (.cons_cons _ (.cons_cons _ (.cons_cons _ (.cons_cons _ (.cons_cons _ (.cons_cons _ (.cons_cons _ (.cons_cons _ (.cons_cons _ (.cons_cons _ (.cons_cons _ (.cons_cons _ (.cons _ (.refl _))))))))))))))))))) h
theorem At.mono (hk: ∀a w,K' a w→K a w) (h:At n l E L K'):At n l E L K:=fun a w hf hw=>hk a w (h a w hf hw)
theorem At.merge {A B:Heaplet} (h:Apart A B→At n l E (join2 A B::L) K):At n l E (A::B::L) K:=fun a w hf hw=>h ((List.pairwise_cons.1 hw.sep).1 B (by simp)) a w hf hw.merge
theorem aS (h:At n l E L K):At n l E L (Exit.then K Q .normal):=h
theorem bD {id:Nat} (h:At n l E L (Q (.exit id))):At n l E L (Exit.then K Q (.exit id)):=h
theorem dC (h:At n l E L (Q .ret)):At n l E L (Exit.then K Q .ret):=h
theorem cJ {id:Nat} (h:At n l E L (Q .normal)):At n l E L (Exit.inBlock id Q .normal):=h
theorem At.inRet {id:Nat} (h:At n l E L (Q .ret)):At n l E L (Exit.inBlock id Q .ret):=h
theorem dE {id:Nat} (h:At n l E L (Q .normal)):At n l E L (Exit.inBlock id Q (.exit id)):=fun a w hf hw=>by simpa [Exit.inBlock]using h a w hf hw
theorem At.inMiss {id id':Nat} (hn:Nat.beq id' id=false) (h:At n l E L (Q (.exit id'))):At n l E L (Exit.inBlock id Q (.exit id')):=fun a w hf hw=>by
 have:id'≠id:=Nat.ne_of_beq_eq_false hn
 simpa [Exit.inBlock,this]using h a w hf hw
theorem aH {x y:Code} (h: ∀K,(∀ {l' E' L'},At n l' E' L' (y.wp P Q)→At n l' E' L' K)→At n l E L (x.wp P (Exit.then K Q))):At n l E L ((Code.seq x y).wp P Q):=
 fun a w hf hw=>wp_seq (h _ (fun h=>h) a w hf hw)
theorem bX {id:Nat} {c:Code} (h:At n l E L (c.wp P (Exit.inBlock id Q))):At n l E L ((Code.block id c).wp P Q):=fun a w hf hw=>wp_block (h a w hf hw)
theorem cG (h:At n l E L (Q .normal)):At n l E L (Code.skip.wp P Q):=fun a w hf hw=>wp_skip (h a w hf hw)
theorem At.exit {id:Nat} (h:At n l E L (Q (.exit id))):At n l E L ((Code.exit id).wp P Q):=fun a w hf hw=>wp_exit (h a w hf hw)
theorem cK (h:At n l E L (Q .ret)):At n l E L (Code.ret.wp P Q):=fun a w hf hw=>wp_ret (h a w hf hw)
theorem At.cond {c:Operand} {x y:Code} {t:Bool} (hc:ev l c=some (.bool t)) (ht:t=true→At n l E L (x.wp P Q)) (hf:t=false→At n l E L (y.wp P Q)):At n l E L ((Code.cond c x y).wp P Q):=
 fun a w h hw=>wp_cond_split (h.eval hc) (fun e=>ht e a w h hw) (fun e=>hf e a w h hw)
theorem cD {c:Operand} {x y:Code} {p:Prop} [Decidable p] (hc:ev l c=some (.bool (decide p))) (ht:p→At n l E L (x.wp P Q)) (hf: ¬p→At n l E L (y.wp P Q)):At n l E L ((Code.cond c x y).wp P Q):=
 At.cond hc (fun e=>ht (of_decide_eq_true e)) (fun e=>hf (of_decide_eq_false e))
theorem At.condB {c:Operand} {x y:Code} {b:Bool} (hc:ev l c=some (.bool b)) (ht:b=true→At n l E L (x.wp P Q)) (hf:b=false→At n l E L (y.wp P Q)):At n l E L ((Code.cond c x y).wp P Q):=At.cond hc ht hf
theorem At.condT {c:Operand} {x y:Code} (hc:ev l c=some (.bool true)) (h:At n l E L (x.wp P Q)):At n l E L ((Code.cond c x y).wp P Q):=At.cond hc (fun _=>h) (fun e=>by cases e)
theorem At.condF {c:Operand} {x y:Code} (hc:ev l c=some (.bool false)) (h:At n l E L (y.wp P Q)):At n l E L ((Code.cond c x y).wp P Q):=At.cond hc (fun e=>by cases e) (fun _=>h)
theorem aB {id:Nat} {ops:List Oper} (h:At n l E L (wpList P ops.toArray Q ops)):At n l E L ((Code.region id ops.toArray false).wp P Q):=fun a w hf hw=>wp_region_lit (h a w hf hw)
theorem cE {ops:Array Oper} (h:At n l E L (Q .normal)):At n l E L (wpList P ops Q []):=h
theorem aI {P:Program} {n:Nat} {l:List (Nat×Value)} {E:World} {L:List Heaplet} {K:Act→World→Prop} {Q:Exit→Act→World→Prop} {ops:Array Oper} (h:At n l E L K):At n l E L (wpList P ops (Exit.then K Q) []):=cE (aS h)
theorem At.drawn {id:Nat} {ops:List Oper} (snk ord:List Nat) (hm:P.follows .mixedOrders=true) (hB:oneB .any ops.toArray snk ord=true)
 (h:At n l E L (wpOne P ops.toArray (fun i=>snk.contains i) Q ord)):At n l E L ((Code.region id ops.toArray true).wp P Q):=fun a w hf hw=>wp_one snk ord hm hB (h a w.drew hf hw.drew)
theorem At.oneNil {ops:Array Oper} {sink:Nat→Bool} (h:At n l E L (Q .normal)):At n l E L (wpOne P ops sink Q []):=h
def Back (n:Nat) (E:World) (I:List (Nat×Value)→List Heaplet→Nat→Prop) (m:Nat) (a:Act) (w:World):Prop:= ∃l L m',I l L m'∧m'<m∧Fr (dfOf E) n l a∧Hp E L w
theorem At.loop {c:Code} (I:List (Nat×Value)→List Heaplet→Nat→Prop) {l0:List (Nat×Value)} {L0:List Heaplet} {m0:Nat} (hl:Keeps l l0) (hL:L.Perm L0) (h0:I l0 L0 m0)
 (round: ∀l L m,I l L m→At n l E L (c.wp P (Exit.then (Back n E I m) Q))):At n l E L ((Code.loop c).wp P Q):=by
 intro a w hf hw
 have h1:Back n E I (m0+1) a w:=⟨l0,L0,m0,h0,Nat.lt_succ_self _,⟨hf.defers,hf.size,fun i v hi=>hf.get i v (hl.lk i v hi)⟩,hw.perm hL⟩
 clear h0 hl hL hf hw
 -- the measure is carried outside
 have key: ∀m a w,Back n E I (m+1) a w→ ∀(b:Frame) (k:List Item) (cs:List Frame), ∃e a' w',Q e a' w'∧Arrives P (lone (b.at a (.code c::.inLoop c::k)) cs w) b k cs e a' w':=by
  intro m
  induction m using Nat.strongRecOn with
  |_ m ih=>
   intro a w hb b k cs
   obtain⟨l,L,m',hI,hlt,hf,hw⟩:=hb
   obtain⟨e,a₁,w₁,hq,harr⟩:=round l L m' hI a w hf hw b (.inLoop c::k) cs
   cases e with
   |normal=>
    obtain⟨l2,L2,m2,hI2,hlt2,hf2,hw2⟩:=hq
    obtain⟨e₂,a₂,w₂,hq₂,harr₂⟩:=ih m2 (by omega) a₁ w₁ ⟨l2,L2,m2,hI2,Nat.lt_succ_self _,hf2,hw2⟩ b k cs
    exact⟨e₂,a₂,w₂,hq₂,.of_steps (Steps.trans harr (.one step_inLoop)) harr₂⟩
   |exit id=>exact⟨_,a₁,w₁,hq,.pass (x:=.inLoop c) rfl (fun _ _=>.inl (by simp)) harr⟩
   |goto l=>exact⟨_,a₁,w₁,hq,.pass (x:=.inLoop c) rfl (fun _ _=>.inl (by simp)) harr⟩
   |ret=>exact⟨_,a₁,w₁,hq,.pass (x:=.inLoop c) rfl (fun _ _=>.inl (by simp)) harr⟩
   |panic ch=>exact⟨_,a₁,w₁,hq,.pass (x:=.inLoop c) rfl (fun _ _=>.inl (by simp)) harr⟩
   |outgrown=>exact⟨_,a₁,w₁,hq,.pass (x:=.inLoop c) rfl (fun _ _=>.inl (by simp)) harr⟩
 intro b k cs
 obtain⟨e,a',w',hq,harr⟩:=key m0 a w h1 b k cs
 exact⟨e,a',w',hq,.of_steps (.one step_loop) harr⟩
theorem At.back {I:List (Nat×Value)→List Heaplet→Nat→Prop} {m m':Nat} (hl:Keeps l l') (hL:L.Perm L') (hI:I l' L' m') (hm:m'<m):At n l E L (Back n E I m):=fun _ _ hf hw=>
 ⟨l',L',m',hI,hm,⟨hf.defers,hf.size,fun i v hi=>hf.get i v (hl.lk i v hi)⟩,hw.perm hL⟩
theorem At.meet {c:Code} (I:List (Nat×Value)→List Heaplet→Prop) (hI: ∀l L,I l L→At n l E L K) (hb: ∀K',(∀ {l L l' L'},Keeps l l'→L.Perm L'→I l' L'→At n l E L K')→At n l E L (c.wp P (Exit.then K' Q))):At n l E L (c.wp P (Exit.then K Q)):=
 hb K fun hk hp hi=>At.keep hk (At.perm hp (hI _ _ hi))
end
def Fn (P:Program) (f:FuncId) (args:Array Value) (L0 Lr:List Heaplet) (Post:Value→List Heaplet→Prop):Prop:=
 ∀(E w:World) (R:Heaplet),Hp E (L0++ [R]) w→(∀N∈Lr,N.le R)→Calls P f args w fun e w'=> ∃v L1,e=.returned v∧Post v L1∧Hp E (L1++ [R]) w'
def Done (E:World) (R:Heaplet) (Post:Value→List Heaplet→Prop) (e:Ending) (w':World):Prop:= ∃v L1,e=.returned v∧Post v L1∧Hp E (L1++ [R]) w'
def bodyPostE (P:Program) (fn:Func) (E:World) (R:Heaplet) (Post:Value→List Heaplet→Prop) (e:Exit) (a:Act) (w:World):Prop:=dfOf E= []→bodyPost P fn (Done E R Post) e a w
section
variable {P : Program} {f : FuncId} {args : Array Value} {L0 Lr : List Heaplet} {Post : Value → List Heaplet → Prop}
theorem Fn.mono {Post':Value→List Heaplet→Prop} (h:Fn P f args L0 Lr Post) (hp: ∀v L,Post v L→Post' v L):Fn P f args L0 Lr Post':=fun E w R hw hr=>
 (h E w R hw hr).mono fun _ _ ⟨v,L1,he,hP,hh⟩=>⟨v,L1,he,hp _ _ hP,hh⟩
theorem Fn.more {Lr':List Heaplet} (h:Fn P f args L0 Lr Post) (hs: ∀N∈Lr,N∈Lr'):Fn P f args L0 Lr' Post:=fun E w R hw hr=>h E w R hw fun N hN=>hr N (hs N hN)
theorem wp_body_mono {Q Q':Exit→Act→World→Prop} {c:Code} {a:Act} {w:World} (hq: ∀e a w,Q e a w→Q' e a w) (h:c.wp P Q a w):c.wp P Q' a w:=fun b k cs=>
 let ⟨e,a',w',q,r⟩:=h b k cs;⟨e,a',w',hq _ _ _ q,r⟩
theorem bodyPost_mono {fn:Func} {R R':Ending→World→Prop} (hr: ∀e w,R e w→R' e w) {e:Exit} {a:Act} {w:World} (h:bodyPost P fn R e a w):bodyPost P fn R' e a w:=by
 cases e with
 |normal=>obtain⟨hd,v,h1,h2⟩:=h;exact⟨hd,v,h1,hr _ _ h2⟩
 |ret=>obtain⟨hd,v,h1,h2⟩:=h;exact⟨hd,v,h1,hr _ _ h2⟩
 |panic ch=>exact⟨h.1,hr _ _ h.2⟩
 |exit id=>exact h
 |goto l=>exact h
 |outgrown=>exact hr _ _ h
theorem Fn.of_at {fn:Func} {c:Code} {n:Nat} {l:List (Nat×Value)} (hf:P.funcs[f]? =some fn) (hb:fn.body=some c) (hn:fn.ntmps=n) (hs:args.size≤n) (hl: ∀i v,lk l i=some v→args[i]? =some v)
 (h: ∀(E:World) (R:Heaplet),(∀N∈Lr,N.le R)→At n l E (L0++ [R]) (c.wp P (bodyPostE P fn E R Post))):Fn P f args L0 Lr Post:=by
 intro E w R hw hr
 refine calls_of_wp hf hb ?_
 subst hn
 refine wp_body_mono ?_ (h (dfNo E) R hr _ _ (Fr.init hs hl) (hw.env U U U))
 intro e a w hq
 refine bodyPost_mono (fun e w ⟨v,L1,h1,h2,h3⟩=>⟨v,L1,h1,h2,h3.env U U rfl⟩) (hq (dfOf_no E))
def slots:Nat→List Value→List (Nat×Value)
 |_,[]=> []
 |k,v::t=>(k,v)::slots (k+1) t
theorem slots_get (l:List Value): ∀k i v,lk (slots k l) i=some v→k≤i∧l[i- k]? =some v:=by
 induction l with
 |nil=>intro k i v h;cases h
 |cons x t ih=>
  intro k i v h
  simp only [slots,lk]at h
  by_cases e:k=i
  ·subst e;simp at h;subst h;simp
  ·have:Nat.beq k i=false:=beq_no e
   rw [this]at h
   obtain⟨h1,h2⟩:=ih _ _ _ h
   refine⟨by omega,?_⟩
   rw [show i- k=(i- (k+1))+1 from by omega];simpa using h2
theorem Fn.enter {vs:List Value} {fn:Func} {c:Code} {n:Nat} (hf:P.funcs[f]? =some fn) (hb:fn.body=some c) (hn:fn.ntmps=n) (hs:Nat.ble vs.length n=true)
 (h: ∀(E:World) (R:Heaplet),(∀N∈Lr,N.le R)→At n (slots 0 vs) E (L0++ [R]) (c.wp P (bodyPostE P fn E R Post))):Fn P f vs.toArray L0 Lr Post:=
 Fn.of_at hf hb hn (by simpa using hs) (fun i v hi=>by have:=(slots_get vs 0 i v hi).2;simpa using this) h
inductive Res (P:Program) (l:List (Nat×Value)) (L:List Heaplet):List ResultVar→List Value→Prop
 |nil:Res P l L [] []
 |tmp {t:Nat} {v:Value} {rs:List ResultVar} {vs:List Value} (h:lk l t=some v) (k:Res P l L rs vs):Res P l L (.tmp t::rs) (v::vs)
 |cell {t:Nat} {T:TypeId} {v:Value} {a:Addr} {rs:List ResultVar} {vs:List Value} (h:lk l t=some (.pointer (some a))) (hv: ∀E w,Hp E L w→(loadVar T a).run P w=.ok v w) (k:Res P l L rs vs):Res P l L (.cell t T::rs) (v::vs)
theorem results_res {ds:List Deferred} {fn:Func} {n:Nat} {l:List (Nat×Value)} {a:Act} {E w:World} {L:List Heaplet} (hf:Fr ds n l a) (hw:Hp E L w)
 {rs:List ResultVar} {vs:List Value} (h:Res P l L rs vs) (e:fn.results=rs.toArray):
  (results fn a.tmps).run P w=.ok (if h:vs.length=1 then vs[0]else .tuple vs.toArray) w:=by
 have key: ∀ {rs:List ResultVar} {vs:List Value},Res P l L rs vs→
  (rs.mapM (m:=Sem) fun
   |.tmp t=>pure (a.tmps.getD t undef)
   |.cell x t=>do loadVar t (←asAddr (a.tmps.getD x undef))).run P w=.ok vs w:=by
  intro rs vs h
  induction h with
  |nil=>rfl
  |tmp ht _ ih=>
   have:=hf.get _ _ ht
   simp only [List.mapM_cons,Array.getD_eq_getD_getElem?,this,Option.getD_some]at ih⊢
   rw [Sem.run_bind]
   simp only [Sem.run_pure,Result.andThen_ok]
   rw [Sem.run_bind,ih]
   rfl
  |cell ht hv _ ih=>
   have:=hf.get _ _ ht
   simp only [List.mapM_cons,Array.getD_eq_getD_getElem?,this,Option.getD_some]at ih⊢
   rw [Sem.run_bind,Sem.run_bind,show ∀x,asAddr (Value.pointer (some x))=pure x from fun _=>rfl]
   simp only [Sem.run_pure,Result.andThen_ok,hv E w hw]
   rw [Sem.run_bind,ih]
   rfl
 unfold results
 rw [e,List.mapM_toArray]
 have step: ∀s:Sem (List Value),s.run P w=.ok vs w→(do
  let vs ←Functor.map List.toArray s
  pure (if h:vs.size=1 then vs[0]else .tuple vs):Sem Value).run P w=.ok (if h:vs.length=1 then vs[0]else .tuple vs.toArray) w:=by
  intro s hs
  rw [map_eq_pure_bind,Sem.run_bind,Sem.run_bind,hs]
  rfl
 exact step _ (key h)
theorem cF {n:Nat} {l:List (Nat×Value)} {E:World} {L L1 L2:List Heaplet} {R:Heaplet} {fn:Func} {r:ResultVar} {v:Value} (hr:fn.results= #[r]) (hv:Res P l L [r] [v]) (hs:L2.Sublist L) (hL:L2.Perm (L1++ [R])) (hP:Post v L1):
 At n l E L (bodyPostE P fn E R Post .ret):=fun a w hf hw hE=>
 ⟨hf.defers.trans hE,v,by
  have:=results_res (P:=P) (w:=w) (fn:=fn) hf hw hv hr
  simpa using this,v,L1,rfl,hP,(hw.drop hs).perm hL⟩
theorem At.retN {n:Nat} {l:List (Nat×Value)} {E:World} {L L1 L2:List Heaplet} {R:Heaplet} {fn:Func} {rs:List ResultVar} {vs:List Value} (hr:fn.results=rs.toArray)
 (hv:Res P l L rs vs) (hn:(vs.length==1)=false) (hs:L2.Sublist L) (hL:L2.Perm (L1++ [R])) (hP:Post (.tuple vs.toArray) L1):
 At n l E L (bodyPostE P fn E R Post .ret):=fun a w hf hw hE=>
 ⟨hf.defers.trans hE,_,by
  have:=results_res (P:=P) (w:=w) (fn:=fn) hf hw hv hr
  have hn': ¬vs.length=1:=by simpa using hn
  rw [dif_neg hn']at this
  exact this,_,L1,rfl,hP,(hw.drop hs).perm hL⟩
end
end Go.Proofs.YtalmjkcapecpiaaGreat
