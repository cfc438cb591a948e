/- Several texts in one: see the remarks ahead of each part. No condition but those told there. -/
import Derived.Test.YtjfagifjajielaaGreatU8
import Derived.Recover
import Derived.Test.YtjfagifjajielaaGreatU2
import Derived.Test.YtjfagifjajielaaGreatU5
import Derived.Test.YtjfagifjajielaaGreatU4
set_option linter.unusedSimpArgs false
set_option linter.unusedVariables false
/- The engine, part 14: calls that give up by a panic; a frame that has deferred one call; recover. For whatever program. No condition. -/
namespace Go.Proofs.YtjfagifjajielaaGreat
open Go Go.RowKit
/-- A panic's chain. -/
def pnk (v:Value):List PanicEntry:= [{ v:=v,recovered:=false }]
/-- The end: a value, or a panic. -/
def DoneX (E:World) (R:Heaplet) (Post Pan:Value→List Heaplet→Prop) (e:Ending) (w':World):Prop:=
 (∃v L1,e=.returned v∧Post v L1∧Hp E (L1++ [R]) w')∨ ∃v L1,e=.panicked (pnk v)∧Pan v L1∧Hp E (L1++ [R]) w'
/-- A call that gives a value or panics. -/
def FnE (P:Program) (f:FuncId) (args:Array Value) (L0 Lr:List Heaplet) (Post Pan:Value→List Heaplet→Prop):Prop:=
 ∀(E w:World) (R:Heaplet),Hp E (L0++ [R]) w→(∀N∈Lr,N.le R)→Calls P f args w (DoneX E R Post Pan)
def bodyPostX (P:Program) (fn:Func) (E:World) (R:Heaplet) (Post Pan:Value→List Heaplet→Prop) (e:Exit) (a:Act) (w:World):Prop:=dfOf E= []→bodyPost P fn (DoneX E R Post Pan) e a w
section
variable {P : Program} {f : FuncId} {args : Array Value} {L0 Lr : List Heaplet} {Post Pan : Value → List Heaplet → Prop}
theorem Fn.x (h:Fn P f args L0 Lr Post):FnE P f args L0 Lr Post Pan:=fun E w R hw hr=>(h E w R hw hr).mono fun _ _ h=>.inl h
theorem FnE.fn (h:FnE P f args L0 Lr Post fun _ _=>False):Fn P f args L0 Lr Post:=fun E w R hw hr=>(h E w R hw hr).mono fun _ _ h=>by
 rcases h with h|⟨_,_,_,h,_⟩
 ·exact h
 ·exact h.elim
theorem FnE.mono {Post' Pan':Value→List Heaplet→Prop} (h:FnE P f args L0 Lr Post Pan) (hp: ∀v L,Post v L→Post' v L) (hq: ∀v L,Pan v L→Pan' v L):FnE P f args L0 Lr Post' Pan':=fun E w R hw hr=>
 (h E w R hw hr).mono fun _ _ h=>h.elim (fun⟨v,L1,he,hP,hh⟩=>.inl ⟨v,L1,he,hp _ _ hP,hh⟩) (fun⟨v,L1,he,hP,hh⟩=>.inr ⟨v,L1,he,hq _ _ hP,hh⟩)
theorem FnE.more {Lr':List Heaplet} (h:FnE P f args L0 Lr Post Pan) (hs: ∀N∈Lr,N∈Lr'):FnE P f args L0 Lr' Post Pan:=fun E w R hw hr=>h E w R hw fun N hN=>hr N (hs N hN)
theorem FnE.enter {vs:List Value} {fn:Func} {c:Code} {n:Nat} (hf:P.funcs[f]? =some fn) (hb:fn.body=some c) (hn:fn.ntmps=n) (hs:Nat.ble vs.length n=true)
 (h: ∀(E:World) (R:Heaplet),(∀N∈Lr,N.le R)→At n (slots 0 vs) E (L0++ [R]) (c.wp P (bodyPostX P fn E R Post Pan))):FnE P f vs.toArray L0 Lr Post Pan:=by
 intro E w R hw hr
 refine calls_of_wp hf hb ?_
 subst hn
 refine wp_body_mono ?_ (h (dfNo E) R hr _ _ (Fr.init (by simpa using hs) (fun i v hi=>by have:=(slots_get vs 0 i v hi).2;simpa using this)) (hw.env rfl rfl rfl))
 intro e a w hq
 exact bodyPost_mono (fun e w h=>h.elim (fun⟨v,L1,h1,h2,h3⟩=>.inl ⟨v,L1,h1,h2,h3.env rfl rfl rfl⟩) (fun⟨v,L1,h1,h2,h3⟩=>.inr ⟨v,L1,h1,h2,h3.env rfl rfl rfl⟩)) (hq (dfOf_no E))
end
section
variable {P : Program} {n : Nat} {l l' : List (Nat × Value)} {E : World} {L L' L1 L2 : List Heaplet} {K K' : Act → World → Prop} {Q : Exit → Act → World → Prop}
variable {fn : Func} {R : Heaplet} {Post Pan : Value → List Heaplet → Prop} {ops : Array Oper} {rest : List Oper} {d : Nat} {ty : TypeId} {pos : String} {aft : Array Edge} {v : Value}
theorem At.retX (h:At n l E L (bodyPostE P fn E R Post .ret)):At n l E L (bodyPostX P fn E R Post Pan .ret):=
 At.mono (fun a w h hE=>bodyPost_mono (fun _ _ h=>.inl h) (h hE)) h
theorem At.norX (h:At n l E L (bodyPostE P fn E R Post .normal)):At n l E L (bodyPostX P fn E R Post Pan .normal):=
 At.mono (fun a w h hE=>bodyPost_mono (fun _ _ h=>.inl h) (h hE)) h
/-- A panic goes on to the outside. -/
theorem aX {ch:List PanicEntry} (h:At n l E L (Q (.panic ch))):At n l E L (Exit.then K Q (.panic ch)):=h
theorem At.inPan {id:Nat} {ch:List PanicEntry} (h:At n l E L (Q (.panic ch))):At n l E L (Exit.inBlock id Q (.panic ch)):=h
theorem At.pan (hs:L2.Sublist L) (hL:L2.Perm (L1++ [R])) (hP:Pan v L1):At n l E L (bodyPostX P fn E R Post Pan (.panic (pnk v))):=fun _ _ hf hw hE=>
 ⟨hf.defers.trans hE,.inr ⟨v,L1,rfl,hP,(hw.drop hs).perm hL⟩⟩
/-- The operation that panics. -/
theorem op_panic {x:Operand} (hx:ev l x=some v) (hr: ∀w,(Instr.panic v).run P w=.halt (.panic v) w) (h:At n l E L (Q (.panic (pnk v)))):At n l E L (wpList P ops Q (⟨none,.panic x,ty,pos,aft,none⟩::rest)):=fun a w hf hw=>
 wpList_plain rfl fun K _=>by
  unfold Oper.wp
  have e:(execOp a.eval ⟨none,.panic x,ty,pos,aft,none⟩).run P w=.halt (.panic v) w:=by
   simp [execOp,hf.eval hx,hr]
  rw [e]
  exact h a w hf hw
theorem op_callE {f:FuncId} {fn:Func} {xs:List Operand} {args:List Value} {ats:Array TypeId} {L0 Lr F:List Heaplet}
 (ha:Evs l xs args) (hc:FnE P f args.toArray L0 Lr Post Pan) (hfn:P.funcs[f]? =some fn) (hb:fn.body.isSome=true) (hne:(fn.name== "runtime.NumGoroutine")=false) (hL:L.Perm (L0++F)) (hr: ∀N∈Lr,N∈F) (hn:Nat.ble (d+1) n=true)
 (hp: ∀v L1,Pan v L1→At n l E (L1++F) (Q (.panic (pnk v))))
 (h: ∀v L1,Post v L1→At n ((d,v)::l) E (L1++F) (wpList P ops Q rest)):At n l E L (wpList P ops Q (⟨some d,.call ⟨.value (.func f),xs.toArray,ats⟩,ty,pos,aft,none⟩::rest)):=fun a w hf hw=>by
 refine wpList_plain rfl fun K hK=>?_
 unfold Oper.wp
 have hw2:=hw.perm hL
 have hrun:(execOp a.eval ⟨some d,.call ⟨.value (.func f),xs.toArray,ats⟩,ty,pos,aft,none⟩).run P w=.ok (.enter f args.toArray) w:=by
  have hne':fn.name≠ "runtime.NumGoroutine" :=by simpa using hne
  have he:a.eval (.func f)=.func (.func f) #[] #[]:=rfl
  simp only [execOp,resolve,invoke,Sem.run_bind,Sem.run_pure,Result.andThen_ok,List.map_toArray,ha.map hf,he,Deferred.ofValue,Array.empty_append,Array.append_empty,run_call hfn hb hne']
 rw [hrun]
 have hsep:=List.pairwise_append.1 hw2.sep
 let R:Heaplet:=fun k=>if ∃N∈L0,N k≠none then none else w.heap[k]?
 have hRw:R.le (whole w):=fun k o hk=>by
  simp only [R]at hk
  split at hk
  ·cases hk
  ·exact hk
 have hFR: ∀N∈F,N.le R:=fun N hN k o hk=>by
  have hno: ¬ ∃M∈L0,M k≠none:=by
   rintro⟨M,hM,hMk⟩
   rcases hsep.2.2 M hM N hN k with h|h
   ·exact hMk h
   ·rw [hk]at h;cases h
  simp only [R,if_neg hno]
  exact hw2.sub N (List.mem_append_right _ hN) k o hk
 have hwR:Hp E (L0++ [R]) w:=by
  refine⟨hw.os,hw.tape,hw.output,fun N hN=>?_,?_⟩
  ·rcases List.mem_append.1 hN with hN|hN
   ·exact hw2.sub N (List.mem_append_left _ hN)
   ·simp at hN;subst hN;exact hRw
  ·rw [List.pairwise_append]
   refine⟨hsep.1,by simp,fun A hA B hB k=>?_⟩
   simp at hB;subst hB
   by_cases hAk:A k=none
   ·exact .inl hAk
   ·exact .inr (if_pos ⟨A,hA,hAk⟩)
 refine Calls.mono (hc E w R hwR fun N hN=>hFR N (hr N hN)) ?_
 rintro e w' (⟨v,L1,rfl,hP,hw'⟩|⟨v,L1,rfl,hP,hw'⟩)
 ·exact hK _ _ (h v L1 hP _ _ (hf.put (Nat.le_of_ble_eq_true hn)) (hw'.refine hFR hsep.2.1))
 ·exact hp v L1 hP _ _ hf (hw'.refine hFR hsep.2.1)
/-- What is not used up by a call, as one heaplet. -/
theorem Hp.apartRest {L0 F:List Heaplet} {w:World} (hw:Hp E (L0++F) w): ∃R:Heaplet,Hp E (L0++ [R]) w∧(∀N∈F,N.le R)∧F.Pairwise Apart:=by
 have hsep:=List.pairwise_append.1 hw.sep
 refine⟨fun k=>if ∃N∈L0,N k≠none then none else w.heap[k]?,⟨hw.os,hw.tape,hw.output,fun N hN=>?_,?_⟩,fun N hN k o hk=>?_,hsep.2.1⟩
 ·rcases List.mem_append.1 hN with hN|hN
  ·exact hw.sub N (List.mem_append_left _ hN)
  ·simp at hN;subst hN
   intro k o hk
   simp only at hk
   split at hk
   ·cases hk
   ·exact hk
 ·rw [List.pairwise_append]
  refine⟨hsep.1,by simp,fun A hA B hB k=>?_⟩
  simp at hB;subst hB
  by_cases hAk:A k=none
  ·exact .inl hAk
  ·exact .inr (if_pos ⟨A,hA,hAk⟩)
 ·have hno: ¬ ∃M∈L0,M k≠none:=by
   rintro⟨M,hM,hMk⟩
   rcases hsep.2.2 M hM N hN k with h|h
   ·exact hMk h
   ·rw [hk]at h;cases h
  simp only [if_neg hno]
  exact hw.sub N (List.mem_append_right _ hN) k o hk
theorem op_neNilF {x:Operand} {t t' e:TypeId} {Ls:List Heaplet} {X Y:Act→World→Prop} {g:Option (Nat×Bool)} (s:NxF P n l E L Ls ⟨some d,.binOp .neq t x (.const .nilIface) t',ty,pos,aft,g⟩ X Y) (ht:isIfc P t=true) (hx:ev l x=some (.iface e v)) (hn:Nat.ble (d+1) n=true) (h:At n ((d,.bool true)::l) E L Y):At n l E L X:=
 op_bin s hx rfl (fun w=>by simp [eqGuard]) (fun w=>by simp [binOp,run_equal_iface_nil ht]) hn h
theorem op_neNilT {x:Operand} {t t':TypeId} {Ls:List Heaplet} {X Y:Act→World→Prop} {g:Option (Nat×Bool)} (s:NxF P n l E L Ls ⟨some d,.binOp .neq t x (.const .nilIface) t',ty,pos,aft,g⟩ X Y) (ht:isIfc P t=true) (hx:ev l x=some .nilIface) (hn:Nat.ble (d+1) n=true) (h:At n ((d,.bool false)::l) E L Y):At n l E L X:=
 op_bin s hx rfl (fun w=>by simp [eqGuard]) (fun w=>by simp [binOp,run_equal_nil_nil ht]) hn h
/-- A closure is laid by for the end. -/
theorem op_defer {f:FuncId} {c:Operand} {caps:List Value} {ats:Array TypeId} (hcv:ev l c=some (.func (.func f) #[] caps.toArray)) (hE:dfOf E= []) (h:At n l (dfOn E (.func f) caps.toArray #[]) L (wpList P ops Q rest)):
 At n l E L (wpList P ops Q (⟨none,.defer ⟨.value c, #[],ats⟩,ty,pos,aft,none⟩::rest)):=fun a w hf hw=>
 wpList_plain rfl fun K hK=>by
  unfold Oper.wp
  have e:(execOp a.eval ⟨none,.defer ⟨.value c, #[],ats⟩,ty,pos,aft,none⟩).run P w=.ok (.defer { target:=.fn (.func f) caps.toArray,args:= #[] }) w:=by
   simp [execOp,resolve,hf.eval hcv,Deferred.ofValue]
  rw [e]
  have hd:=hf.defers
  rw [hE]at hd
  exact hK _ _ (h _ _ ⟨by rw [dfOf_on];simp [Act.put,hd],by simpa [Act.put]using hf.size,fun i v hi=>by simpa [Act.put]using hf.get i v hi⟩ (hw.env rfl rfl rfl))
end
/-- The deferred closure, where the frame below panics: it recovers; where it returns: nothing is done. -/
def FnRec (P:Program) (f:FuncId) (args:Array Value) (v:Value) (L0:List Heaplet) (Post:List Heaplet→Prop):Prop:=
 ∀(E w:World) (R:Heaplet),Hp E (L0++ [R]) w→CallsD P f args (.panicking (pnk v)) w fun e u' w'=>u'=.panicking [{ v:=v,recovered:=true }]∧ ∃x L1,e=.returned x∧Post L1∧Hp E (L1++ [R]) w'
def FnRet (P:Program) (f:FuncId) (args:Array Value):Prop:=
 ∀(E w:World) (L:List Heaplet),Hp E L w→CallsD P f args .returning w fun e u' w'=>u'=.returning∧ ∃x,e=.returned x∧Hp E L w'
section
variable {P : Program} {n : Nat} {l : List (Nat × Value)} {E : World} {L L0 F : List Heaplet} {fn : Func} {R : Heaplet} {Post : Value → List Heaplet → Prop} {v : Value}
theorem Fn.enterD {Lr:List Heaplet} {f:FuncId} {vs:List Value} {fn:Func} {c:Code} {n:Nat} (hf:P.funcs[f]? =some fn) (hb:fn.body=some c) (hn:fn.ntmps=n) (hs:Nat.ble vs.length n=true)
 (h: ∀(E:World) (R:Heaplet),(∀N∈Lr,N.le R)→dfOf E= []→At n (slots 0 vs) E (L0++ [R]) (c.wp P (bodyPostD P fn (Done E R Post)))):Fn P f vs.toArray L0 Lr Post:=by
 intro E w R hw hr
 refine calls_of_wp_defers hf hb ?_
 subst hn
 have h1:=h (dfNo E) R hr (dfOf_no E) _ _ (Fr.init (by show vs.length≤_;exact Nat.le_of_ble_eq_true hs) (fun i v hi=>by have:=(slots_get vs 0 i v hi).2;simpa using this)) (hw.env rfl rfl rfl)
 refine wp_body_mono ?_ h1
 intro e a w hq
 have hmono: ∀(ds:List Deferred) (u:FrameMode) (w:World),Leaves P fn a.tmps (Done (dfNo E) R Post) ds u w→Leaves P fn a.tmps (Done E R Post) ds u w:=by
  have hd: ∀e w,Done (dfNo E) R Post e w→Done E R Post e w:=fun e w ⟨v,L1,h1,h2,h3⟩=>⟨v,L1,h1,h2,h3.env rfl rfl rfl⟩
  intro ds
  induction ds with
  |nil=>
   intro u w h
   cases u with
   |run=>exact h
   |returning=>exact⟨h.choose,h.choose_spec.1,hd _ _ h.choose_spec.2⟩
   |panicking ch=>exact hd _ _ h
  |cons d ds ih=>
   intro u w h
   obtain⟨h1,fv,cap,f,args,h2,h3,h4⟩:=h
   refine⟨h1,fv,cap,f,args,h2,h3,h4.mono fun e u' w' hh=>?_⟩
   cases e with
   |returned x=>exact ih _ _ hh
   |panicked ch=>exact ih _ _ hh
   |outgrown=>exact hd _ _ hh
 cases e with
 |normal=>exact hmono _ _ _ hq
 |ret=>exact hmono _ _ _ hq
 |panic ch=>exact hmono _ _ _ hq
 |exit id=>exact hq
 |goto l=>exact hq
 |outgrown=>obtain⟨v,L1,h1,h2,h3⟩:=hq;exact⟨v,L1,h1,h2,h3.env rfl rfl rfl⟩
theorem run_clo {f:FuncId} {fn:Func} (hfn:P.funcs[f]? =some fn) (hb:fn.body.isSome=true) (hne:(fn.name== "runtime.NumGoroutine")=false) (caps:Array Value) (w:World):(invoke (.fn (.func f) caps) #[]).run P w=.ok (.enter f caps) w:=by
 have hne':fn.name≠ "runtime.NumGoroutine" :=by simpa using hne
 simp only [invoke,Array.empty_append,run_call hfn hb hne']
/-- The end by a return: the closure is called, and nothing is turned. -/
theorem At.retD {f:FuncId} {fc:Func} {caps:List Value} (hE:dfOf E= []) (hc:FnRet P f caps.toArray) (hfn:P.funcs[f]? =some fc) (hb:fc.body.isSome=true) (hne:(fc.name== "runtime.NumGoroutine")=false)
 (h:At n l E L (bodyPostE P fn E R Post .ret)):At n l (dfOn E (.func f) caps.toArray #[]) L (bodyPostD P fn (Done E R Post) .ret):=fun a w hf hw=>by
 have hd:=hf.defers
 rw [dfOf_on]at hd
 show Leaves P fn a.tmps (Done E R Post) a.defers .returning w
 rw [hd]
 refine leaves_cons (by simp) (run_clo hfn hb hne _ w) ((hc E w L (hw.env rfl rfl rfl)).mono ?_)
 rintro e u' w' ⟨rfl,x,rfl,hw'⟩
 have h2:=h { a with defers:= [] } w' ⟨hE.symm,hf.size,hf.get⟩ hw' hE
 exact h2.2
/-- The end by a panic: the closure recovers. -/
theorem At.panD {f:FuncId} {fc:Func} {caps:List Value} {PostC:List Heaplet→Prop} (hE:dfOf E= []) (hc:FnRec P f caps.toArray v L0 PostC) (hfn:P.funcs[f]? =some fc) (hb:fc.body.isSome=true) (hne:(fc.name== "runtime.NumGoroutine")=false) (hL:L.Perm (L0++F))
 (h: ∀L1,PostC L1→At n l E (L1++F) (bodyPostE P fn E R Post .ret)):At n l (dfOn E (.func f) caps.toArray #[]) L (bodyPostD P fn (Done E R Post) (.panic (pnk v))):=fun a w hf hw=>by
 have hd:=hf.defers
 rw [dfOf_on]at hd
 show Leaves P fn a.tmps (Done E R Post) a.defers (.panicking (pnk v)) w
 rw [hd]
 refine leaves_cons (by simp) (run_clo hfn hb hne _ w) ?_
 have hw1:Hp E (L0++F) w:=(hw.perm hL).env rfl rfl rfl
 obtain⟨R',hR,hle,hsep⟩:=hw1.apartRest
 refine(hc E w R' hR).mono ?_
 rintro e u' w' ⟨rfl,x,L1,rfl,hP,hw'⟩
 have h2:=h L1 hP { a with defers:= [] } w' ⟨hE.symm,hf.size,hf.get⟩ (hw'.refine hle hsep) hE
 exact h2.2
end
section
variable {P : Program} {f : FuncId} {fn : Func} {c : Code} {vs : List Value} {n d d2 id : Nat} {ats : Array TypeId} {ty ty2 : TypeId} {pos pos2 : String} {aft aft2 : Array Edge}
theorem rec_ops {Q:Exit→Act→List Frame→World→Prop} {ops:Array Oper} {a:Act} {cs cs':List Frame} {w:World} {v:Value}
 (hops:ops= #[⟨some d,.call ⟨.builtin .recover, #[],ats⟩,ty,pos,aft,none⟩,⟨some d2,.assign (.tmp d),ty2,pos2,aft2,none⟩])
 (hr:recoverD cs=some (v,cs')∨(recoverD cs=none∧v=.nilIface∧cs'=cs)) (hd:d<a.tmps.size)
 (h:Q .normal ((a.put (some d) v).put (some d2) v) cs' w):wpOpsS P ops Q (List.range ops.size) a cs w:=by
 subst hops
 have e1:(execOp a.eval ⟨some d,.call ⟨.builtin .recover, #[],ats⟩,ty,pos,aft,none⟩).run P w=.ok .recover w:=by
  simp [execOp,resolve,invoke,builtin]
 have e2:((a.put (some d) v).eval (.tmp d))=v:=by
  simp [Act.put,Act.eval,Array.getD_eq_getD_getElem?,hd]
 have w1:Region.wanted (⟨some d,.call ⟨.builtin .recover, #[],ats⟩,ty,pos,aft,none⟩:Oper) (yielded #[⟨some d,.call ⟨.builtin .recover, #[],ats⟩,ty,pos,aft,none⟩,⟨some d2,.assign (.tmp d),ty2,pos2,aft2,none⟩] a.tmps)=true:=by simp [Region.wanted]
 have hlast:wpOpsS P #[⟨some d,.call ⟨.builtin .recover, #[],ats⟩,ty,pos,aft,none⟩,⟨some d2,.assign (.tmp d),ty2,pos2,aft2,none⟩] Q [1] (a.put (some d) v) cs' w:=by
  have w2:Region.wanted (⟨some d2,.assign (.tmp d),ty2,pos2,aft2,none⟩:Oper) (yielded #[⟨some d,.call ⟨.builtin .recover, #[],ats⟩,ty,pos,aft,none⟩,⟨some d2,.assign (.tmp d),ty2,pos2,aft2,none⟩] (a.put (some d) v).tmps)=true:=by simp [Region.wanted]
  simp only [wpOpsS,List.getElem?_toArray,List.getElem?_cons_succ,List.getElem?_cons_zero,w2,if_true]
  simp only [execOp,e2,Sem.run_pure]
  exact h
 show wpOpsS P _ Q [0,1] a cs w
 rw [wpOpsS]
 simp only [List.getElem?_toArray,List.getElem?_cons_zero,w1,if_true,e1]
 rcases hr with hr|⟨hr,rfl,rfl⟩
 ·rw [hr];exact hlast
 ·rw [hr];exact hlast
theorem Fr.two {v:Value} (hn:fn.ntmps=n) (hs:Nat.ble vs.length n=true) (h1:Nat.ble (d+1) n=true) (h2:Nat.ble (d2+1) n=true):
 Fr [] n ((d2,v)::(d,v)::slots 0 vs) (({ tmps:=vs.toArray++Array.replicate (fn.ntmps- vs.toArray.size) undef,defers:= [] } :Act).put (some d) v |>.put (some d2) v):=by
 subst hn
 have h0:Fr [] fn.ntmps (slots 0 vs) { tmps:=vs.toArray++Array.replicate (fn.ntmps- vs.toArray.size) undef,defers:= [] } :=
  Fr.init (by simpa using hs) (fun i v hi=>by have:=(slots_get vs 0 i v hi).2;simpa using this)
 exact(h0.put (Nat.le_of_ble_eq_true h1)).put (Nat.le_of_ble_eq_true h2)
theorem FnRec.enter {v:Value} {L0:List Heaplet} {PostC:List Heaplet→Prop} (hf:P.funcs[f]? =some fn)
 (hb:fn.body=some (Code.seq (Code.region id #[⟨some d,.call ⟨.builtin .recover, #[],ats⟩,ty,pos,aft,none⟩,⟨some d2,.assign (.tmp d),ty2,pos2,aft2,none⟩] false) c)) (hn:fn.ntmps=n) (hs:Nat.ble vs.length n=true) (h1:Nat.ble (d+1) n=true) (h2:Nat.ble (d2+1) n=true)
 (h: ∀(E:World) (R:Heaplet),At n ((d2,v)::(d,v)::slots 0 vs) E (L0++ [R]) (c.wp P (bodyPostE P fn E R fun _ L=>PostC L))):FnRec P f vs.toArray v L0 PostC:=by
 intro E w R hw
 refine callsD_of_wpS hf hb fun c₀ cs hu=>?_
 apply wpS_seq
 apply wpS_region
 have hfr:=Fr.two (d:=d) (d2:=d2) (v:=v) hn hs h1 h2
 refine rec_ops (v:=v) (cs':= { c₀ with mode:=.panicking [{ v:=v,recovered:=true }] } ::cs) rfl (.inl (by simp [recoverD,hu,pnk])) ?_ ?_
 ·have:=Nat.le_of_ble_eq_true h1
  have hs':vs.length≤n:=Nat.le_of_ble_eq_true hs
  simp;omega
 show Code.wpS P c _ _ _ _
 refine wpS_of_wp (wp_body_mono ?_ (h (dfNo E) R _ w hfr (hw.env rfl rfl rfl)))
 intro e a w' hq
 have hq:=hq (dfOf_no E)
 cases e with
 |normal=>obtain⟨hd,x,h3,y,L1,h4,h5,h6⟩:=hq;exact⟨hd,_,rfl,x,h3,rfl,y,L1,h4,h5,h6.env rfl rfl rfl⟩
 |ret=>obtain⟨hd,x,h3,y,L1,h4,h5,h6⟩:=hq;exact⟨hd,_,rfl,x,h3,rfl,y,L1,h4,h5,h6.env rfl rfl rfl⟩
 |panic ch=>obtain⟨hd,y,L1,h4,_⟩:=hq;cases h4
 |exit id=>exact hq
 |goto l=>exact hq
 |outgrown=>obtain⟨y,L1,h4,_⟩:=hq;cases h4
theorem FnRet.enter (hf:P.funcs[f]? =some fn)
 (hb:fn.body=some (Code.seq (Code.region id #[⟨some d,.call ⟨.builtin .recover, #[],ats⟩,ty,pos,aft,none⟩,⟨some d2,.assign (.tmp d),ty2,pos2,aft2,none⟩] false) c)) (hn:fn.ntmps=n) (hs:Nat.ble vs.length n=true) (h1:Nat.ble (d+1) n=true) (h2:Nat.ble (d2+1) n=true)
 (h: ∀(E:World) (R:Heaplet),At n ((d2,.nilIface)::(d,.nilIface)::slots 0 vs) E [R] (c.wp P (bodyPostE P fn E R fun _ L=>L= []))):FnRet P f vs.toArray:=by
 intro E w L hw
 obtain⟨R,hR,hle,hsep⟩:=Hp.apartRest (L0:= []) (F:=L) hw
 refine callsD_of_wpS hf hb fun c₀ cs hu=>?_
 apply wpS_seq
 apply wpS_region
 have hfr:=Fr.two (d:=d) (d2:=d2) (v:=.nilIface) hn hs h1 h2
 refine rec_ops (v:=.nilIface) (cs':=c₀::cs) rfl (.inr ⟨by simp [recoverD,hu],rfl,rfl⟩) ?_ ?_
 ·have:=Nat.le_of_ble_eq_true h1
  have hs':vs.length≤n:=Nat.le_of_ble_eq_true hs
  simp;omega
 show Code.wpS P c _ _ _ _
 refine wpS_of_wp (wp_body_mono ?_ (h (dfNo E) R _ w hfr (hR.env rfl rfl rfl)))
 intro e a w' hq
 have hq:=hq (dfOf_no E)
 have hc:c₀= { c₀ with mode:=.returning } :=by cases c₀;simp_all
 cases e with
 |normal=>obtain⟨hd,x,h3,y,L1,h4,rfl,h6⟩:=hq;exact⟨hd,.returning,by rw [←hc],x,h3,rfl,y,h4,Hp.refine (L:= []) (h6.env rfl rfl rfl) hle hsep⟩
 |ret=>obtain⟨hd,x,h3,y,L1,h4,rfl,h6⟩:=hq;exact⟨hd,.returning,by rw [←hc],x,h3,rfl,y,h4,Hp.refine (L:= []) (h6.env rfl rfl rfl) hle hsep⟩
 |panic ch=>obtain⟨hd,y,L1,h4,_⟩:=hq;cases h4
 |exit id=>exact hq
 |goto l=>exact hq
 |outgrown=>obtain⟨y,L1,h4,_⟩:=hq;cases h4
end
end Go.Proofs.YtjfagifjajielaaGreat
/- Plain law: the first item of bytes. No condition. -/
namespace Go.Proofs.YtjfagifjajielaaGreat
/-- The payload of n bytes from place i on, and what is behind it. -/
def cutAt (b:List UInt8) (i n:Nat):Option (Bool×List UInt8×List UInt8):=
 if b.length- i<n then none
 else if 192≤(b.getD 0 0).toNat then some (true,(b.drop i).take n,b.drop (i+n))
 else if n=1∧(b.getD i 0).toNat<128 then none
 else some (false,(b.drop i).take n,b.drop (i+n))
/-- What the head's first byte says of the length. -/
def hdr (b:List UInt8):Nat:=((b.getD 0 0).toNat- 128) % 64
/-- The length that is written out. -/
def lng (b:List UInt8):Nat:=be ((b.drop 1).take (hdr b- 54- 1))
/-- The first item's kind and payload, and what is behind it. -/
def cutF (b:List UInt8):Option (Bool×List UInt8×List UInt8):=
 if b.length=0 then none
 else if (b.getD 0 0).toNat<128 then some (false,b.take 1,b.drop 1)
 else if hdr b≤55 then cutAt b 1 (hdr b)
 else if b.length<hdr b- 54∨(b.getD 1 0).toNat=0 then none
 else if lng b≤55∨b.length<lng b then none
 else cutAt b (hdr b- 54) (lng b)
theorem limbs_one {B:Nat} (h0:0<B) (h:B<2^64):limbsOf B= [UInt64.ofNat B]:=by
 have h1:(bitLen B+63)/64≤1:=limbLen_le.2 (by simpa using h)
 have h2:=bitLen_pos h0
 have h3:(bitLen B+63)/64=1:=by omega
 rw [limbsOf,h3];simp [limbsN]
theorem lng_pos {b:List UInt8} (h1:hdr b- 54≤b.length) (h2:56≤hdr b) (h3:(b.getD 1 0).toNat≠0):0<lng b∧lng b<2^64:=by
 have h63:hdr b<64:=Nat.mod_lt _ (by decide)
 have hl:((b.drop 1).take (hdr b- 54- 1)).length=hdr b- 55:=by rw [List.length_take,List.length_drop];omega
 constructor
 ·unfold lng
  cases hb:(b.drop 1).take (hdr b- 54- 1)with
  |nil=>rw [hb]at hl;simp at hl;omega
  |cons x t=>
   rw [be_cons]
   have hx:x=b.getD 1 0:=by
    have e1:((b.drop 1).take (hdr b- 54- 1))[0]? =some x:=by rw [hb];rfl
    rw [List.getElem?_take,if_pos (by omega),List.getElem?_drop]at e1
    rw [List.getD_eq_getElem?_getD,e1];rfl
   have hx0:0<x.toNat:=by rw [hx];omega
   have hp:0<256^t.length:=Nat.pow_pos (by decide)
   have:=Nat.mul_pos hx0 hp
   omega
 ·have:=be_lt ((b.drop 1).take (hdr b- 54- 1))
  rw [hl]at this
  unfold lng
  refine Nat.lt_of_lt_of_le this ?_
  rw [show(2:Nat)^64=256^8 from by decide]
  exact Nat.pow_le_pow_right (by decide) (by omega)
theorem getD_part {b:List UInt8} {i k:Nat} (h:0<k):((b.drop i).take k).getD 0 0=b.getD i 0:=by
 rw [List.getD_eq_getElem?_getD,List.getElem?_take,if_pos h,List.getElem?_drop,List.getD_eq_getElem?_getD,Nat.add_zero]
end Go.Proofs.YtjfagifjajielaaGreat
/- rlp.cut takes the first item's payload apart from what is behind it. No condition. -/
namespace Go.Proofs.YtjfagifjajielaaGreat
open Go Go.RowKit
/-- What rlp.cut tells. -/
def CutV (N:Heaplet) (r:Option (Bool×List UInt8×List UInt8)) (v:Value):Prop:=match r with
 |none=>v=.tuple #[.nilIface,.slice none 0 0]
 |some (isL,p,q)=> ∃a1 c1 a2 c2,v=.tuple #[.iface (if isL then 213 else 211) (.slice a1 p.length c1),.slice a2 q.length c2]∧RSl N 1 a1 p.length c1 (u8s p)∧RSl N 1 a2 q.length c2 (u8s q)
theorem cutv_mk {N:Heaplet} {isL:Bool} {p q:List UInt8} {T:TypeId} {a1 a2:Option Addr} {n1 n2 c1 c2:Nat} (hT:T=if isL then 213 else 211) (h1:RSl N 1 a1 n1 c1 (u8s p)) (h2:RSl N 1 a2 n2 c2 (u8s q)):CutV N (some (isL,p,q)) (.tuple #[.iface T (.slice a1 n1 c1),.slice a2 n2 c2]):=by
 have e1:=h1.len8
 have e2:=h2.len8
 subst e1;subst e2
 exact⟨a1,c1,a2,c2,by rw [hT],h1,h2⟩
theorem cut_f {N:Heaplet} {ao:Option Addr} {n cap:Nat} {b:List UInt8} (h:RSl N 1 ao n cap (u8s b)) (hn:n≤1099511627776):
 Fn Tryz.prog 140 #[.slice ao n cap] [] [N] (fun v L=>L= []∧ ∀M:Heaplet,RSl M 1 ao n cap (u8s b)→CutV M (cutF b) v):=by
 have hlen:=h.len8
 have hcap:=h.cap63
 refine Fn.enter (vs:= [.slice ao n cap]) Tryz.func140 rfl rfl rfl ?_
 intro E R hR
 have h:=h.le (hR N (by simp))
 have hb0:=(b.getD 0 0).toNat_lt
 have hd:hdr b=((b.getD 0 0).toNat- 128) % 64:=rfl
 have hn64:(UInt64.ofNat n).toNat=n:=by rw [UInt64.toNat_ofNat'];exact Nat.mod_eq_of_lt (by omega)
 change At _ _ E [R] _
 refine At.seq fun _ s_1=>At.region (aD (aC rfl) rfl rfl (aD (aC rfl) rfl rfl (aA (aB (s_1 (At.seq fun _ s_2=>At.seq fun _ s_3=>At.region (aE (aC rfl) rfl rfl (a7 (aC rfl) se22 rfl rfl (op_eql (aC rfl) rfl rfl rfl (aA (aB (s_3 (aO rfl (fun c11=>?_) (fun c11=>?_))))))))))))))
 ·refine At.seq fun _ s_4=>At.region (aD (aC rfl) rfl rfl (aD (aC rfl) rfl rfl (aA (aB (s_4 (At.ret (aJ ((aU (L1:= []) rfl (.tmp rfl (.tmp rfl .nil)) rfl (.refl _) (.refl _) ?_)))))))))
  exact⟨rfl,fun M hM=>by rw [cutF,if_pos (by omega)];rfl⟩
 refine At.skip (aB (s_2 (At.seq fun _ s_5=>At.region (aE (aC rfl) rfl rfl (op_idx1 (aC rfl) se22 rfl rfl (by assumption) (show _=((0:Nat):Int)from rfl) (by omega) rfl ?_)))))
 refine bK (aC rfl) sc5 rfl (by assumption) (by first|exact get8 (by omega)|exact get64 (by omega)|exact get32 (by omega)) (by first|exact aP|exact bM|exact mem2|exact mem3|exact mem4|exact mem5|exact mem6|exact mem7|exact mem8|exact mem9) rfl ?_
 refine op_convI (aC rfl) (und_some Tryz.underlying5) Tryz.underlying3 rfl (by omega) (by omega) rfl (aD (aC rfl) rfl rfl (aA (aB (s_5 (At.seq fun _ s_6=>At.seq fun _ s_7=>At.region (aE (aC rfl) rfl rfl (op_lss (aC rfl) rfl rfl rfl (aA (aB (s_7 (aO rfl (fun c17=>?_) (fun c17=>?_))))))))))))
 ·refine At.seq fun _ s_8=>At.drawn [] [0,1,2,3,4,5,6] (by kernel_rfl) (by kernel_rfl) (aE (aR rfl rfl rfl (by kernel_rfl)) rfl rfl (op_slice0 (aR rfl rfl rfl (by kernel_rfl)) se22 rfl (.some rfl (show _=((1:Nat):Int)from rfl)) .none (by omega) (by omega) (by simp) rfl (op_mkI (aR rfl rfl rfl (by kernel_rfl)) (by kernel_rfl) rfl rfl (aE (aR rfl rfl rfl (by kernel_rfl)) rfl rfl (op_slice (aR rfl rfl rfl (by kernel_rfl)) se22 rfl (.some rfl (show _=((1:Nat):Int)from rfl)) .none .none (by omega) (by omega) (by omega) (by simp) rfl (aD (aR rfl rfl rfl (by kernel_rfl)) rfl rfl (aD (aR rfl rfl rfl (by kernel_rfl)) rfl rfl (At.oneNil (aB (s_8 (At.ret (aJ ((aU (L1:= []) rfl (.tmp rfl (.tmp rfl .nil)) rfl (.refl _) (.refl _) (⟨rfl,fun M hM=>?_⟩)))))))))))))))
  rw [cutF,if_neg (by omega),if_pos (by omega)]
  exact cutv_mk rfl (hM.take8 (by omega) (by omega) (by omega)) (hM.drop8 (by omega))
 refine At.skip (aB (s_6 (At.seq fun _ s_9=>At.region (aE (aC rfl) rfl rfl (op_subI (aC rfl) rfl rfl (by omega) (by omega) rfl (op_rem (aC rfl) rfl rfl (by omega) (by omega) rfl (aD (aC rfl) rfl rfl (aD (aC rfl) rfl rfl (aA (aB (s_9 (At.seq fun _ s_10=>At.meet (fun fr_ hp_=> ∃(i m:Nat),fr_= [(0,.slice ao n cap),(4,.int .i64 ((b.getD 0 0).toNat:Int)),(5,.int .i64 (m:Int)),(6,.int .i64 (i:Int))]∧hp_= [R]∧(i≤n)∧(1≤i)∧(m≤1099511627776)∧(cutF b=cutAt b i m)) ?_ (fun K10_ jk_10=>?_)))))))))))))
 rotate_left
 ·skip
  refine At.seq fun _ s_11=>At.region (aE (aC rfl) rfl rfl (op_gtr (aC rfl) rfl rfl rfl (aA (aB (s_11 (aO rfl (fun c27=>?_) (fun c27=>?_)))))))
  ·refine At.seq fun _ s_12=>At.region (aE (aC rfl) rfl rfl (aE (aC rfl) rfl rfl (op_subI (aC rfl) rfl rfl (by omega) (by omega) rfl (bI (aC rfl) rfl rfl (by omega) (by omega) rfl (aD (aC rfl) rfl rfl (aA (aB (s_12 (At.seq fun _ s_13=>At.seq fun _ s_14=>At.region (aE (aC rfl) rfl rfl (a7 (aC rfl) se22 rfl rfl (aE (aC rfl) rfl rfl (op_lss (aC rfl) rfl rfl rfl (aE (aC rfl) rfl rfl (At.partP (d:=36) rfl (fun g36=>?_) (fun g36=>?_))))))))))))))))
   ·refine aN rfl rfl rfl rfl rfl rfl rfl (aN rfl rfl rfl rfl rfl rfl rfl (aN rfl rfl rfl rfl rfl rfl rfl (aN rfl rfl rfl rfl rfl rfl rfl (bN (aC rfl) rfl rfl rfl (aA (aB (s_14 (At.condT rfl (At.seq fun _ s_15=>At.region (aD (aC rfl) rfl rfl (aD (aC rfl) rfl rfl (aA (aB (s_15 (At.ret (aJ (aJ ((aU (L1:= []) rfl (.tmp rfl (.tmp rfl .nil)) rfl (.refl _) (.refl _) ?_)))))))))))))))))))
    exact⟨rfl,fun M hM=>by rw [cutF,if_neg (by omega),if_neg (by omega),if_neg (by omega),if_pos (.inl (by omega))];rfl⟩
   refine aE (bF rfl rfl rfl rfl) rfl rfl (op_idx1 (bF rfl rfl rfl rfl) se22 rfl rfl (by assumption) (show _=((1:Nat):Int)from rfl) (by omega) rfl ?_)
   refine bK (bF rfl rfl rfl rfl) sc5 rfl (by assumption) (by first|exact get8 (by omega)|exact get64 (by omega)|exact get32 (by omega)) (by first|exact aP|exact bM|exact mem2|exact mem3|exact mem4|exact mem5|exact mem6|exact mem7|exact mem8|exact mem9) rfl ?_
   refine op_eql (bF rfl rfl rfl rfl) rfl rfl rfl (op_pickF (aC rfl) rfl rfl rfl (aA (aB (s_14 (aO rfl (fun c41=>?_) (fun c41=>?_))))))
   ·refine At.seq fun _ s_16=>At.region (aD (aC rfl) rfl rfl (aD (aC rfl) rfl rfl (aA (aB (s_16 (At.ret (aJ (aJ ((aU (L1:= []) rfl (.tmp rfl (.tmp rfl .nil)) rfl (.refl _) (.refl _) ?_))))))))))
    exact⟨rfl,fun M hM=>by rw [cutF,if_neg (by omega),if_neg (by omega),if_neg (by omega),if_pos (.inr (by omega))];rfl⟩
   refine At.skip (aB (s_13 (At.seq fun _ s_17=>At.region (aE (aC rfl) rfl rfl (aE (aC rfl) rfl rfl (op_slice (aC rfl) se22 rfl (.some rfl (show _=((1:Nat):Int)from rfl)) (.some rfl (show _=(((hdr b- 54:Nat)):Int)from by omega)) .none (by omega) (by omega) (by omega) (by simp) rfl ?_))))))
   refine aG (aT rfl) (.cons rfl .nil) (From_f (h.part8 (lo:=1) (hi:=hdr b- 54) (m:=cap) (by omega) (by omega) (by omega) (by omega)) (by omega)) Tryz.func168 rfl rfl (by simp) rfl ?_
   rintro v45 L45 ⟨M45,a45,rfl,rfl,s45⟩
   change At _ _ _ [M45,R] _
   have hl:=lng_pos (b:=b) (by omega) (by omega) (by omega)
   change RSl M45 1 a45 (limbsOf (lng b)).length (limbsOf (lng b)).length (u64s (limbsOf (lng b)))at s45
   change At _ ((45,.slice a45 (limbsOf (lng b)).length (limbsOf (lng b)).length)::_) _ [M45,R] _
   have hx:([UInt64.ofNat (lng b)].getD 0 0).toNat=lng b:=by rw [show [UInt64.ofNat (lng b)].getD 0 0=UInt64.ofNat (lng b)from rfl,UInt64.toNat_ofNat'];exact Nat.mod_eq_of_lt hl.2
   rw [limbs_one hl.1 hl.2]at s45⊢
   have hl1: [UInt64.ofNat (lng b)].length=1:=rfl
   refine aD (aC rfl) rfl rfl (aA (aB (s_17 (At.seq fun _ s_18=>At.seq fun _ s_19=>At.region (aE (aC rfl) rfl rfl (a7 (aC rfl) se200 rfl rfl (op_gtr (aC rfl) rfl rfl rfl (aE (aC rfl) rfl rfl (At.partP (d:=49) rfl (fun g49=>?_) (fun g49=>?_))))))))))
   ·exfalso;omega
   refine aE (bF rfl rfl rfl rfl) rfl rfl (op_idx1 (bF rfl rfl rfl rfl) se200 rfl rfl (by assumption) (show _=((0:Nat):Int)from rfl) (by omega) rfl ?_)
   refine bK (bF rfl rfl rfl rfl) sc24 rfl (by assumption) (by first|exact get8 (by omega)|exact get64 (by omega)|exact get32 (by omega)) (by first|exact aP|exact bM|exact mem2|exact mem3|exact mem4|exact mem5|exact mem6|exact mem7|exact mem8|exact mem9) rfl ?_
   refine op_leq (bF rfl rfl rfl rfl) rfl rfl rfl (op_pickF (aC rfl) rfl rfl rfl (aE (aC rfl) rfl rfl (At.partP (d:=55) rfl (fun g55=>?_) (fun g55=>?_))))
   ·refine aN rfl rfl rfl rfl rfl rfl rfl (aN rfl rfl rfl rfl rfl rfl rfl (aN rfl rfl rfl rfl rfl rfl rfl (aN rfl rfl rfl rfl rfl rfl rfl (aN rfl rfl rfl rfl rfl rfl rfl (aN rfl rfl rfl rfl rfl rfl rfl (aN rfl rfl rfl rfl rfl rfl rfl (bN (aC rfl) rfl rfl rfl (aA (aB (s_19 (At.condT rfl (At.seq fun _ s_20=>At.region (aD (aC rfl) rfl rfl (aD (aC rfl) rfl rfl (aA (aB (s_20 (At.ret (aJ (aJ ((At.sub (L':= [R]) (.cons _ (.cons_cons _ (.slnil))) (aU (L1:= []) rfl (.tmp rfl (.tmp rfl .nil)) rfl (.refl _) (.refl _) ?_)))))))))))))))))))))))
    exact⟨rfl,fun M hM=>by rw [cutF,if_neg (by omega),if_neg (by omega),if_neg (by omega),if_neg (by omega),if_pos (.inl (by omega))];rfl⟩
   refine aE (bF rfl rfl rfl rfl) rfl rfl (op_idx1 (bF rfl rfl rfl rfl) se200 rfl rfl (by assumption) (show _=((0:Nat):Int)from rfl) (by omega) rfl ?_)
   refine bK (bF rfl rfl rfl rfl) sc24 rfl (by assumption) (by first|exact get8 (by omega)|exact get64 (by omega)|exact get32 (by omega)) (by first|exact aP|exact bM|exact mem2|exact mem3|exact mem4|exact mem5|exact mem6|exact mem7|exact mem8|exact mem9) rfl ?_
   refine aE (bF rfl rfl rfl rfl) rfl rfl (a7 (bF rfl rfl rfl rfl) se22 rfl rfl (op_conv64 (bF rfl rfl rfl rfl) (und_some Tryz.underlying3) Tryz.underlying24 rfl (by first|rfl|exact(Int.toNat_of_nonneg (by omega)).symm) rfl ?_))
   refine op_gtr (bF rfl rfl rfl rfl) rfl rfl rfl (op_pickF (aC rfl) rfl rfl rfl (aA (aB (s_19 (aO rfl (fun c63=>?_) (fun c63=>?_))))))
   ·refine At.seq fun _ s_21=>At.region (aD (aC rfl) rfl rfl (aD (aC rfl) rfl rfl (aA (aB (s_21 (At.ret (aJ (aJ ((At.sub (L':= [R]) (.cons _ (.cons_cons _ (.slnil))) (aU (L1:= []) rfl (.tmp rfl (.tmp rfl .nil)) rfl (.refl _) (.refl _) ?_)))))))))))
    exact⟨rfl,fun M hM=>by rw [cutF,if_neg (by omega),if_neg (by omega),if_neg (by omega),if_neg (by omega),if_pos (.inr (by omega))];rfl⟩
   refine At.skip (aB (s_18 (At.region (aE (aC rfl) rfl rfl (op_idx1 (aC rfl) se200 rfl rfl (by assumption) (show _=((0:Nat):Int)from rfl) (by omega) rfl ?_)))))
   refine bK (aC rfl) sc24 rfl (by assumption) (by first|exact get8 (by omega)|exact get64 (by omega)|exact get32 (by omega)) (by first|exact aP|exact bM|exact mem2|exact mem3|exact mem4|exact mem5|exact mem6|exact mem7|exact mem8|exact mem9) rfl ?_
   refine op_convI (aC rfl) (und_some Tryz.underlying24) Tryz.underlying3 rfl (by omega) (by omega) rfl (aD (aC rfl) rfl rfl (aA (At.sub (L':= [R]) (.cons _ (.cons_cons _ (.slnil))) (aB (jk_10 ?_ (.refl _) ⟨hdr b- 54,lng b,rfl,rfl,by omega,by omega,by omega,by rw [cutF,if_neg (by omega),if_neg (by omega),if_neg (by omega),if_neg (by omega),if_neg (by omega)]⟩)))))
   exact .cons (by first|exact a6 rfl (by omega)|rfl) (.cons (by first|exact a6 rfl (by omega)|rfl) (.cons (by first|exact a6 rfl (by omega)|rfl) (.cons (by first|exact a6 rfl (by omega)|rfl) .nil)))
  refine At.skip (aB (jk_10 ?_ (.refl _) ⟨1,hdr b,rfl,rfl,by omega,by omega,by omega,by rw [cutF,if_neg (by omega),if_neg (by omega),if_pos (by omega)]⟩))
  exact .cons (by first|exact a6 rfl (by omega)|rfl) (.cons (by first|exact a6 rfl (by omega)|rfl) (.cons (by first|exact a6 rfl (by omega)|rfl) (.cons (by first|exact a6 rfl (by omega)|rfl) .nil)))
 rintro _ _ ⟨i,m,rfl,rfl,hi,hi0,hm,hc⟩
 refine s_10 (At.seq fun _ s_22=>At.seq fun _ s_23=>At.region (aE (aC rfl) rfl rfl (aE (aC rfl) rfl rfl (a7 (aC rfl) se22 rfl rfl (aE (aC rfl) rfl rfl (op_subI (aC rfl) rfl rfl (by omega) (by omega) rfl (op_gtr (aC rfl) rfl rfl rfl (aA (aB (s_23 (aO rfl (fun c73=>?_) (fun c73=>?_))))))))))))
 ·refine At.seq fun _ s_24=>At.region (aD (aC rfl) rfl rfl (aD (aC rfl) rfl rfl (aA (aB (s_24 (At.ret (aJ ((aU (L1:= []) rfl (.tmp rfl (.tmp rfl .nil)) rfl (.refl _) (.refl _) ?_)))))))))
  exact⟨rfl,fun M hM=>by rw [hc,cutAt,if_pos (by omega)];rfl⟩
 refine At.skip (aB (s_22 (At.seq fun _ s_25=>At.region (aE (aC rfl) rfl rfl (aE (aC rfl) rfl rfl (aE (aC rfl) rfl rfl (aE (aC rfl) rfl rfl (bI (aC rfl) rfl rfl (by omega) (by omega) rfl (op_slice (aC rfl) se22 rfl (.some rfl (show _=(((i:Nat)):Int)from by omega)) (.some rfl (show _=(((i+m:Nat)):Int)from by omega)) .none (by omega) (by omega) (by omega) (by simp) rfl ?_)))))))))
 have s79:=h.part8 (lo:=i) (hi:=i+m) (m:=cap) (by omega) (by omega) (by omega) (by omega)
 have l79:=s79.len8
 refine aD (aC rfl) rfl rfl (aA (aB (s_25 (At.seq fun _ s_26=>At.block (At.seq fun _ s_27=>At.region (aE (aC rfl) rfl rfl (op_geq (aC rfl) rfl rfl rfl (aD (aC rfl) rfl rfl (aA (aB (s_27 (aO rfl (fun c80=>?_) (fun c80=>?_)))))))))))))
 ·refine At.seq fun _ s_28=>At.drawn [] [0,1,2,3,4,5,6,7,8] (by kernel_rfl) (by kernel_rfl) (aE (aR rfl rfl rfl (by kernel_rfl)) rfl rfl (op_mkI (aR rfl rfl rfl (by kernel_rfl)) (by kernel_rfl) rfl rfl (aE (aR rfl rfl rfl (by kernel_rfl)) rfl rfl (aE (aR rfl rfl rfl (by kernel_rfl)) rfl rfl (aE (aR rfl rfl rfl (by kernel_rfl)) rfl rfl (bI (aR rfl rfl rfl (by kernel_rfl)) rfl rfl (by omega) (by omega) rfl (op_slice (aR rfl rfl rfl (by kernel_rfl)) se22 rfl (.some rfl (show _=(((i+m:Nat)):Int)from by omega)) .none .none (by omega) (by omega) (by omega) (by simp) rfl ?_)))))))
  refine aD (aR rfl rfl rfl (by kernel_rfl)) rfl rfl (aD (aR rfl rfl rfl (by kernel_rfl)) rfl rfl (At.oneNil (aB (s_28 (At.ret (bP (aJ ((aU (L1:= []) rfl (.tmp rfl (.tmp rfl .nil)) rfl (.refl _) (.refl _) (⟨rfl,fun M hM=>?_⟩))))))))))
  rw [hc,cutAt,if_neg (by omega),if_pos (by omega)]
  have e:=hM.part8 (lo:=i) (hi:=i+m) (m:=cap) (by omega) (by omega) (by omega) (by omega)
  rw [show i+m- i=m by omega]at e⊢
  exact cutv_mk rfl e (hM.drop8 (by omega))
 refine At.seq fun _ s_29=>At.region (aE (aC rfl) rfl rfl (op_eql (aC rfl) rfl rfl rfl (aE (aC rfl) rfl rfl (At.partP (d:=93) rfl (fun g93=>?_) (fun g93=>?_)))))
 ·refine aE (bF rfl rfl rfl rfl) rfl rfl (op_idx1 (bF rfl rfl rfl rfl) se22 rfl rfl (by assumption) (show _=((0:Nat):Int)from rfl) (by omega) rfl ?_)
  refine bK (bF rfl rfl rfl rfl) sc5 rfl (by assumption) (by first|exact get8 (by omega)|exact get64 (by omega)|exact get32 (by omega)) (by first|exact aP|exact bM|exact mem2|exact mem3|exact mem4|exact mem5|exact mem6|exact mem7|exact mem8|exact mem9) rfl ?_
  refine op_lss (bF rfl rfl rfl rfl) rfl rfl rfl (bN (aC rfl) rfl rfl rfl (aD (aC rfl) rfl rfl (aA (aB (s_29 (aO rfl (fun c90=>?_) (fun c90=>?_)))))))
  ·refine At.seq fun _ s_30=>At.region (aD (aC rfl) rfl rfl (aD (aC rfl) rfl rfl (aA (aB (s_30 (At.ret (bP (aJ ((aU (L1:= []) rfl (.tmp rfl (.tmp rfl .nil)) rfl (.refl _) (.refl _) ?_))))))))))
   exact⟨rfl,fun M hM=>by rw [hc,cutAt,if_neg (by omega),if_neg (by omega),if_pos ⟨by omega,by rw [getD_part (by omega)]at c90;omega⟩];rfl⟩
  refine At.skip (bC (aB (s_26 (At.seq fun _ s_31=>At.drawn [] [0,1,2,3,4,5,6,7,8] (by kernel_rfl) (by kernel_rfl) (aE (aR rfl rfl rfl (by kernel_rfl)) rfl rfl (op_mkI (aR rfl rfl rfl (by kernel_rfl)) (by kernel_rfl) rfl rfl (aE (aR rfl rfl rfl (by kernel_rfl)) rfl rfl (aE (aR rfl rfl rfl (by kernel_rfl)) rfl rfl (aE (aR rfl rfl rfl (by kernel_rfl)) rfl rfl (bI (aR rfl rfl rfl (by kernel_rfl)) rfl rfl (by omega) (by omega) rfl (op_slice (aR rfl rfl rfl (by kernel_rfl)) se22 rfl (.some rfl (show _=(((i+m:Nat)):Int)from by omega)) .none .none (by omega) (by omega) (by omega) (by simp) rfl ?_)))))))))))
  refine aD (aR rfl rfl rfl (by kernel_rfl)) rfl rfl (aD (aR rfl rfl rfl (by kernel_rfl)) rfl rfl (At.oneNil (aB (s_31 (At.ret ((aU (L1:= []) rfl (.tmp rfl (.tmp rfl .nil)) rfl (.refl _) (.refl _) (⟨rfl,fun M hM=>?_⟩))))))))
  rw [getD_part (by omega)]at c90
  rw [hc,cutAt,if_neg (by omega),if_neg (by omega),if_neg (by omega)]
  have e:=hM.part8 (lo:=i) (hi:=i+m) (m:=cap) (by omega) (by omega) (by omega) (by omega)
  rw [show i+m- i=m by omega]at e⊢
  exact cutv_mk rfl e (hM.drop8 (by omega))
 refine aN rfl rfl rfl rfl rfl rfl rfl (aN rfl rfl rfl rfl rfl rfl rfl (aN rfl rfl rfl rfl rfl rfl rfl (aN rfl rfl rfl rfl rfl rfl rfl (op_pickF (aC rfl) rfl rfl rfl (aD (aC rfl) rfl rfl (aA (aB (s_29 (At.condF rfl (At.skip (bC (aB (s_26 (At.seq fun _ s_32=>At.drawn [] [0,1,2,3,4,5,6,7,8] (by kernel_rfl) (by kernel_rfl) (aE (aR rfl rfl rfl (by kernel_rfl)) rfl rfl (op_mkI (aR rfl rfl rfl (by kernel_rfl)) (by kernel_rfl) rfl rfl (aE (aR rfl rfl rfl (by kernel_rfl)) rfl rfl (aE (aR rfl rfl rfl (by kernel_rfl)) rfl rfl (aE (aR rfl rfl rfl (by kernel_rfl)) rfl rfl (bI (aR rfl rfl rfl (by kernel_rfl)) rfl rfl (by omega) (by omega) rfl (op_slice (aR rfl rfl rfl (by kernel_rfl)) se22 rfl (.some rfl (show _=(((i+m:Nat)):Int)from by omega)) .none .none (by omega) (by omega) (by omega) (by simp) rfl ?_)))))))))))))))))))))
 refine aD (aR rfl rfl rfl (by kernel_rfl)) rfl rfl (aD (aR rfl rfl rfl (by kernel_rfl)) rfl rfl (At.oneNil (aB (s_32 (At.ret ((aU (L1:= []) rfl (.tmp rfl (.tmp rfl .nil)) rfl (.refl _) (.refl _) (⟨rfl,fun M hM=>?_⟩))))))))
 rw [hc,cutAt,if_neg (by omega),if_neg (by omega),if_neg (by omega)]
 have e:=hM.part8 (lo:=i) (hi:=i+m) (m:=cap) (by omega) (by omega) (by omega) (by omega)
 rw [show i+m- i=m by omega]at e⊢
 exact cutv_mk rfl e (hM.drop8 (by omega))
end Go.Proofs.YtjfagifjajielaaGreat
/- Items: trees of byte strings, their forms, and how they lie in memory. No condition. -/
namespace Go.Proofs.YtjfagifjajielaaGreat
open Go Go.RowKit
/-- An item: whether it is a list, its bytes, its items. -/
inductive It where
 |mk (list:Bool) (bytes:List UInt8) (items:List It)
mutual
def It.form:It→List UInt8
 |.mk false bs _=>match bs with
  | [x]=>if x<128 then [x]else rlpHead 128 1++ [x]
  |bs=>rlpHead 128 bs.length++bs
 |.mk true _ its=>rlpHead 192 (It.forms its).length++It.forms its
def It.forms:List It→List UInt8
 | []=> []
 |t::ts=>It.form t++It.forms ts
end
mutual
def It.depth:It→Nat
 |.mk false _ _=>0
 |.mk true _ its=>It.depths its+1
def It.depths:List It→Nat
 | []=>0
 |t::ts=>max (It.depth t) (It.depths ts)
end
mutual
theorem It.ind_it {P:It→Prop} (h: ∀l bs its,(∀t∈its,P t)→P (.mk l bs its)): ∀t,P t
 |.mk l bs its=>h l bs its (It.ind_its h its)
theorem It.ind_its {P:It→Prop} (h: ∀l bs its,(∀t∈its,P t)→P (.mk l bs its)): ∀its:List It, ∀t∈its,P t
 | [],_,ht=>by cases ht
 |x::xs,t,ht=>by
  rcases List.mem_cons.1 ht with e|ht
  ·rw [e];exact It.ind_it h x
  ·exact It.ind_its h xs t ht
end
theorem forms_append (a b:List It):It.forms (a++b)=It.forms a++It.forms b:=by
 induction a with
 |nil=>rfl
 |cons t ts ih=>simp only [List.cons_append,It.forms,ih,List.append_assoc]
theorem forms_take_succ {its:List It} {k:Nat} {t:It} (h:its[k]? =some t):It.forms (its.take (k+1))=It.forms (its.take k)++t.form:=by
 obtain⟨hlt,rfl⟩:=List.getElem?_eq_some_iff.1 h
 rw [List.take_succ_eq_append_getElem hlt,forms_append]
 simp [It.forms]
theorem forms_take_le (its:List It) (k:Nat):(It.forms (its.take k)).length≤(It.forms its).length:=by
 conv=>rhs;rw [←List.take_append_drop k its]
 rw [forms_append,List.length_append]
 omega
theorem form_le {its:List It} {t:It} (h:t∈its):t.form.length≤(It.forms its).length:=by
 obtain⟨a,b,rfl⟩:=List.append_of_mem h
 rw [forms_append,It.forms]
 simp
 omega
theorem depths_le {its:List It} {d:Nat} :It.depths its≤d↔ ∀t∈its,t.depth≤d:=by
 induction its with
 |nil=>simp [It.depths]
 |cons t ts ih=>simp [It.depths,Nat.max_le,ih]
/-- One byte below 128. -/
def small:List UInt8→Bool
 | [x]=>decide (x<128)
 |_=>false
theorem form_false (bs:List UInt8) (its:List It):(It.mk false bs its).form=if small bs then bs else rlpHead 128 bs.length++bs:=by
 cases bs with
 |nil=>simp [It.form,small]
 |cons x xs=>
  cases xs with
  |nil=>simp [It.form,small]
  |cons y ys=>simp [It.form,small]
theorem form_true (bs:List UInt8) (its:List It):(It.mk true bs its).form=rlpHead 192 (It.forms its).length++It.forms its:=by simp [It.form]
theorem small_iffI {bs:List UInt8} :small bs=true↔bs.length=1∧(bs.getD 0 0).toNat<128:=by
 cases bs with
 |nil=>simp [small]
 |cons x xs=>
  cases xs with
  |nil=>simp [small,UInt8.lt_iff_toNat_lt]
  |cons y ys=>simp [small]
theorem one_eq {bs:List UInt8} (h:bs.length=1):bs= [bs.getD 0 0]:=by
 cases bs with
 |nil=>simp at h
 |cons x xs=>cases xs with
  |nil=>rfl
  |cons y ys=>simp at h
/-- An item's three values. -/
structure IV where
 l:Bool
 ab:Option Addr
 nb:Nat
 cb:Nat
 ai:Option Addr
 ni:Nat
 ci:Nat
def IV.cells (x:IV):List Value:= [.bool x.l,.slice x.ab x.nb x.cb,.slice x.ai x.ni x.ci]
def cellsI (xs:List IV):List Value:=xs.flatMap IV.cells
theorem length_cellsI (xs:List IV):(cellsI xs).length=xs.length*3:=by
 induction xs with
 |nil=>rfl
 |cons x t ih=>simp only [cellsI,List.flatMap_cons,List.length_append,List.length_cons]at ih⊢;rw [ih];simp [IV.cells];omega
theorem cells_at {xs:List IV} {k:Nat} {x:IV} (h:xs[k]? =some x):((cellsI xs).drop (k*3)).take 3= [.bool x.l,.slice x.ab x.nb x.cb,.slice x.ai x.ni x.ci]:=by
 induction xs generalizing k with
 |nil=>simp at h
 |cons y t ih=>
  cases k with
  |zero=>simp at h;subst h;simp [cellsI,IV.cells]
  |succ k=>
   have:=ih (k:=k) (by simpa using h)
   rw [←this]
   have e:cellsI (y::t)=y.cells++cellsI t:=by simp [cellsI]
   have hl:y.cells.length=3:=rfl
   rw [e,show(k+1)*3=y.cells.length+k*3 from by rw [hl];omega,List.drop_append,List.drop_eq_nil_of_le (by omega),List.nil_append,Nat.add_sub_cancel_left]
mutual
/-- The item's values read so in N. -/
def ItN (N:Heaplet):It→IV→Prop
 |.mk l bs its,x=>x.l=l∧RSl N 1 x.ab x.nb x.cb (u8s bs)∧ ∃xs,RSl N 3 x.ai x.ni x.ci (cellsI xs)∧ItsN N its xs
def ItsN (N:Heaplet):List It→List IV→Prop
 | [],xs=>xs= []
 |t::ts,xs=> ∃x r,xs=x::r∧ItN N t x∧ItsN N ts r
end
mutual
theorem ItN.le {N M:Heaplet} (hl:N.le M): ∀ {t:It} {x:IV},ItN N t x→ItN M t x
 |.mk l bs its,x,h=>by
  simp only [ItN]at h⊢
  obtain⟨h1,h2,xs,h3,h4⟩:=h
  exact⟨h1,h2.le hl,xs,h3.le hl,ItsN.le hl h4⟩
theorem ItsN.le {N M:Heaplet} (hl:N.le M): ∀ {ts:List It} {xs:List IV},ItsN N ts xs→ItsN M ts xs
 | [],xs,h=>h
 |t::ts,xs,h=>by
  simp only [ItsN]at h⊢
  obtain⟨x,r,e,h1,h2⟩:=h
  exact⟨x,r,e,ItN.le hl h1,ItsN.le hl h2⟩
end
theorem ItsN.length {N:Heaplet} : ∀ {ts:List It} {xs:List IV},ItsN N ts xs→xs.length=ts.length
 | [],xs,h=>by simp only [ItsN]at h;subst h;rfl
 |t::ts,xs,h=>by
  simp only [ItsN]at h
  obtain⟨x,r,rfl,_,h2⟩:=h
  simp [h2.length]
theorem ItsN.get {N:Heaplet} : ∀ {ts:List It} {xs:List IV} {k:Nat} {t:It},ItsN N ts xs→ts[k]? =some t→ ∃x,xs[k]? =some x∧ItN N t x
 | [],xs,k,t,_,h=>by simp at h
 |t'::ts,xs,0,t,h,hk=>by
  simp only [ItsN]at h
  obtain⟨x,r,rfl,h1,_⟩:=h
  simp at hk;subst hk
  exact⟨x,rfl,h1⟩
 |t'::ts,xs,k+1,t,h,hk=>by
  simp only [ItsN]at h
  obtain⟨x,r,rfl,_,h2⟩:=h
  obtain⟨y,hy,hi⟩:=h2.get (k:=k) (by simpa using hk)
  exact⟨y,by simpa using hy,hi⟩
theorem ItsN.snoc {N:Heaplet} : ∀ {ts:List It} {xs:List IV} {t:It} {x:IV},ItsN N ts xs→ItN N t x→ItsN N (ts++ [t]) (xs++ [x])
 | [],xs,t,x,h,hi=>by simp only [ItsN]at h;subst h;exact⟨x,[],rfl,hi,rfl⟩
 |t'::ts,xs,t,x,h,hi=>by
  simp only [ItsN]at h
  obtain⟨y,r,rfl,h1,h2⟩:=h
  exact⟨y,r++ [x],rfl,h1,h2.snoc hi⟩
theorem ItN.mk {N:Heaplet} {l:Bool} {bs:List UInt8} {its:List It} {ab ai:Option Addr} {nb cb ni ci:Nat} {xs:List IV} (h1:RSl N 1 ab nb cb (u8s bs)) (h2:RSl N 3 ai ni ci (cellsI xs)) (h3:ItsN N its xs):ItN N (.mk l bs its) ⟨l,ab,nb,cb,ai,ni,ci⟩:=⟨rfl,h1,xs,h2,h3⟩
end Go.Proofs.YtjfagifjajielaaGreat
/- Plain law: the item that bytes tell. No condition. -/
namespace Go.Proofs.YtjfagifjajielaaGreat
def exMap {α:Type} (f:List α→List α):Except Nat (List α)→Except Nat (List α)
 |.ok l=>.ok (f l)
 |.error e=>.error e
/-- Items one behind the other. -/
def itemsF (dec:List UInt8→Except Nat (It×List UInt8)):Nat→List UInt8→Except Nat (List It)
 |_,[]=>.ok []
 |0,_::_=>.error 2
 |f+1,c::b=>match dec (c::b)with
  |.error e=>.error e
  |.ok (t,q)=>exMap (t:: ·) (itemsF dec f q)
def itF (dec:List UInt8→Except Nat (It×List UInt8)) (b:List UInt8):Except Nat (List It):=itemsF dec b.length b
/-- The first item and what is behind it, or the error's number; k more lists may be nested. -/
def decF:Nat→List UInt8→Except Nat (It×List UInt8)
 |0,b=>match cutF b with
  |none=>.error 2
  |some (false,p,r)=>.ok (.mk false p [],r)
  |some (true,_,_)=>.error 7
 |k+1,b=>match cutF b with
  |none=>.error 2
  |some (false,p,r)=>.ok (.mk false p [],r)
  |some (true,p,r)=>match itF (decF k) p with
   |.error e=>.error e
   |.ok its=>.ok (.mk true [] its,r)
theorem cutAt_len {b:List UInt8} {i n:Nat} (hi:i≤b.length) {l:Bool} {p r:List UInt8} (h:cutAt b i n=some (l,p,r)):i+p.length+r.length=b.length:=by
 unfold cutAt at h
 split at h
 ·cases h
 ·rename_i h1
  split at h
  ·cases h;rw [List.length_take,List.length_drop,List.length_drop];omega
  ·split at h
   ·cases h
   ·cases h;rw [List.length_take,List.length_drop,List.length_drop];omega
theorem cutF_len {b:List UInt8} {l:Bool} {p r:List UInt8} (h:cutF b=some (l,p,r)):p.length≤b.length∧r.length<b.length:=by
 unfold cutF at h
 split at h
 ·cases h
 ·rename_i h0
  split at h
  ·cases h;rw [List.length_take,List.length_drop];omega
  ·split at h
   ·have:=cutAt_len (by omega) h;omega
   ·rename_i h55
    split at h
    ·cases h
    ·rename_i h2
     split at h
     ·cases h
     ·have:=cutAt_len (by omega) h;omega
theorem decF_lt {k:Nat} {b q:List UInt8} {t:It} (h:decF k b=.ok (t,q)):q.length<b.length:=by
 cases k with
 |zero=>
  unfold decF at h
  split at h
  ·cases h
  ·rename_i hc;cases h;exact(cutF_len hc).2
  ·cases h
 |succ k=>
  unfold decF at h
  split at h
  ·cases h
  ·rename_i hc;cases h;exact(cutF_len hc).2
  ·rename_i hc
   split at h
   ·cases h
   ·cases h;exact(cutF_len hc).2
theorem itemsF_fuel {dec:List UInt8→Except Nat (It×List UInt8)} (hd: ∀b t q,dec b=.ok (t,q)→q.length<b.length): ∀(f g:Nat) (b:List UInt8),b.length≤f→b.length≤g→itemsF dec f b=itemsF dec g b:=by
 intro f
 induction f with
 |zero=>
  intro g b hf hg
  cases b with
  |nil=>cases g<;>rfl
  |cons c b=>simp at hf
 |succ f ih=>
  intro g b hf hg
  cases b with
  |nil=>cases g<;>rfl
  |cons c b=>
   cases g with
   |zero=>simp at hg
   |succ g=>
    simp only [itemsF]
    cases hc:dec (c::b)with
    |error e=>rfl
    |ok tq=>
     obtain⟨t,q⟩:=tq
     have:=hd _ _ _ hc
     simp only [List.length_cons]at this hf hg
     simp only
     rw [ih g q (by omega) (by omega)]
theorem itF_nil (dec:List UInt8→Except Nat (It×List UInt8)):itF dec []=.ok []:=rfl
theorem itF_error {dec:List UInt8→Except Nat (It×List UInt8)} {b:List UInt8} {e:Nat} (h0:0<b.length) (h:dec b=.error e):itF dec b=.error e:=by
 cases b with
 |nil=>simp at h0
 |cons c b=>unfold itF;simp only [List.length_cons,itemsF,h]
theorem itF_ok {dec:List UInt8→Except Nat (It×List UInt8)} (hd: ∀b t q,dec b=.ok (t,q)→q.length<b.length) {b q:List UInt8} {t:It} (h0:0<b.length) (h:dec b=.ok (t,q)):itF dec b=exMap (t:: ·) (itF dec q):=by
 cases b with
 |nil=>simp at h0
 |cons c b=>
  have:=hd _ _ _ h
  simp only [List.length_cons]at this
  unfold itF
  simp only [List.length_cons,itemsF,h]
  rw [itemsF_fuel hd b.length q.length q (by omega) (Nat.le_refl _)]
theorem exMap_map {α:Type} (f g:List α→List α) (r:Except Nat (List α)):exMap f (exMap g r)=exMap (fun l=>f (g l)) r:=by cases r<;>rfl
end Go.Proofs.YtjfagifjajielaaGreat
/- rlp.decode, rlp.Decode read the item that bytes tell. No condition but that they are not longer than a machine holds. -/
namespace Go.Proofs.YtjfagifjajielaaGreat
open Go Go.RowKit
set_option maxRecDepth 100000
/-- What decode tells. -/
def DecP (ao:Option Addr) (n cap:Nat) (b:List UInt8) (r:Except Nat (It×List UInt8)) (v:Value) (L:List Heaplet):Prop:=
 (∃t q M, ∃x:IV, ∃aq cq,r=.ok (t,q)∧v=.tuple #[.agg #[.bool x.l,.slice x.ab x.nb x.cb,.slice x.ai x.ni x.ci],.slice aq q.length cq,.int .i64 0]∧L= [M]∧ItN M t x∧ ∀N,RSl N 1 ao n cap (u8s b)→RSl N 1 aq q.length cq (u8s q))∨
 (∃e:Nat,r=.error e∧v=.tuple #[.agg #[.bool false,.slice none 0 0,.slice none 0 0],.slice none 0 0,.int .i64 (e:Int)]∧L= []∧e≠0)
theorem cut_none {N:Heaplet} {ao:Option Addr} {n cap:Nat} {b:List UInt8} (h:RSl N 1 ao n cap (u8s b)) (hn:n≤1099511627776) (hc:cutF b=none):
 Fn Tryz.prog 140 #[.slice ao n cap] [] [N] (fun v L=>v=.tuple #[.nilIface,.slice none 0 0]∧L= []):=
 (cut_f h hn).mono fun v L ⟨h1,h2⟩=>⟨by have:=h2 N h;rw [hc]at this;exact this,h1⟩
theorem cut_some {N:Heaplet} {ao:Option Addr} {n cap:Nat} {b p q:List UInt8} {l:Bool} (h:RSl N 1 ao n cap (u8s b)) (hn:n≤1099511627776) (hc:cutF b=some (l,p,q)):
 Fn Tryz.prog 140 #[.slice ao n cap] [] [N] (fun v L=> ∃a1 c1 a2 c2,v=.tuple #[.iface (if l then 213 else 211) (.slice a1 p.length c1),.slice a2 q.length c2]∧L= []∧RSl N 1 a1 p.length c1 (u8s p)∧ ∀M,RSl M 1 ao n cap (u8s b)→RSl M 1 a2 q.length c2 (u8s q)):=
 (cut_f h hn).mono fun v L ⟨h1,h2⟩=>by
  have h3:=h2 N h
  rw [hc]at h3
  obtain⟨a1,c1,a2,c2,rfl,h4,h5⟩:=h3
  refine⟨a1,c1,a2,c2,rfl,h1,h4,fun M hM=>?_⟩
  have h6:=h2 M hM
  rw [hc]at h6
  obtain⟨_,_,a2',c2',e,_,h7⟩:=h6
  simp only [Value.tuple.injEq,List.toArray_inj,Array.mk.injEq,List.cons.injEq,Value.iface.injEq,Value.slice.injEq,true_and,and_true]at e
  obtain⟨_,rfl,rfl⟩:=e
  exact h7
end Go.Proofs.YtjfagifjajielaaGreat
