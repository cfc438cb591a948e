/- Several texts in one: see the remarks ahead of each part. No condition but those told there. -/
import Derived.Test.YtjfagifjajielaaGreatX1
import Derived.Test.YtjfagifjajielaaGreatX4
import Derived.Laws.CopyRow
import Derived.Laws.IdiomCopy
import Derived.Laws.Externs
import Derived.Recover
import Derived.Test.YtjfagifjajielaaGreatX2
import Derived.Test.YtjfagifjajielaaGreatX3
import Derived.Lib.Hide
set_option linter.unusedSimpArgs false
set_option linter.unusedVariables false
namespace Go.Proofs.YtjfagifjajielaaGreat
open Go Go.RowKit
theorem bits_comp_u64 (x:UInt64):bits .xor .u64 18446744073709551615 (x.toNat:Int)=((~~~x).toNat:Int):=by
 have h:=bits_xor_u64 18446744073709551615 x
 have e:((18446744073709551615:UInt64).toNat:Int)=18446744073709551615:=rfl
 rw [e]at h
 rw [h]
 congr 2
section
variable {P : Program} {n : Nat} {l : List (Nat × Value)} {E : World} {L L1 Ls : List Heaplet} {o : Oper} {X Y : Act → World → Prop} {N M : Heaplet}
variable {d : Nat} {ty t t' t2 e e2 : TypeId} {pos : String} {aft : Array Edge} {g : Option (Nat × Bool)} {v : Value} {x y z : Operand} {k : IntKind} {p q : Int} {b off : Nat}
theorem op_compU {a:UInt64} (s:NxF P n l E L Ls ⟨some d,.unOp .xor t x,ty,pos,aft,g⟩ X Y) (hx:ev l x=some (.int .u64 (a.toNat:Int))) (hn:Nat.ble (d+1) n=true) (h:At n ((d,.int .u64 ((~~~a).toNat:Int))::l) E L Y):At n l E L X:=
 op_val s (fun a' w hf _=>by
  simp only [execOp,hf.eval hx,Op.unary]
  have e:Op.intBits .xor .u64 (if IntKind.u64.signed=true then-1 else IntKind.u64.max) (a.toNat:Int)=(pure (.int .u64 ((~~~a).toNat:Int)):Sem Value):=by
   rw [intBits_xor, ←bits_comp_u64];rfl
  rw [e];rfl) rfl hn h
theorem op_copyB {cs ys:List Value} {dl dc m cap':Nat} {ao':Option Addr} (s:Nx P n l E L ⟨some d,.call ⟨.builtin .copy, #[x,y], #[t,t2]⟩,ty,pos,aft,g⟩ X Y) (ht:selt P t=some (e,1))
 (hx:ev l x=some (.slice (some ⟨b,off,none⟩) dl dc)) (hy:ev l y=some (.slice ao' m cap')) (hb:Blk N b e2 cs) (hs:RSl M 1 ao' m cap' ys) (hM:M∈L) (h1: ∀u∈ys,u.oneCell'=true) (hfit:off+min m dl≤cs.length) (sel:L.Perm (N::L1)) (hn:Nat.ble (d+1) n=true)
 (h: ∀N',Blk N' b e2 (cs.take off++ys.take (min m dl)++cs.drop (off+min m dl))→At n ((d,.int .i64 ((min m dl:Nat):Int))::l) E (N'::L1) Y):At n l E L X:=by
 obtain⟨hu,i,hi,hsz⟩:=selt_spec ht
 have hlen:ys.length=m:=hs.len
 refine op_upd s (fun v L'=> ∃N',v=.int .i64 ((min m dl:Nat):Int)∧L'=N'::L1∧Blk N' b e2 (cs.take off++ys.take (min m dl)++cs.drop (off+min m dl))) (fun a w hf hw=>?_) rfl hn (fun v L' ⟨N',e1,e2,hb'⟩=>by subst e1 e2;exact h N' hb')
 have hw2:=hw.perm sel
 have hheap:=hw2.sub N (List.mem_cons_self ..) _ _ hb
 have hres: ∀u w',(Builtin.copy_ #[t,t2] ty #[.slice (some ⟨b,off,none⟩) dl dc,.slice ao' m cap']).run P w=.ok u w'→(execOp a.eval ⟨some d,.call ⟨.builtin .copy, #[x,y], #[t,t2]⟩,ty,pos,aft,g⟩).run P w=.ok (.value u) w':=fun u w' hr=>by
  simp only [execOp,resolve,invoke,builtin,Sem.run_bind,Sem.run_pure,Result.andThen_ok,List.map_toArray,List.map_cons,List.map_nil,hf.eval hx,hf.eval hy,hr]
 by_cases h0:min m dl=0
 ·have hr:=run_copy_none (P:=P) w t t2 ty e (some ⟨b,off,none⟩) ao' dl dc m cap' hu (by rw [hi];simp [hsz]) h0
  refine⟨_,w,N::L1,hres _ _ hr,hw2,N,by rw [h0];rfl,rfl,?_⟩
  rw [h0,List.take_zero,List.append_nil,Nat.add_zero,List.take_append_drop];exact hb
 ·obtain⟨b',off',rfl,hr'⟩:=hs.2.2.2 (by omega)
  have hsrc: ∀j v,(ys.take (min m dl))[j]? =some v→w.cell? ((⟨b',off',none⟩:Addr).add j)=some v:=fun j v hj=>by
   rw [List.getElem?_take]at hj
   split at hj
   ·obtain⟨hlt,rfl⟩:=List.getElem?_eq_some_iff.1 hj
    rw [addr_add];exact hw.cell hM (hr' j hlt)
   ·cases hj
  have hlt:(ys.take (min m dl)).length=min m dl:=by rw [List.length_take];omega
  have hr:=run_copy_row (P:=P) w t t2 ty e b off dl dc ⟨b',off',none⟩ m cap' cs.toArray e2 (ys.take (min m dl)) hu (by rw [hi];simp [hsz]) hheap (by rw [hlt]) hsrc (by rw [hlt];simpa using hfit) (fun u hu=>h1 u (List.mem_of_mem_take hu))
  rw [hlt]at hr
  refine⟨_,_,upd N b (.cells (cs.take off++ys.take (min m dl)++cs.drop (off+min m dl)).toArray e2 (0,0))::L1,hres _ _ hr,(hw2.put hb rfl rfl rfl ?_ (fun k hk _=>?_)),_,rfl,rfl,upd_self _ _ _⟩
  ·have:=setRow_heap w b cs.toArray (cs.take off++ys.take (min m dl)++cs.drop (off+min m dl)).toArray e2 (0,0) hheap
   simpa using this
  ·simp only [World.setRow,Array.getElem?_modify,if_neg (Ne.symm hk)]
theorem op_ext {f:FuncId} {xs:List Operand} {args:List Value} {ats:Array TypeId} (s:NxA P n l E L ⟨some d,.call ⟨.value (.func f),xs.toArray,ats⟩,ty,pos,aft,g⟩ X Y)
 (ha:Evs l xs args) (hr: ∀w,(callFunc f args.toArray).run P w=.ok (.value v) w) (hn:Nat.ble (d+1) n=true) (h:At n ((d,v)::l) E L Y):At n l E L X:=fun a w hf hw=>by
 refine s a w hf hw ?_
 unfold Oper.wp
 have hrun:(execOp a.eval ⟨some d,.call ⟨.value (.func f),xs.toArray,ats⟩,ty,pos,aft,g⟩).run P w=.ok (.value v) w:=by
  have he:a.eval (.func f)=.func (.func f) #[] #[]:=rfl
  simp only [execOp,resolve,invoke,Sem.run_bind,Sem.run_pure,Result.andThen_ok,List.map_toArray,ha.map hf,he,Deferred.ofValue,Array.empty_append,Array.append_empty,hr]
 rw [hrun]
 exact⟨fun _ _=>rfl,h _ _ (hf.put (Nat.le_of_ble_eq_true hn)) hw⟩
inductive Cps (l:List (Nat×Value)):List Operand→List Value→Prop
 |nil:Cps l [] []
 |cons {x:Operand} {v:Value} {xs:List Operand} {vs:List Value} (h:ev l x=some v) (k:Cps l xs vs):Cps l (x::xs) (v::vs)
theorem Cps.map {xs:List Operand} {vs:List Value} (h:Cps l xs vs) {ds:List Deferred} {a:Act} (hf:Fr ds n l a):xs.map a.eval=vs:=by
 induction h with
 |nil=>rfl
 |cons hx _ ih=>rw [List.map_cons,hf.eval hx,ih]
theorem op_mkF {fn:Go.Fn} {first caps:List Operand} {fs cs:List Value} (s:NxF P n l E L Ls ⟨some d,.makeFunc fn first.toArray caps.toArray,ty,pos,aft,g⟩ X Y) (h1:Cps l first fs) (h2:Cps l caps cs) (hn:Nat.ble (d+1) n=true) (h:At n ((d,.func fn fs.toArray cs.toArray)::l) E L Y):At n l E L X:=
 op_val s (fun a w hf _=>by
  simp [execOp,Instr.makeFunc,List.map_toArray,h1.map hf,h2.map hf]) rfl hn h
end
open Go
theorem sel13 {A0 A1 A2 A3 A4 A5 A6 A7 A8 A9 A10 A11 A12 A13:Heaplet} {L:List Heaplet} :(A1::A2::A3::A4::A5::A6::A7::A8::A9::A10::A11::A12::A13::A0::L).Perm (A0::A1::A2::A3::A4::A5::A6::A7::A8::A9::A10::A11::A12::A13::L):=(List.Perm.cons _ sel12).trans (.swap _ _ _)
theorem permSel13 {n:Nat} {l:List (Nat×Value)} {E:World} {K:Act→World→Prop} {L:List Heaplet} {A0 A1 A2 A3 A4 A5 A6 A7 A8 A9 A10 A11 A12 A13:Heaplet} (h:At n l E (A0::A1::A2::A3::A4::A5::A6::A7::A8::A9::A10::A11::A12::A13::L) K):At n l E (A1::A2::A3::A4::A5::A6::A7::A8::A9::A10::A11::A12::A13::A0::L) K:=At.perm sel13 h
theorem mem14 {A0 A1 A2 A3 A4 A5 A6 A7 A8 A9 A10 A11 A12 A13 A14:Heaplet} {L:List Heaplet} :A0∈A1::A2::A3::A4::A5::A6::A7::A8::A9::A10::A11::A12::A13::A14::A0::L:=List.Mem.tail _ mem13
def pnk (v:Value):List PanicEntry:= [{ v:=v,recovered:=false }]
def DoneX (E:World) (R:Heaplet) (Post Pan:Value→List Heaplet→Prop) (e:Ending) (w':World):Prop:=
 (∃v L1,e=.returned v∧Post v L1∧Hp E (L1++ [R]) w')∨ ∃v L1,e=.panicked (pnk v)∧Pan v L1∧Hp E (L1++ [R]) w'
def FnE (P:Program) (f:FuncId) (args:Array Value) (L0 Lr:List Heaplet) (Post Pan:Value→List Heaplet→Prop):Prop:=
 ∀(E w:World) (R:Heaplet),Hp E (L0++ [R]) w→(∀N∈Lr,N.le R)→Calls P f args w (DoneX E R Post Pan)
def bodyPostX (P:Program) (fn:Func) (E:World) (R:Heaplet) (Post Pan:Value→List Heaplet→Prop) (e:Exit) (a:Act) (w:World):Prop:=dfOf E= []→bodyPost P fn (DoneX E R Post Pan) e a w
section
variable {P : Program} {f : FuncId} {args : Array Value} {L0 Lr : List Heaplet} {Post Pan : Value → List Heaplet → Prop}
theorem Fn.x (h:Fn P f args L0 Lr Post):FnE P f args L0 Lr Post Pan:=fun E w R hw hr=>(h E w R hw hr).mono fun _ _ h=>.inl h
theorem FnE.fn (h:FnE P f args L0 Lr Post fun _ _=>False):Fn P f args L0 Lr Post:=fun E w R hw hr=>(h E w R hw hr).mono fun _ _ h=>by
 rcases h with h|⟨_,_,_,h,_⟩
 ·exact h
 ·exact h.elim
theorem FnE.mono {Post' Pan':Value→List Heaplet→Prop} (h:FnE P f args L0 Lr Post Pan) (hp: ∀v L,Post v L→Post' v L) (hq: ∀v L,Pan v L→Pan' v L):FnE P f args L0 Lr Post' Pan':=fun E w R hw hr=>
 (h E w R hw hr).mono fun _ _ h=>h.elim (fun⟨v,L1,he,hP,hh⟩=>.inl ⟨v,L1,he,hp _ _ hP,hh⟩) (fun⟨v,L1,he,hP,hh⟩=>.inr ⟨v,L1,he,hq _ _ hP,hh⟩)
theorem FnE.more {Lr':List Heaplet} (h:FnE P f args L0 Lr Post Pan) (hs: ∀N∈Lr,N∈Lr'):FnE P f args L0 Lr' Post Pan:=fun E w R hw hr=>h E w R hw fun N hN=>hr N (hs N hN)
theorem FnE.enter {vs:List Value} {fn:Func} {c:Code} {n:Nat} (hf:P.funcs[f]? =some fn) (hb:fn.body=some c) (hn:fn.ntmps=n) (hs:Nat.ble vs.length n=true)
 (h: ∀(E:World) (R:Heaplet),(∀N∈Lr,N.le R)→At n (slots 0 vs) E (L0++ [R]) (c.wp P (bodyPostX P fn E R Post Pan))):FnE P f vs.toArray L0 Lr Post Pan:=by
 intro E w R hw hr
 refine calls_of_wp hf hb ?_
 subst hn
 refine wp_body_mono ?_ (h (dfNo E) R hr _ _ (Fr.init (by simpa using hs) (fun i v hi=>by have:=(slots_get vs 0 i v hi).2;simpa using this)) (hw.env U U U))
 intro e a w hq
 exact bodyPost_mono (fun e w h=>h.elim (fun⟨v,L1,h1,h2,h3⟩=>.inl ⟨v,L1,h1,h2,h3.env U U rfl⟩) (fun⟨v,L1,h1,h2,h3⟩=>.inr ⟨v,L1,h1,h2,h3.env U U rfl⟩)) (hq (dfOf_no E))
end
section
variable {P : Program} {n : Nat} {l l' : List (Nat × Value)} {E : World} {L L' L1 L2 : List Heaplet} {K K' : Act → World → Prop} {Q : Exit → Act → World → Prop}
variable {fn : Func} {R : Heaplet} {Post Pan : Value → List Heaplet → Prop} {ops : Array Oper} {rest : List Oper} {d : Nat} {ty : TypeId} {pos : String} {aft : Array Edge} {v : Value}
theorem At.retX (h:At n l E L (bodyPostE P fn E R Post .ret)):At n l E L (bodyPostX P fn E R Post Pan .ret):=
 At.mono (fun a w h hE=>bodyPost_mono (fun _ _ h=>.inl h) (h hE)) h
theorem At.norX (h:At n l E L (bodyPostE P fn E R Post .normal)):At n l E L (bodyPostX P fn E R Post Pan .normal):=
 At.mono (fun a w h hE=>bodyPost_mono (fun _ _ h=>.inl h) (h hE)) h
theorem aY {ch:List PanicEntry} (h:At n l E L (Q (.panic ch))):At n l E L (Exit.then K Q (.panic ch)):=h
theorem At.inPan {id:Nat} {ch:List PanicEntry} (h:At n l E L (Q (.panic ch))):At n l E L (Exit.inBlock id Q (.panic ch)):=h
theorem cP (hs:L2.Sublist L) (hL:L2.Perm (L1++ [R])) (hP:Pan v L1):At n l E L (bodyPostX P fn E R Post Pan (.panic (pnk v))):=fun _ _ hf hw hE=>
 ⟨hf.defers.trans hE,.inr ⟨v,L1,rfl,hP,(hw.drop hs).perm hL⟩⟩
theorem op_panic {x:Operand} (hx:ev l x=some v) (hr: ∀w,(Instr.panic v).run P w=.halt (.panic v) w) (h:At n l E L (Q (.panic (pnk v)))):At n l E L (wpList P ops Q (⟨none,.panic x,ty,pos,aft,none⟩::rest)):=fun a w hf hw=>
 wpList_plain rfl fun K _=>by
  unfold Oper.wp
  have e:(execOp a.eval ⟨none,.panic x,ty,pos,aft,none⟩).run P w=.halt (.panic v) w:=by
   simp [execOp,hf.eval hx,hr]
  rw [e]
  exact h a w hf hw
theorem bM {f:FuncId} {fn:Func} {xs:List Operand} {args:List Value} {ats:Array TypeId} {L0 Lr F:List Heaplet}
 (ha:Evs l xs args) (hc:FnE P f args.toArray L0 Lr Post Pan) (hfn:P.funcs[f]? =some fn) (hb:fn.body.isSome=true) (hne:(fn.name== "runtime.NumGoroutine")=false) (hL:L.Perm (L0++F)) (hr: ∀N∈Lr,N∈F) (hn:Nat.ble (d+1) n=true)
 (hp: ∀v L1,Pan v L1→At n l E (L1++F) (Q (.panic (pnk v))))
 (h: ∀v L1,Post v L1→At n ((d,v)::l) E (L1++F) (wpList P ops Q rest)):At n l E L (wpList P ops Q (⟨some d,.call ⟨.value (.func f),xs.toArray,ats⟩,ty,pos,aft,none⟩::rest)):=fun a w hf hw=>by
 refine wpList_plain U fun K hK=>?_
 unfold Oper.wp
 have hw2:=hw.perm hL
 have hrun:(execOp a.eval ⟨some d,.call ⟨.value (.func f),xs.toArray,ats⟩,ty,pos,aft,none⟩).run P w=.ok (.enter f args.toArray) w:=by
  have hne':fn.name≠ "runtime.NumGoroutine" :=by simpa using hne
  have he:a.eval (.func f)=.func (.func f) #[] #[]:=rfl
  simp only [execOp,resolve,invoke,Sem.run_bind,Sem.run_pure,Result.andThen_ok,List.map_toArray,ha.map hf,he,Deferred.ofValue,Array.empty_append,Array.append_empty,run_call hfn hb hne']
 rw [hrun]
 have hsep:=List.pairwise_append.1 hw2.sep
 let R:Heaplet:=fun k=>if ∃N∈L0,N k≠none then none else w.heap[k]?
 have hRw:R.le (whole w):=fun k o hk=>by
  simp only [R]at hk
  split at hk
  ·cases hk
  ·exact hk
 have hFR: ∀N∈F,N.le R:=fun N hN k o hk=>by
  have hno: ¬ ∃M∈L0,M k≠none:=by
   rintro⟨M,hM,hMk⟩
   rcases hsep.2.2 M hM N hN k with h|h
   ·exact hMk h
   ·rw [hk]at h;cases h
  simp only [R,if_neg hno]
  exact hw2.sub N (List.mem_append_right _ hN) k o hk
 have hwR:Hp E (L0++ [R]) w:=by
  refine⟨hw.os,hw.tape,hw.output,fun N hN=>?_,?_⟩
  ·rcases List.mem_append.1 hN with hN|hN
   ·exact hw2.sub N (List.mem_append_left _ hN)
   ·simp at hN;subst hN;exact hRw
  ·rw [List.pairwise_append]
   refine⟨hsep.1,by simp,fun A hA B hB k=>?_⟩
   simp at hB;subst hB
   by_cases hAk:A k=none
   ·exact .inl hAk
   ·exact .inr (if_pos ⟨A,hA,hAk⟩)
 refine Calls.mono (hc E w R hwR fun N hN=>hFR N (hr N hN)) ?_
 rintro e w' (⟨v,L1,rfl,hP,hw'⟩|⟨v,L1,rfl,hP,hw'⟩)
 ·exact hK _ _ (h v L1 hP _ _ (hf.put (Nat.le_of_ble_eq_true hn)) (hw'.refine hFR hsep.2.1))
 ·exact hp v L1 hP _ _ hf (hw'.refine hFR hsep.2.1)
theorem Hp.apartRest {L0 F:List Heaplet} {w:World} (hw:Hp E (L0++F) w): ∃R:Heaplet,Hp E (L0++ [R]) w∧(∀N∈F,N.le R)∧F.Pairwise Apart:=by
 have hsep:=List.pairwise_append.1 hw.sep
 refine⟨fun k=>if ∃N∈L0,N k≠none then none else w.heap[k]?,⟨hw.os,hw.tape,hw.output,fun N hN=>?_,?_⟩,fun N hN k o hk=>?_,hsep.2.1⟩
 ·rcases List.mem_append.1 hN with hN|hN
  ·exact hw.sub N (List.mem_append_left _ hN)
  ·simp at hN;subst hN
   intro k o hk
   simp only at hk
   split at hk
   ·cases hk
   ·exact hk
 ·rw [List.pairwise_append]
  refine⟨hsep.1,by simp,fun A hA B hB k=>?_⟩
  simp at hB;subst hB
  by_cases hAk:A k=none
  ·exact .inl hAk
  ·exact .inr (if_pos ⟨A,hA,hAk⟩)
 ·have hno: ¬ ∃M∈L0,M k≠none:=by
   rintro⟨M,hM,hMk⟩
   rcases hsep.2.2 M hM N hN k with h|h
   ·exact hMk h
   ·rw [hk]at h;cases h
  simp only [if_neg hno]
  exact hw.sub N (List.mem_append_right _ hN) k o hk
theorem op_neNilF {x:Operand} {t t' e:TypeId} {Ls:List Heaplet} {X Y:Act→World→Prop} {g:Option (Nat×Bool)} (s:NxF P n l E L Ls ⟨some d,.binOp .neq t x (.const .nilIface) t',ty,pos,aft,g⟩ X Y) (ht:isIfc P t=true) (hx:ev l x=some (.iface e v)) (hn:Nat.ble (d+1) n=true) (h:At n ((d,.bool true)::l) E L Y):At n l E L X:=
 op_bin s hx rfl (fun w=>by simp [eqGuard]) (fun w=>by simp [binOp,run_equal_iface_nil ht]) hn h
theorem op_neNilT {x:Operand} {t t':TypeId} {Ls:List Heaplet} {X Y:Act→World→Prop} {g:Option (Nat×Bool)} (s:NxF P n l E L Ls ⟨some d,.binOp .neq t x (.const .nilIface) t',ty,pos,aft,g⟩ X Y) (ht:isIfc P t=true) (hx:ev l x=some .nilIface) (hn:Nat.ble (d+1) n=true) (h:At n ((d,.bool false)::l) E L Y):At n l E L X:=
 op_bin s hx rfl (fun w=>by simp [eqGuard]) (fun w=>by simp [binOp,run_equal_nil_nil ht]) hn h
theorem op_defer {f:FuncId} {c:Operand} {caps:List Value} {ats:Array TypeId} (hcv:ev l c=some (.func (.func f) #[] caps.toArray)) (hE:dfOf E= []) (h:At n l (dfOn E (.func f) caps.toArray #[]) L (wpList P ops Q rest)):
 At n l E L (wpList P ops Q (⟨none,.defer ⟨.value c, #[],ats⟩,ty,pos,aft,none⟩::rest)):=fun a w hf hw=>
 wpList_plain rfl fun K hK=>by
  unfold Oper.wp
  have e:(execOp a.eval ⟨none,.defer ⟨.value c, #[],ats⟩,ty,pos,aft,none⟩).run P w=.ok (.defer { target:=.fn (.func f) caps.toArray,args:= #[] }) w:=by
   simp [execOp,resolve,hf.eval hcv,Deferred.ofValue]
  rw [e]
  have hd:=hf.defers
  rw [hE]at hd
  exact hK _ _ (h _ _ ⟨by rw [dfOf_on];simp [Act.put,hd],by simpa [Act.put]using hf.size,fun i v hi=>by simpa [Act.put]using hf.get i v hi⟩ (hw.env U U U))
end
def FnRec (P:Program) (f:FuncId) (args:Array Value) (v:Value) (L0:List Heaplet) (Post:List Heaplet→Prop):Prop:=
 ∀(E w:World) (R:Heaplet),Hp E (L0++ [R]) w→CallsD P f args (.panicking (pnk v)) w fun e u' w'=>u'=.panicking [{ v:=v,recovered:=true }]∧ ∃x L1,e=.returned x∧Post L1∧Hp E (L1++ [R]) w'
def FnRet (P:Program) (f:FuncId) (args:Array Value):Prop:=
 ∀(E w:World) (L:List Heaplet),Hp E L w→CallsD P f args .returning w fun e u' w'=>u'=.returning∧ ∃x,e=.returned x∧Hp E L w'
section
variable {P : Program} {n : Nat} {l : List (Nat × Value)} {E : World} {L L0 F : List Heaplet} {fn : Func} {R : Heaplet} {Post : Value → List Heaplet → Prop} {v : Value}
theorem Fn.enterD {Lr:List Heaplet} {f:FuncId} {vs:List Value} {fn:Func} {c:Code} {n:Nat} (hf:P.funcs[f]? =some fn) (hb:fn.body=some c) (hn:fn.ntmps=n) (hs:Nat.ble vs.length n=true)
 (h: ∀(E:World) (R:Heaplet),(∀N∈Lr,N.le R)→dfOf E= []→At n (slots 0 vs) E (L0++ [R]) (c.wp P (bodyPostD P fn (Done E R Post)))):Fn P f vs.toArray L0 Lr Post:=by
 intro E w R hw hr
 refine calls_of_wp_defers hf hb ?_
 subst hn
 have h1:=h (dfNo E) R hr (dfOf_no E) _ _ (Fr.init (by show vs.length≤_;exact Nat.le_of_ble_eq_true hs) (fun i v hi=>by have:=(slots_get vs 0 i v hi).2;simpa using this)) (hw.env rfl rfl rfl)
 refine wp_body_mono ?_ h1
 intro e a w hq
 have hmono: ∀(ds:List Deferred) (u:FrameMode) (w:World),Leaves P fn a.tmps (Done (dfNo E) R Post) ds u w→Leaves P fn a.tmps (Done E R Post) ds u w:=by
  have hd: ∀e w,Done (dfNo E) R Post e w→Done E R Post e w:=fun e w ⟨v,L1,h1,h2,h3⟩=>⟨v,L1,h1,h2,h3.env rfl rfl rfl⟩
  intro ds
  induction ds with
  |nil=>
   intro u w h
   cases u with
   |run=>exact h
   |returning=>exact⟨h.choose,h.choose_spec.1,hd _ _ h.choose_spec.2⟩
   |panicking ch=>exact hd _ _ h
  |cons d ds ih=>
   intro u w h
   obtain⟨h1,fv,cap,f,args,h2,h3,h4⟩:=h
   refine⟨h1,fv,cap,f,args,h2,h3,h4.mono fun e u' w' hh=>?_⟩
   cases e with
   |returned x=>exact ih _ _ hh
   |panicked ch=>exact ih _ _ hh
   |outgrown=>exact hd _ _ hh
 cases e with
 |normal=>exact hmono _ _ _ hq
 |ret=>exact hmono _ _ _ hq
 |panic ch=>exact hmono _ _ _ hq
 |exit id=>exact hq
 |goto l=>exact hq
 |outgrown=>obtain⟨v,L1,h1,h2,h3⟩:=hq;exact⟨v,L1,h1,h2,h3.env rfl rfl rfl⟩
theorem run_clo {f:FuncId} {fn:Func} (hfn:P.funcs[f]? =some fn) (hb:fn.body.isSome=true) (hne:(fn.name== "runtime.NumGoroutine")=false) (caps:Array Value) (w:World):(invoke (.fn (.func f) caps) #[]).run P w=.ok (.enter f caps) w:=by
 have hne':fn.name≠ "runtime.NumGoroutine" :=by simpa using hne
 simp only [invoke,Array.empty_append,run_call hfn hb hne']
theorem At.retD {f:FuncId} {fc:Func} {caps:List Value} (hE:dfOf E= []) (hc:FnRet P f caps.toArray) (hfn:P.funcs[f]? =some fc) (hb:fc.body.isSome=true) (hne:(fc.name== "runtime.NumGoroutine")=false)
 (h:At n l E L (bodyPostE P fn E R Post .ret)):At n l (dfOn E (.func f) caps.toArray #[]) L (bodyPostD P fn (Done E R Post) .ret):=fun a w hf hw=>by
 have hd:=hf.defers
 rw [dfOf_on]at hd
 show Leaves P fn a.tmps (Done E R Post) a.defers .returning w
 rw [hd]
 refine leaves_cons (by simp) (run_clo hfn hb hne _ w) ((hc E w L (hw.env U U U)).mono ?_)
 rintro e u' w' ⟨rfl,x,rfl,hw'⟩
 have h2:=h { a with defers:= [] } w' ⟨hE.symm,hf.size,hf.get⟩ hw' hE
 exact h2.2
theorem At.panD {f:FuncId} {fc:Func} {caps:List Value} {PostC:List Heaplet→Prop} (hE:dfOf E= []) (hc:FnRec P f caps.toArray v L0 PostC) (hfn:P.funcs[f]? =some fc) (hb:fc.body.isSome=true) (hne:(fc.name== "runtime.NumGoroutine")=false) (hL:L.Perm (L0++F))
 (h: ∀L1,PostC L1→At n l E (L1++F) (bodyPostE P fn E R Post .ret)):At n l (dfOn E (.func f) caps.toArray #[]) L (bodyPostD P fn (Done E R Post) (.panic (pnk v))):=fun a w hf hw=>by
 have hd:=hf.defers
 rw [dfOf_on]at hd
 show Leaves P fn a.tmps (Done E R Post) a.defers (.panicking (pnk v)) w
 rw [hd]
 refine leaves_cons (by simp) (run_clo hfn hb hne _ w) ?_
 have hw1:Hp E (L0++F) w:=(hw.perm hL).env rfl rfl rfl
 obtain⟨R',hR,hle,hsep⟩:=hw1.apartRest
 refine(hc E w R' hR).mono ?_
 rintro e u' w' ⟨rfl,x,L1,rfl,hP,hw'⟩
 have h2:=h L1 hP { a with defers:= [] } w' ⟨hE.symm,hf.size,hf.get⟩ (hw'.refine hle hsep) hE
 exact h2.2
end
section
variable {P : Program} {f : FuncId} {fn : Func} {c : Code} {vs : List Value} {n d d2 id : Nat} {ats : Array TypeId} {ty ty2 : TypeId} {pos pos2 : String} {aft aft2 : Array Edge}
theorem rec_ops {Q:Exit→Act→List Frame→World→Prop} {ops:Array Oper} {a:Act} {cs cs':List Frame} {w:World} {v:Value}
 (hops:ops= #[⟨some d,.call ⟨.builtin .recover, #[],ats⟩,ty,pos,aft,none⟩,⟨some d2,.assign (.tmp d),ty2,pos2,aft2,none⟩])
 (hr:recoverD cs=some (v,cs')∨(recoverD cs=none∧v=.nilIface∧cs'=cs)) (hd:d<a.tmps.size)
 (h:Q .normal ((a.put (some d) v).put (some d2) v) cs' w):wpOpsS P ops Q (List.range ops.size) a cs w:=by
 subst hops
 have e1:(execOp a.eval ⟨some d,.call ⟨.builtin .recover, #[],ats⟩,ty,pos,aft,none⟩).run P w=.ok .recover w:=by
  simp [execOp,resolve,invoke,builtin]
 have e2:((a.put (some d) v).eval (.tmp d))=v:=by
  simp [Act.put,Act.eval,Array.getD_eq_getD_getElem?,hd]
 have w1:Region.wanted (⟨some d,.call ⟨.builtin .recover, #[],ats⟩,ty,pos,aft,none⟩:Oper) (yielded #[⟨some d,.call ⟨.builtin .recover, #[],ats⟩,ty,pos,aft,none⟩,⟨some d2,.assign (.tmp d),ty2,pos2,aft2,none⟩] a.tmps)=true:=by simp [Region.wanted]
 have hlast:wpOpsS P #[⟨some d,.call ⟨.builtin .recover, #[],ats⟩,ty,pos,aft,none⟩,⟨some d2,.assign (.tmp d),ty2,pos2,aft2,none⟩] Q [1] (a.put (some d) v) cs' w:=by
  have w2:Region.wanted (⟨some d2,.assign (.tmp d),ty2,pos2,aft2,none⟩:Oper) (yielded #[⟨some d,.call ⟨.builtin .recover, #[],ats⟩,ty,pos,aft,none⟩,⟨some d2,.assign (.tmp d),ty2,pos2,aft2,none⟩] (a.put (some d) v).tmps)=true:=by simp [Region.wanted]
  simp only [wpOpsS,List.getElem?_toArray,List.getElem?_cons_succ,List.getElem?_cons_zero,w2,if_true]
  simp only [execOp,e2,Sem.run_pure]
  exact h
 show wpOpsS P _ Q [0,1] a cs w
 rw [wpOpsS]
 simp only [List.getElem?_toArray,List.getElem?_cons_zero,w1,if_true,e1]
 rcases hr with hr|⟨hr,rfl,rfl⟩
 ·rw [hr];exact hlast
 ·rw [hr];exact hlast
theorem Fr.two {v:Value} (hn:fn.ntmps=n) (hs:Nat.ble vs.length n=true) (h1:Nat.ble (d+1) n=true) (h2:Nat.ble (d2+1) n=true):
 Fr [] n ((d2,v)::(d,v)::slots 0 vs) (({ tmps:=vs.toArray++Array.replicate (fn.ntmps- vs.toArray.size) undef,defers:= [] } :Act).put (some d) v |>.put (some d2) v):=by
 subst hn
 have h0:Fr [] fn.ntmps (slots 0 vs) { tmps:=vs.toArray++Array.replicate (fn.ntmps- vs.toArray.size) undef,defers:= [] } :=
  Fr.init (by simpa using hs) (fun i v hi=>by have:=(slots_get vs 0 i v hi).2;simpa using this)
 exact(h0.put (Nat.le_of_ble_eq_true h1)).put (Nat.le_of_ble_eq_true h2)
theorem FnRec.enter {v:Value} {L0:List Heaplet} {PostC:List Heaplet→Prop} (hf:P.funcs[f]? =some fn)
 (hb:fn.body=some (Code.seq (Code.region id #[⟨some d,.call ⟨.builtin .recover, #[],ats⟩,ty,pos,aft,none⟩,⟨some d2,.assign (.tmp d),ty2,pos2,aft2,none⟩] false) c)) (hn:fn.ntmps=n) (hs:Nat.ble vs.length n=true) (h1:Nat.ble (d+1) n=true) (h2:Nat.ble (d2+1) n=true)
 (h: ∀(E:World) (R:Heaplet),At n ((d2,v)::(d,v)::slots 0 vs) E (L0++ [R]) (c.wp P (bodyPostE P fn E R fun _ L=>PostC L))):FnRec P f vs.toArray v L0 PostC:=by
 intro E w R hw
 refine callsD_of_wpS hf hb fun c₀ cs hu=>?_
 apply wpS_seq
 apply wpS_region
 have hfr:=Fr.two (d:=d) (d2:=d2) (v:=v) hn hs h1 h2
 refine rec_ops (v:=v) (cs':= { c₀ with mode:=.panicking [{ v:=v,recovered:=true }] } ::cs) U (.inl (by simp [recoverD,hu,pnk])) ?_ ?_
 ·have:=Nat.le_of_ble_eq_true h1
  have hs':vs.length≤n:=Nat.le_of_ble_eq_true hs
  simp;omega
 show Code.wpS P c _ _ _ _
 refine wpS_of_wp (wp_body_mono ?_ (h (dfNo E) R _ w hfr (hw.env U U U)))
 intro e a w' hq
 have hq:=hq (dfOf_no E)
 cases e with
 |normal=>obtain⟨hd,x,h3,y,L1,h4,h5,h6⟩:=hq;exact⟨hd,_,rfl,x,h3,rfl,y,L1,h4,h5,h6.env rfl rfl rfl⟩
 |ret=>obtain⟨hd,x,h3,y,L1,h4,h5,h6⟩:=hq;exact⟨hd,_,rfl,x,h3,rfl,y,L1,h4,h5,h6.env rfl rfl rfl⟩
 |panic ch=>obtain⟨hd,y,L1,h4,_⟩:=hq;cases h4
 |exit id=>exact hq
 |goto l=>exact hq
 |outgrown=>obtain⟨y,L1,h4,_⟩:=hq;cases h4
theorem FnRet.enter (hf:P.funcs[f]? =some fn)
 (hb:fn.body=some (Code.seq (Code.region id #[⟨some d,.call ⟨.builtin .recover, #[],ats⟩,ty,pos,aft,none⟩,⟨some d2,.assign (.tmp d),ty2,pos2,aft2,none⟩] false) c)) (hn:fn.ntmps=n) (hs:Nat.ble vs.length n=true) (h1:Nat.ble (d+1) n=true) (h2:Nat.ble (d2+1) n=true)
 (h: ∀(E:World) (R:Heaplet),At n ((d2,.nilIface)::(d,.nilIface)::slots 0 vs) E [R] (c.wp P (bodyPostE P fn E R fun _ L=>L= []))):FnRet P f vs.toArray:=by
 intro E w L hw
 obtain⟨R,hR,hle,hsep⟩:=Hp.apartRest (L0:= []) (F:=L) hw
 refine callsD_of_wpS hf hb fun c₀ cs hu=>?_
 apply wpS_seq
 apply wpS_region
 have hfr:=Fr.two (d:=d) (d2:=d2) (v:=.nilIface) hn hs h1 h2
 refine rec_ops (v:=.nilIface) (cs':=c₀::cs) U (.inr ⟨by simp [recoverD,hu],rfl,rfl⟩) ?_ ?_
 ·have:=Nat.le_of_ble_eq_true h1
  have hs':vs.length≤n:=Nat.le_of_ble_eq_true hs
  simp;omega
 show Code.wpS P c _ _ _ _
 refine wpS_of_wp (wp_body_mono ?_ (h (dfNo E) R _ w hfr (hR.env U U U)))
 intro e a w' hq
 have hq:=hq (dfOf_no E)
 have hc:c₀= { c₀ with mode:=.returning } :=by cases c₀;simp_all
 cases e with
 |normal=>obtain⟨hd,x,h3,y,L1,h4,rfl,h6⟩:=hq;exact⟨hd,.returning,by rw [←hc],x,h3,rfl,y,h4,Hp.refine (L:= []) (h6.env rfl rfl rfl) hle hsep⟩
 |ret=>obtain⟨hd,x,h3,y,L1,h4,rfl,h6⟩:=hq;exact⟨hd,.returning,by rw [←hc],x,h3,rfl,y,h4,Hp.refine (L:= []) (h6.env rfl rfl rfl) hle hsep⟩
 |panic ch=>obtain⟨hd,y,L1,h4,_⟩:=hq;cases h4
 |exit id=>exact hq
 |goto l=>exact hq
 |outgrown=>obtain⟨y,L1,h4,_⟩:=hq;cases h4
end
def fromStep (l:List UInt8) (k:Nat) (a:List UInt64):List UInt64:=
 a.set ((l.length- 1- k)/8) (a.getD ((l.length- 1- k)/8) 0 |||(UInt64.ofNat ((l.getD k 0).toNat*2^((l.length- 1- k) % 8*8))))
def fromSt (l:List UInt8):Nat→List UInt64
 |0=>List.replicate ((l.length+7)/8) 0
 |k+1=>fromStep l k (fromSt l k)
theorem length_fromSt (l:List UInt8) (k:Nat):(fromSt l k).length=(l.length+7)/8:=by
 induction k with
 |zero=>simp [fromSt]
 |succ k ih=>simp [fromSt,fromStep,ih]
theorem v64_set {a:List UInt64} {i:Nat} {y:UInt64} (h:i<a.length):v64 (a.set i y)+a[i].toNat*2^(64*i)=v64 a+y.toNat*2^(64*i):=by
 have:=val_set (2^64) (n64 a) i y.toNat (by simpa using h)
 simp only [v64,n64,List.map_set,List.getElem_map]at this⊢
 rw [←Nat.pow_mul]at this
 exact this
theorem limb_v64 {a:List UInt64} {i:Nat} (h:i<a.length):v64 a/2^(64*i) % 2^64=a[i].toNat:=by
 have:=val_div_mod (B:=2^64) (by decide) (n64_lt a) i (by simpa using h)
 rw [←Nat.pow_mul]at this
 simpa [v64,n64]using this
theorem be_take_succ (l:List UInt8) (k:Nat) (h:k<l.length):be (l.take (k+1))=be (l.take k)*256+l[k].toNat:=by
 rw [List.take_succ_eq_append_getElem h,be_snoc]
theorem v64_fromSt (l:List UInt8) (k:Nat) (hk:k≤l.length):v64 (fromSt l k)=be (l.take k)*256^(l.length- k):=by
 induction k with
 |zero=>simp [fromSt,v64_replicate,be]
 |succ k ih=>
  have hlt:k<l.length:=by omega
  have ih:=ih (by omega)
  have hat:(l.length- 1- k)/8<(fromSt l k).length:=by rw [length_fromSt];omega
  have hs:=v64_set (a:=fromSt l k) (i:=(l.length- 1- k)/8) (y:=(fromSt l k)[(l.length- 1- k)/8]|||UInt64.ofNat (l[k].toNat*2^((l.length- 1- k) % 8*8))) hat
  have hd:fromSt l (k+1)=(fromSt l k).set ((l.length- 1- k)/8) ((fromSt l k)[(l.length- 1- k)/8]|||UInt64.ofNat (l[k].toNat*2^((l.length- 1- k) % 8*8))):=by
   simp [fromSt,fromStep,hat,hlt]
  rw [←hd]at hs
  have hx:=l[k].toNat_lt
  have hlimb:=limb_v64 hat
  generalize hq:(fromSt l k)[(l.length- 1- k)/8]=L at hs hlimb
  -- the exponent of the byte
  obtain⟨q,r,hqr,hr⟩: ∃q r,l.length- 1- k=8*q+r∧r<8:=⟨(l.length- 1- k)/8,(l.length- 1- k) % 8,by omega,Nat.mod_lt _ (by decide)⟩
  have e1:(l.length- 1- k)/8=q:=by omega
  have e2:(l.length- 1- k) % 8=r:=by omega
  rw [e1]at hs hlimb
  rw [e2]at hs
  have e3:l.length- k=8*q+r+1:=by omega
  have e4:l.length- (k+1)=8*q+r:=by omega
  rw [e3]at ih
  rw [e4,be_take_succ l k hlt]
  have p256: ∀m:Nat,(256:Nat)^m=2^(8*m):=fun m=>by rw [show(256:Nat)=2^8 from rfl, ←Nat.pow_mul]
  rw [p256]at ih⊢
  have hdiv:L.toNat % 2^(r*8+8)=0:=by
   rw [←hlimb,ih]
   have:be (l.take k)*2^(8*(8*q+r+1))=2^(64*q)*(2^(r*8+8)*be (l.take k)):=by
    rw [←Nat.mul_assoc, ←Nat.pow_add,Nat.mul_comm];congr 2;omega
   rw [this,Nat.mul_div_cancel_left _ (Nat.pow_pos (by decide)),Nat.mod_mod_of_dvd _ (Nat.pow_dvd_pow 2 (by omega)),Nat.mul_mod_right]
  have hc:l[k].toNat*2^(r*8)<2^(r*8+8):=by
   rw [Nat.pow_add,Nat.mul_comm]
   exact Nat.mul_lt_mul_of_pos_left hx (Nat.pow_pos (by decide))
  have hc64:l[k].toNat*2^(r*8)<2^64:=Nat.lt_of_lt_of_le hc (Nat.pow_le_pow_right (by decide) (by omega))
  have hor:(L |||UInt64.ofNat (l[k].toNat*2^(r*8))).toNat=L.toNat+l[k].toNat*2^(r*8):=by
   rw [UInt64.toNat_or,UInt64.toNat_ofNat',Nat.mod_eq_of_lt hc64]
   exact nat_join _ _ _ hdiv hc
  rw [hor,ih,Nat.add_mul]at hs
  have h5:l[k].toNat*2^(r*8)*2^(64*q)=l[k].toNat*2^(8*(8*q+r)):=by
   rw [Nat.mul_assoc, ←Nat.pow_add];congr 2;omega
  have h6:be (l.take k)*2^(8*(8*q+r+1))=be (l.take k)*256*2^(8*(8*q+r)):=by
   rw [Nat.mul_assoc,show(256:Nat)=2^8 from rfl, ←Nat.pow_add];congr 2;omega
  rw [h5,h6]at hs
  rw [Nat.add_mul]
  omega
theorem fromSt_all (l:List UInt8):v64 (fromSt l l.length)=be l:=by
 rw [v64_fromSt l l.length (Nat.le_refl _)];simp
theorem bitLen_div (N m:Nat):bitLen (N/2^m)=bitLen N- m:=by
 have h: ∀j,bitLen (N/2^m)≤j↔bitLen N- m≤j:=by
  intro j
  rw [bitLen_le,Nat.div_lt_iff_lt_mul (Nat.pow_pos (by decide)), ←Nat.pow_add, ←bitLen_le];omega
 have h1:=(h (bitLen N- m)).2 (Nat.le_refl _)
 have h2:=(h (bitLen (N/2^m))).1 (Nat.le_refl _)
 omega
theorem limbsOf_get {N i:Nat} (h:i<(limbsOf N).length):(limbsOf N)[i]=UInt64.ofNat (N/2^(64*i)):=by
 simp [limbsOf,limbsN]
theorem limbsOf_top {N:Nat} (h:0<(limbsOf N).length):(64*((limbsOf N).length- 1)+bitLen (limbsOf N)[(limbsOf N).length- 1].toNat)=bitLen N:=by
 rw [limbsOf_get,UInt64.toNat_ofNat']
 have hk:=length_limbsOf N
 have hN:N<2^(64*(limbsOf N).length):=by rw [hk];exact limbLen_le.1 (Nat.le_refl _)
 have:N/2^(64*((limbsOf N).length- 1))<2^64:=by
  rw [Nat.div_lt_iff_lt_mul (Nat.pow_pos (by decide)), ←Nat.pow_add]
  rwa [show 64+64*((limbsOf N).length- 1)=64*(limbsOf N).length from by omega]
 rw [Nat.mod_eq_of_lt this,bitLen_div]
 omega
theorem limbsOf_top' {N:Nat} {x:UInt64} (h:(limbsOf N)[(limbsOf N).length- 1]? =some x):64*((limbsOf N).length- 1)+bitLen x.toNat=bitLen N:=by
 obtain⟨h1,h2⟩:=List.getElem?_eq_some_iff.1 h
 rw [←h2]
 exact limbsOf_top (by omega)
def bytesSt (m N k:Nat):List UInt8:=(bytesN m N).take k++List.replicate (m- k) 0
theorem length_bytesSt {m N k:Nat} (h:k≤m):(bytesSt m N k).length=m:=by simp [bytesSt];omega
theorem bytesSt_succ {m N k:Nat} (h:k<m):bytesSt m N (k+1)=(bytesSt m N k).set k (UInt8.ofNat (N/256^(m- 1- k))):=by
 apply List.ext_getElem
 ·rw [length_bytesSt (by omega),List.length_set,length_bytesSt (by omega)]
 ·intro i h1 h2
  rw [length_bytesSt (by omega)]at h1
  rw [List.getElem_set]
  by_cases hi:k=i
  ·subst hi
   rw [if_pos rfl]
   simp only [bytesSt]
   rw [List.getElem_append_left (by simp;omega)]
   simp [bytesN]
  ·rw [if_neg hi]
   simp only [bytesSt,List.getElem_append]
   by_cases hlt:i<k
   ·simp;rw [dif_pos (by omega),dif_pos (by omega)]
   ·simp;rw [dif_neg (by omega),dif_neg (by omega)]
theorem bytesSt_zero (m N:Nat):bytesSt m N 0=List.replicate m 0:=by simp [bytesSt]
theorem bytesSt_all (m N:Nat):bytesSt m N m=bytesN m N:=by
 simp only [bytesSt,Nat.sub_self,List.replicate_zero,List.append_nil]
 exact List.take_of_length_le (by simp)
theorem byte_of_limb {l:List UInt64} {at_:Nat} (hq:at_/8<l.length):UInt8.ofNat (l[at_/8].toNat/2^(at_ % 8*8))=UInt8.ofNat (v64 l/256^at_):=by
 have hlimb:=limb_v64 hq
 rw [←hlimb]
 apply UInt8.toNat_inj.1
 rw [UInt8.toNat_ofNat',UInt8.toNat_ofNat']
 obtain⟨q,r,hqr,hr⟩: ∃q r,at_=8*q+r∧r<8:=⟨at_/8,at_ % 8,by omega,Nat.mod_lt _ (by decide)⟩
 have e1:at_/8=q:=by omega
 have e2:at_ % 8=r:=by omega
 rw [e1,e2,hqr,show(256:Nat)=2^8 from rfl, ←Nat.pow_mul,show 8*(8*q+r)=64*q+r*8 from by omega,Nat.pow_add, ←Nat.div_div_eq_div_mul]
 generalize v64 l/2^(64*q)=X
 have:r*8+8≤64:=by omega
 rw [show(2:Nat)^64=2^(r*8)*2^(64- r*8)from by rw [←Nat.pow_add];congr 1;omega,Nat.mod_mul_right_div_self]
 exact Nat.mod_mod_of_dvd _ (Nat.pow_dvd_pow 2 (by omega))
def rlpHead (base n:Nat):List UInt8:=if n≤55 then [UInt8.ofNat (base+n)]else UInt8.ofNat (base+55+(bytesOf n).length)::bytesOf n
theorem v64_one (n:Nat) (h:n<2^64):v64 [UInt64.ofNat n]=n:=by
 simp only [v64,n64,val,List.map_cons,List.map_nil,Nat.mul_zero,Nat.add_zero,UInt64.toNat_ofNat']
 exact Nat.mod_eq_of_lt h
theorem byteLen8 {n:Nat} (h:n<2^64):(bytesOf n).length≤8:=by
 rw [length_bytesOf];exact byteLen_le.2 (by simpa using h)
def n32 (l:List UInt32):List Nat:=l.map UInt32.toNat
def v32 (l:List UInt32):Nat:=val (2^32) (n32 l)
theorem n32_lt (l:List UInt32): ∀x∈n32 l,x<2^32:=by
 intro x hx;obtain⟨y,_,rfl⟩:=List.mem_map.1 hx;exact y.toNat_lt
theorem n32_inj {a b:List UInt32} (h:n32 a=n32 b):a=b:=List.map_inj_right (fun x y e=>UInt32.toNat_inj.1 e)|>.1 h
@[simp] theorem length_n32 (l:List UInt32):(n32 l).length=l.length:=by simp [n32]
theorem v32_lt (l:List UInt32):v32 l<2^(32*l.length):=by
 have:=val_lt (B:=2^32) (by decide) (n32_lt l)
 rw [length_n32, ←Nat.pow_mul]at this
 exact this
def digsN (k N:Nat):List UInt32:=(List.range k).map fun i=>UInt32.ofNat (N/2^(32*i))
@[simp] theorem length_digsN (k N:Nat):(digsN k N).length=k:=by simp [digsN]
theorem n32_digsN (k N:Nat):n32 (digsN k N)=dig (2^32) k N:=by
 simp only [n32,digsN,dig,List.map_map]
 apply List.map_congr_left
 intro i _
 show(UInt32.ofNat (N/2^(32*i))).toNat=_
 rw [UInt32.toNat_ofNat',Nat.pow_mul]
theorem v32_digsN (k N:Nat):v32 (digsN k N)=N % 2^(32*k):=by rw [v32,n32_digsN,val_dig, ←Nat.pow_mul]
theorem digsN_v32 (l:List UInt32):digsN l.length (v32 l)=l:=by
 apply n32_inj;rw [n32_digsN,v32, ←length_n32,dig_val (by decide) (n32_lt l)]
theorem eq_digsN {l:List UInt32} {k N:Nat} (hl:l.length=k) (h:v32 l=N):l=digsN k N:=by rw [←hl, ←h,digsN_v32]
def digsOf (N:Nat):List UInt32:=digsN ((bitLen N+31)/32) N
theorem digLen_le {N k:Nat} :(bitLen N+31)/32≤k↔N<2^(32*k):=by
 rw [←bitLen_le];omega
theorem v32_digsOf (N:Nat):v32 (digsOf N)=N:=by
 rw [digsOf,v32_digsN];exact Nat.mod_eq_of_lt (digLen_le.1 (Nat.le_refl _))
theorem length_digsOf (N:Nat):(digsOf N).length=(bitLen N+31)/32:=by simp [digsOf]
theorem v32_append (a b:List UInt32):v32 (a++b)=v32 a+2^(32*a.length)*v32 b:=by
 simp only [v32,n32,List.map_append,val_append,List.length_map, ←Nat.pow_mul]
theorem v32_replicate (n:Nat):v32 (List.replicate n 0)=0:=by simp [v32,n32,val_replicate]
theorem trim_eq32 {l:List UInt32} {k:Nat} (hk:k≤l.length) (hz: ∀i (h:i<l.length),k≤i→l[i]=0) (hl:k=0∨ ∃h:k- 1<l.length,l[k- 1]≠0):l.take k=digsOf (v32 l):=by
 have hd:l.drop k=List.replicate (l.length- k) 0:=by
  apply List.ext_getElem (by simp)
  intro i h1 h2
  simp only [List.length_drop]at h1
  simp only [List.getElem_drop,List.getElem_replicate]
  exact hz (k+i) (by omega) (by omega)
 have hv:v32 l=v32 (l.take k):=by
  conv=>lhs;rw [←List.take_append_drop k l]
  rw [v32_append,hd,v32_replicate];simp
 have hlen:(l.take k).length=k:=by simp;omega
 refine eq_digsN ?_ hv.symm
 rw [hlen]
 have h1:v32 l<2^(32*k):=by rw [hv];have:=v32_lt (l.take k);rwa [hlen]at this
 have h2:=digLen_le.2 h1
 rcases hl with rfl|⟨hlt,hne⟩
 ·omega
 ·by_cases hc:(bitLen (v32 l)+31)/32≤k- 1
  ·exfalso
   have h3:=digLen_le.1 hc
   have h4:=val_div_mod (B:=2^32) (by decide) (n32_lt l) (k- 1) (by simpa using hlt)
   have h5:val (2^32) (n32 l)/ (2^32)^(k- 1)=0:=by
    rw [←Nat.pow_mul];exact Nat.div_eq_of_lt h3
   rw [h5]at h4
   simp [n32]at h4
   exact hne (by rw [←UInt32.toNat_inj];simpa using h4.symm)
  ·by_cases h0:k=0
   ·omega
   ·omega
theorem v32_set {a:List UInt32} {i:Nat} {y:UInt32} (h:i<a.length):v32 (a.set i y)+a[i].toNat*2^(32*i)=v32 a+y.toNat*2^(32*i):=by
 have:=val_set (2^32) (n32 a) i y.toNat (by simpa using h)
 simp only [v32,n32,List.map_set,List.getElem_map]at this⊢
 rw [←Nat.pow_mul]at this
 exact this
theorem dig_v32 {a:List UInt32} {i:Nat} (h:i<a.length):v32 a/2^(32*i) % 2^32=a[i].toNat:=by
 have:=val_div_mod (B:=2^32) (by decide) (n32_lt a) i (by simpa using h)
 rw [←Nat.pow_mul]at this
 simpa [v32,n32]using this
theorem bytesOf_zero:bytesOf 0= []:=rfl
theorem bytesOf_step {x:Nat} (h:x≠0):bytesOf x=bytesOf (x/256)++ [UInt8.ofNat x]:=by
 have hb:(bitLen x+7)/8=(bitLen (x/256)+7)/8+1:=by
  have h1:bitLen (x/256)=bitLen x- 8:=bitLen_div x 8
  have h2:=bitLen_pos (Nat.pos_of_ne_zero h)
  omega
 rw [bytesOf,hb,bytesN_succ];rfl
theorem trim_len32 {l:List UInt32} {k:Nat} (hk:k≤l.length) (hz: ∀i,k≤i→l.getD i 0=0) (hl:k=0∨(0<k∧l.getD (k- 1) 0≠0)):l.take k=digsOf (v32 l)∧(digsOf (v32 l)).length=k:=by
 have h1:l.take k=digsOf (v32 l):=trim_eq32 hk (fun i h hki=>by
  have:=hz i hki
  rwa [List.getD_eq_getElem?_getD,List.getElem?_eq_getElem h]at this) (by
  rcases hl with h|⟨h0,h⟩
  ·exact .inl h
  ·refine .inr ⟨by omega,?_⟩
   rwa [List.getD_eq_getElem?_getD,List.getElem?_eq_getElem (by omega)]at h)
 exact⟨h1,by rw [←h1,List.length_take];omega⟩
theorem v32_two (x:UInt64):v32 [UInt32.ofNat x.toNat,UInt32.ofNat (shr64 x 32).toNat]=x.toNat:=by
 have hx:=x.toNat_lt
 simp only [v32,n32,val,List.map_cons,List.map_nil,shr64,UInt32.toNat_ofNat',UInt64.toNat_ofNat']
 omega
theorem byte32_at {l:List UInt32} {i:Nat} (h:i/4<l.length):UInt8.ofNat (shr32 (l.getD (i/4) 0) (8*(i % 4))).toNat=UInt8.ofNat (v32 l/256^i):=by
 rw [shr32,UInt32.toNat_ofNat',Nat.mod_eq_of_lt (Nat.lt_of_le_of_lt (Nat.div_le_self _ _) (UInt32.toNat_lt _)),List.getD_eq_getElem?_getD,List.getElem?_eq_getElem h,Option.getD_some, ←dig_v32 h]
 apply UInt8.toNat_inj.1
 rw [UInt8.toNat_ofNat',UInt8.toNat_ofNat']
 obtain⟨q,r,hqr,hr⟩: ∃q r,i=4*q+r∧r<4:=⟨i/4,i % 4,by omega,Nat.mod_lt _ (by decide)⟩
 have e1:i/4=q:=by omega
 have e2:i % 4=r:=by omega
 rw [e1,e2,hqr,show(256:Nat)^(4*q+r)=2^(32*q)*2^(8*r)from by rw [←Nat.pow_add,show(256:Nat)=2^8 from rfl, ←Nat.pow_mul];congr 1;omega, ←Nat.div_div_eq_div_mul]
 generalize v32 l/2^(32*q)=X
 rw [show(2:Nat)^32=2^(8*r)*2^(32- 8*r)from by rw [←Nat.pow_add];congr 1;omega,Nat.mod_mul_right_div_self]
 exact Nat.mod_mod_of_dvd _ (Nat.pow_dvd_pow 2 (by omega:8≤32- 8*r))
theorem bytesOf_down {N i:Nat} (h:N/256^i≠0):bytesOf (N/256^i)=bytesOf (N/256^(i+1))++ [UInt8.ofNat (N/256^i)]:=by
 rw [bytesOf_step h,Nat.div_div_eq_div_mul,Nat.pow_succ]
theorem bytesOf_len0 {n:Nat} (h:(bytesOf n).length=0):n=0:=by
 rw [length_bytesOf]at h
 have:=byteLen_le (N:=n) (k:=0)
 have h2:=this.1 (by omega)
 simpa using h2
theorem down_ne {N i:Nat} (h:0<(bytesOf (N/256^(i+1))).length∨(UInt8.ofNat (N/256^i)).toNat≠0):N/256^i≠0:=by
 intro e
 rcases h with h|h
 ·have:N/256^(i+1)=0:=by rw [Nat.pow_succ, ←Nat.div_div_eq_div_mul,e,Nat.zero_div]
  rw [this,bytesOf_zero]at h;simp at h
 ·rw [e]at h;exact h rfl
theorem down_eq {N i:Nat} (h1: ¬0<(bytesOf (N/256^(i+1))).length) (h2: ¬(UInt8.ofNat (N/256^i)).toNat≠0):bytesOf (N/256^i)=bytesOf (N/256^(i+1)):=by
 have e1:=bytesOf_len0 (Nat.eq_zero_of_not_pos h1)
 have e2:N/256^i % 256=0:=by
  have:(UInt8.ofNat (N/256^i)).toNat=0:=by omega
  rwa [UInt8.toNat_ofNat']at this
 have e3:N/256^i=0:=by
  have h3:N/256^i/256=0:=by rw [Nat.div_div_eq_div_mul, ←Nat.pow_succ];exact e1
  omega
 rw [e1,e3]
theorem u64_zero {x:UInt64} (h:(x.toNat:Int)=0):x=0:=by rw [←UInt64.toNat_inj];simpa using h
theorem trim_len {l:List UInt64} {k:Nat} (hk:k≤l.length) (hz: ∀i,k≤i→l.getD i 0=0) (hl:k=0∨(0<k∧l.getD (k- 1) 0≠0)):l.take k=limbsOf (v64 l)∧(limbsOf (v64 l)).length=k:=by
 have h1:l.take k=limbsOf (v64 l):=trim_eq hk (fun i h hki=>by
  have:=hz i hki
  rwa [List.getD_eq_getElem?_getD,List.getElem?_eq_getElem h]at this) (by
  rcases hl with h|⟨h0,h⟩
  ·exact .inl h
  ·refine .inr ⟨by omega,?_⟩
   rwa [List.getD_eq_getElem?_getD,List.getElem?_eq_getElem (by omega)]at h)
 exact⟨h1,by rw [←h1,List.length_take];omega⟩
theorem Trim_f {N:Heaplet} {ao:Option Addr} {n cap:Nat} {l:List UInt64} (h:RSl N 1 ao n cap (u64s l)):
 Fn Tryz.prog 139 #[.slice ao n cap] [] [N] (fun v L=>v=.slice ao (limbsOf (v64 l)).length (limbsOf (v64 l)).length∧L= []∧l.take (limbsOf (v64 l)).length=limbsOf (v64 l)∧(limbsOf (v64 l)).length≤n):=by
 have hlen:l.length=n:=by simpa using h.len
 have hcap:=h.2.1
 have hmax:=h.2.2.1
 unfold maxLen at hmax
 refine Fn.enter (vs:= [.slice ao n cap]) Tryz.func139 U U U ?_
 intro E R hR
 have h:=h.le (hR N (by simp))
 change At _ _ E [R] _
 refine aC fun _ s_1=>aA (aR U U (aB (s_1 (aC fun _ s_2=>aA (aH U U (cF aE se200 U U (aR U U (aB (s_2 (aC fun _ s_3=>bZ ?_))))))))))
 refine At.loop (fun fr_ hp_ ms_=> ∃(k:Nat),fr_= [(0,.slice ao n cap),(3,.int .i64 (k:Int))]∧hp_= [R]∧k=ms_∧(k≤n)∧(∀i,k≤i→l.getD i 0=0)) ?_ aJ ⟨n,rfl,rfl,rfl,Nat.le_refl _,fun i hi=>by rw [List.getD_eq_getElem?_getD,List.getElem?_eq_none (by omega)];rfl⟩ ?_
 ·repeat first|apply cW|exact .nil|exact lkI rfl (by omega)|rfl
 rintro _ _ _ ⟨k,rfl,rfl,rfl,hk,hz⟩
 refine aC fun _ s_4=>aC fun _ s_5=>aA (aH U U (op_gtr aE U U U (aH U U (cB (d:=8) U (fun g8=>?_) (fun g8=>?_)))))
 ·refine aP (bF U U U U) U U (aP (bF U U U U) U U (op_subI (bF U U U U) U U (by omega) (by omega) U (cZ (bF U U U U) se200 U U (by assumption) (show _=(((k- 1:Nat)):Int)from by omega) (by omega) U ?_)))
  refine cO (bF U U U U) sc24 U (by assumption) (by first|exact get8 (by omega)|exact get64 (by omega)|exact get32 (by omega)) (by simp) U ?_
  refine dF (bF U U U U) U U U (cH aE U U U (aB (s_5 (aQ U (fun c15=>?_) (fun c15=>?_)))))
  ·refine aT (aI (s_4 (bZ (aA (aH U U (op_subI aE U U (by omega) (by omega) U (aR U U (cX (cS (aI ?_))))))))))
   refine At.back ?_ aJ ⟨k- 1,rfl,rfl,rfl,by omega,fun i hi=>by rcases Nat.lt_or_ge i k with h|h;(rw [show i=k- 1 by omega];exact u64_zero c15);exact hz i h⟩ ?_
   ·repeat first|apply cW|exact .nil|exact lkI rfl (by omega)|rfl
   ·omega
  refine At.exit (bB (bB (dE (aI (s_3 (aC fun _ s_6=>aA (aH U U (aH U U (aH U U (op_slice0 aE se200 U (.some U (show _=(((k:Nat)):Int)from by omega)) (.some U (show _=(((k:Nat)):Int)from by omega)) (by omega) (by omega) (by simp) U ?_))))))))))
  refine aR U U (aB (s_6 (a0 ((cI (L1:= []) U (.tmp U .nil) (.refl _) aJ ?_)))))
  have ⟨e1,e2⟩:=trim_len (by omega) hz (.inr ⟨by omega,fun e=>c15 (by rw [e];rfl)⟩);rw [e2];exact⟨rfl,rfl,e1,hk⟩
 refine aU U U U U U U U (aU U U U U U U U (aU U U U U U U U (aU U U U U U U U (aU U U U U U U U (aU U U U U U U U (cE aE U U U (aB (s_5 (dA U (At.exit (bB (bB (dE (aI (s_3 (aC fun _ s_7=>aA (aH U U (aH U U (aH U U (op_slice0 aE se200 U (.some U (show _=(((k:Nat)):Int)from by omega)) (.some U (show _=(((k:Nat)):Int)from by omega)) (by omega) (by omega) (by simp) U ?_))))))))))))))))))))
 refine aR U U (aB (s_7 (a0 ((cI (L1:= []) U (.tmp U .nil) (.refl _) aJ ?_)))))
 have ⟨e1,e2⟩:=trim_len (by omega) hz (.inl (by omega));rw [e2];exact⟨rfl,rfl,e1,hk⟩
theorem set_u64s (l:List UInt64) (i:Nat) (x:UInt64):(u64s l).set i (.int .u64 (x.toNat:Int))=u64s (l.set i x):=by simp [u64s,List.map_set,vl]
theorem set_u8s (l:List UInt8) (i:Nat) (x:UInt8):(u8s l).set i (.int .u8 (x.toNat:Int))=u8s (l.set i x):=by simp [u8s,List.map_set,vb]
theorem set_u32s (l:List UInt32) (i:Nat) (x:UInt32):(u32s l).set i (.int .u32 (x.toNat:Int))=u32s (l.set i x):=by simp [u32s,List.map_set,vd]
theorem zero_u64s (m:Nat):List.replicate m (Value.int .u64 0)=u64s (List.replicate m 0):=by simp [u64s,vl]
theorem zero_u8s (m:Nat):List.replicate m (Value.int .u8 0)=u8s (List.replicate m 0):=by simp [u8s,vb]
theorem zero_u32s (m:Nat):List.replicate m (Value.int .u32 0)=u32s (List.replicate m 0):=by simp [u32s,vd]
theorem ofNat_shl (x:UInt8) (m:Nat):shl64 (UInt64.ofNat x.toNat) m=UInt64.ofNat (x.toNat*2^m):=by
 unfold shl64
 rw [UInt64.toNat_ofNat',Nat.mod_eq_of_lt (by have:=x.toNat_lt;omega)]
theorem From_f {N:Heaplet} {ao:Option Addr} {n cap:Nat} {l:List UInt8} (h:RSl N 1 ao n cap (u8s l)) (hn:n≤140737488351232):
 Fn Tryz.prog 168 #[.slice ao n cap] [] [N] (fun v L=> ∃M a,v=.slice a (limbsOf (be l)).length (limbsOf (be l)).length∧L= [M]∧RSl M 1 a (limbsOf (be l)).length (limbsOf (be l)).length (u64s (limbsOf (be l)))):=by
 have hlen:=h.len8
 have hcap:=h.cap63
 refine Fn.enter (vs:= [.slice ao n cap]) Tryz.func168 U U U ?_
 intro E R hR
 have h:=h.le (hR N (by simp))
 change At _ _ E [R] _
 refine aC fun _ s_1=>aA (aR U U (aB (s_1 (aC fun _ s_2=>aA (aH U U (cF aE se22 U U (cU aE U U (by omega) (by omega) U (op_quoI aE U U (by omega) (by omega) (by omega) U ?_))))))))
 refine op_make bU Tryz.underlying200 te24 U U (show _=((((n+7)/8:Nat)):Int)from by omega) (show _=((((n+7)/8:Nat)):Int)from by omega) (by omega) (by unfold maxLen;omega) U (fun N11 a11 r11=>?_)
 rw [made_one _ _ rfl,zero_u64s]at r11
 have s11:=r11.rsl
 refine aR U U (aB (s_2 (aC fun _ s_3=>aC fun _ s_4=>aA (aH U U (cF aE se22 U U (aH U U (aB (s_4 (bZ (At.loop (fun fr_ hp_ ms_=> ∃(k:Nat) (Nq:Heaplet),fr_= [(0,.slice ao n cap),(3,.slice a11 ((n+7)/8) ((n+7)/8)),(12,.slice ao n cap),(13,.int .i64 (n:Int)),(14,.int .i64 (k:Int))]∧hp_= [Nq,R]∧n- k=ms_∧(k≤n)∧(Row Nq 24 1 a11 ((n+7)/8) ((n+7)/8) (u64s (fromSt l k)))) ?_ aJ ⟨0,N11,rfl,rfl,rfl,by omega,by simpa [fromSt,hlen]using r11⟩ ?_))))))))))
 ·repeat first|apply cW|exact .nil|exact lkI rfl (by omega)|rfl
 rintro _ _ _ ⟨k,Nq,rfl,rfl,rfl,hk,rq⟩
 have sq:=rq.rsl
 have hlq:=sq.len64
 refine aC fun _ s_5=>aA (op_lss aE U U U (aB (s_5 (aC fun _ s_6=>aQ U (fun c15=>?_) (fun c15=>?_)))))
 ·refine aT (aI (s_6 (aC fun _ s_7=>bZ (aC fun _ s_8=>aA (aH U U (cZ aE se22 U U (by assumption) (show _=(((k:Nat)):Int)from by omega) (by omega) U ?_))))))
  refine cO aE sc5 U (by assumption) (by first|exact get8 (by omega)|exact get64 (by omega)|exact get32 (by omega)) (by simp) U ?_
  refine aR U U (aR U U (aB (s_8 (aC fun _ s_9=>aA (aH U U (cF aE se22 U U (op_subI aE U U (by omega) (by omega) U (aH U U (op_subI aE U U (by omega) (by omega) U (aR U U (aB (s_9 (At.drawn [13] [0,1,2,3,4,5,6,7,8,9,10,11,12,13] (by kernel_rfl) (by kernel_rfl) (aP (bP U U U (by kernel_rfl)) U U (aP (bP U U U (by kernel_rfl)) U U (op_quoI (bP U U U (by kernel_rfl)) U U (by omega) (by omega) (by omega) U (cZ (bP U U U (by kernel_rfl)) se200 U U (by assumption) (show _=((((n- 1- k)/8:Nat)):Int)from by omega) (by omega) U ?_)))))))))))))))))
  refine cO (bP U U U (by kernel_rfl)) sc24 U (by assumption) (by first|exact get8 (by omega)|exact get64 (by omega)|exact get32 (by omega)) (by simp) U ?_
  refine aP (bP U U U (by kernel_rfl)) U U (op_conv64 (bP U U U (by kernel_rfl)) (und_some Tryz.underlying5) Tryz.underlying24 U (by first|rfl|exact(Int.toNat_of_nonneg (by omega)).symm) U ?_)
  refine aP (bP U U U (by kernel_rfl)) U U (op_rem (bP U U U (by kernel_rfl)) U U (by omega) (by omega) U (op_mulI (bP U U U (by kernel_rfl)) U U (by omega) (by omega) U (op_shlU (bP U U U (by kernel_rfl)) U U (show _=((((n- 1- k) % 8*8:Nat)):Int)from by omega) U ?_)))
  refine op_orU (bP U U U (by kernel_rfl)) U U U (cZ (bP U U U (by kernel_rfl)) se200 U U (by assumption) (show _=((((n- 1- k)/8:Nat)):Int)from by omega) (by omega) U ?_)
  refine op_storeE (nxos U U U U) sz24 U U U U U rq (by simp<;>omega) (by simp) dB (fun Nq rq=>?_)
  simp only [setL]at rq
  have sq:=rq.rsl
  refine dK (cS (aI (s_7 (aA (cU aE U U (by omega) (by omega) U (aH U U (aB ?_)))))))
  refine At.back ?_ aJ ⟨k+1,Nq,rfl,rfl,rfl,by omega,by rw [fromSt,fromStep,hlen, ←ofNat_shl, ←set_u64s];exact rq⟩ ?_
  ·repeat first|apply cW|exact .nil|exact lkI rfl (by omega)|rfl
  ·omega
 refine At.exit (bB (bB (dE (aI (s_3 (aC fun _ s_10=>aA (aH U U (bD bU (.cons U .nil) (Trim_f sq) Tryz.func139 U U (by simp) U ?_))))))))
 rintro _ _ ⟨rfl,rfl,e1,e2⟩
 show At _ _ _ [Nq,R] _
 refine aR U U (aB (s_10 (a0 ((cI (L1:= [Nq]) U (.tmp U .nil) (.refl _) aJ ?_)))))
 obtain rfl:k=l.length:=by omega
 rw [fromSt_all]at e1 e2⊢
 have h2:=sq.take (Nat.le_refl _) e2 e2
 rw [Nat.mul_one,u64s_takeR,e1]at h2
 exact⟨Nq,a11,rfl,rfl,h2⟩
theorem u32_zero {x:UInt32} (h:(x.toNat:Int)=0):x=0:=by rw [←UInt32.toNat_inj];simpa using h
theorem trim32_f {N:Heaplet} {ao:Option Addr} {n cap:Nat} {l:List UInt32} (h:RSl N 1 ao n cap (u32s l)):
 Fn Tryz.prog 150 #[.slice ao n cap] [] [N] (fun v L=>v=.slice ao (digsOf (v32 l)).length cap∧L= []∧l.take (digsOf (v32 l)).length=digsOf (v32 l)∧(digsOf (v32 l)).length≤n):=by
 have hlen:=h.len32
 have hcap:=h.cap63
 refine Fn.enter (vs:= [.slice ao n cap]) Tryz.func150 U U U ?_
 intro E R hR
 have h:=h.le (hR N (by simp))
 change At _ _ E [R] _
 refine aC fun _ s_1=>aA (aR U U (aB (s_1 (aC fun _ s_2=>aA (aH U U (cF aE se168 U U (aR U U (aB (s_2 (aC fun _ s_3=>bZ ?_))))))))))
 refine At.loop (fun fr_ hp_ ms_=> ∃(k:Nat),fr_= [(0,.slice ao n cap),(3,.int .i64 (k:Int))]∧hp_= [R]∧k=ms_∧(k≤n)∧(∀i,k≤i→l.getD i 0=0)) ?_ aJ ⟨n,rfl,rfl,rfl,Nat.le_refl _,fun i hi=>by rw [List.getD_eq_getElem?_getD,List.getElem?_eq_none (by omega)];rfl⟩ ?_
 ·repeat first|apply cW|exact .nil|exact lkI rfl (by omega)|rfl
 rintro _ _ _ ⟨k,rfl,rfl,rfl,hk,hz⟩
 refine aC fun _ s_4=>aC fun _ s_5=>aA (aH U U (op_gtr aE U U U (aH U U (cB (d:=8) U (fun g8=>?_) (fun g8=>?_)))))
 ·refine aP (bF U U U U) U U (aP (bF U U U U) U U (op_subI (bF U U U U) U U (by omega) (by omega) U (cZ (bF U U U U) se168 U U (by assumption) (show _=(((k- 1:Nat)):Int)from by omega) (by omega) U ?_)))
  refine cO (bF U U U U) sc172 U (by assumption) (by first|exact get8 (by omega)|exact get64 (by omega)|exact get32 (by omega)) (by simp) U ?_
  refine dF (bF U U U U) U U U (cH aE U U U (aB (s_5 (aQ U (fun c15=>?_) (fun c15=>?_)))))
  ·refine aT (aI (s_4 (bZ (aA (aH U U (op_subI aE U U (by omega) (by omega) U (aR U U (cX (cS (aI ?_))))))))))
   refine At.back ?_ aJ ⟨k- 1,rfl,rfl,rfl,by omega,fun i hi=>by rcases Nat.lt_or_ge i k with h|h;(rw [show i=k- 1 by omega];exact u32_zero c15);exact hz i h⟩ ?_
   ·repeat first|apply cW|exact .nil|exact lkI rfl (by omega)|rfl
   ·omega
  refine At.exit (bB (bB (dE (aI (s_3 (aC fun _ s_6=>aA (aH U U (aH U U (op_slice0 aE se168 U (.some U (show _=(((k:Nat)):Int)from by omega)) .none (by omega) (by omega) (by simp) U ?_)))))))))
  refine aR U U (aB (s_6 (a0 ((cI (L1:= []) U (.tmp U .nil) (.refl _) aJ ?_)))))
  have ⟨e1,e2⟩:=trim_len32 (by omega) hz (.inr ⟨by omega,fun e=>c15 (by rw [e];rfl)⟩);rw [e2];exact⟨rfl,rfl,e1,hk⟩
 refine aU U U U U U U U (aU U U U U U U U (aU U U U U U U U (aU U U U U U U U (aU U U U U U U U (aU U U U U U U U (cE aE U U U (aB (s_5 (dA U (At.exit (bB (bB (dE (aI (s_3 (aC fun _ s_7=>aA (aH U U (aH U U (op_slice0 aE se168 U (.some U (show _=(((k:Nat)):Int)from by omega)) .none (by omega) (by omega) (by simp) U ?_)))))))))))))))))))
 refine aR U U (aB (s_7 (a0 ((cI (L1:= []) U (.tmp U .nil) (.refl _) aJ ?_)))))
 have ⟨e1,e2⟩:=trim_len32 (by omega) hz (.inl (by omega));rw [e2];exact⟨rfl,rfl,e1,hk⟩
theorem Of32_f (x:UInt64):Fn Tryz.prog 100 #[.int .u64 (x.toNat:Int)] [] [] (fun v L=> ∃M a cap,v=.slice a (digsOf x.toNat).length cap∧L= [M]∧RSl M 1 a (digsOf x.toNat).length cap (u32s (digsOf x.toNat))):=by
 refine Fn.enter (vs:= [.int .u64 (x.toNat:Int)]) Tryz.func100 U U U ?_
 intro E R hR
 change At _ _ E [R] _
 refine aC fun _ s_1=>aA (aR U U (aB (s_1 (aC fun _ s_2=>aA (aH U U (op_conv32 aE (und_some Tryz.underlying24) Tryz.underlying172 U (by first|rfl|exact(Int.toNat_of_nonneg (by omega)).symm) U ?_))))))
 refine aH U U (op_shrU aE U U (show _=((32:Nat):Int)from U) U (op_conv32 aE (und_some Tryz.underlying24) Tryz.underlying172 U (by first|rfl|exact(Int.toNat_of_nonneg (by omega)).symm) U ?_))
 refine op_lit bU Tryz.underlying168 ze172 sz172 (.cons U (.cons U .nil)) U U (by simp [Value.cells]) U U U (fun N8 a8 r8=>?_)
 simp only [flatV,List.flatMap_cons,List.flatMap_nil,Value.cells,List.append_nil,List.cons_append,List.nil_append]at r8
 have s8:=r8.rsl
 refine bD bU (.cons U .nil) (trim32_f (l:= [UInt32.ofNat x.toNat,UInt32.ofNat (shr64 x 32).toNat]) s8) Tryz.func150 U U (by simp) U ?_
 rintro _ _ ⟨rfl,rfl,e1,e2⟩
 show At _ _ _ [N8,R] _
 rw [v32_two]at e1 e2⊢
 have s9:=s8.take e2 (Nat.le_refl _) e2
 refine aR U U (aB (s_2 (a0 ((cI (L1:= [N8]) U (.tmp U .nil) (.refl _) aJ (⟨N8,a8,2,rfl,rfl,?_⟩))))))
 have e:List.take ((digsOf x.toNat).length*1) [Value.int IntKind.u32 ↑(UInt32.ofNat x.toNat).toNat,Value.int IntKind.u32 ↑(UInt32.ofNat (shr64 x 32).toNat).toNat]=u32s (digsOf x.toNat):=by
  rw [Nat.mul_one, ←e1, ←u32s_take,e1];rfl
 rw [e]at s9
 exact s9
theorem Bytes32_f {N:Heaplet} {ao:Option Addr} {n cap:Nat} {l:List UInt32} (h:RSl N 1 ao n cap (u32s l)) (hn:n≤17592186044416):
 Fn Tryz.prog 171 #[.slice ao n cap] [] [N] (fun v L=> ∃M a cap,v=.slice a (bytesOf (v32 l)).length cap∧L= [M]∧Row M 5 1 a (bytesOf (v32 l)).length cap (u8s (bytesOf (v32 l)))):=by
 have hlen:=h.len32
 have hcap:=h.cap63
 have hlim:v32 l<256^(4*n):=by
  rw [show(256:Nat)=2^8 from rfl, ←Nat.pow_mul,show 8*(4*n)=32*l.length from by omega];exact v32_lt l
 have hb4: ∀j,(bytesOf (v32 l/256^j)).length≤4*n:=fun j=>by
  rw [length_bytesOf];exact byteLen_le.2 (Nat.lt_of_le_of_lt (Nat.div_le_self _ _) hlim)
 refine Fn.enter (vs:= [.slice ao n cap]) Tryz.func171 U U U ?_
 intro E R hR
 have h:=h.le (hR N (by simp))
 change At _ _ E [R] _
 refine aC fun _ s_1=>aA (aR U U (aB (s_1 (aC fun _ s_2=>aA (aR U U (aB (s_2 (aC fun _ s_3=>aC fun _ s_4=>aA (aH U U (cF aE se168 U U (op_mulI aE U U (by omega) (by omega) U (op_subI aE U U (by omega) (by omega) U (aR U U (aB (s_4 (bZ (cV ?_)))))))))))))))))
 refine At.loop (fun fr_ hp_ ms_=> ∃(j:Nat) (ap:Option Addr) (np cp:Nat) (Np:Heaplet),fr_= [(0,.slice ao n cap),(3,.slice ap np cp),(4,.int .i64 ((j:Int)- 1))]∧hp_= [Np,R]∧j=ms_∧(j≤4*n)∧(np=(bytesOf (v32 l/256^j)).length)∧(Row Np 5 1 ap np cp (u8s (bytesOf (v32 l/256^j))))) ?_ aJ ⟨4*n,none,0,0,nilH,rfl,rfl,rfl,Nat.le_refl _,by rw [Nat.div_eq_of_lt hlim];rfl,by rw [Nat.div_eq_of_lt hlim];exact Row.nil _ _ _⟩ ?_
 ·repeat first|apply cW|exact .nil|exact lkI rfl (by omega)|rfl
 rintro _ _ _ ⟨j,ap,np,cp,Np,rfl,rfl,rfl,hj,hnp,rp⟩
 have hb:=hb4 j
 refine aC fun _ s_5=>aC fun _ s_6=>aA (aH U U (op_geq aE U U U (aB (s_6 (aQ U (fun c11=>?_) (fun c11=>?_))))))
 ·have hbyte:=byte32_at (l:=l) (i:=j- 1) (by omega)
  obtain⟨i,hi⟩: ∃i,j=i+1:=⟨j- 1,by omega⟩
  have hj1:j- 1=i:=by omega
  have hj1':j=i+1:=hi
  have hst:(0<np∨(UInt8.ofNat (shr32 (l.getD ((j- 1)/4) 0) (8*((j- 1) % 4))).toNat).toNat≠0)→bytesOf (v32 l/256^(j- 1))=bytesOf (v32 l/256^j)++ [UInt8.ofNat (shr32 (l.getD ((j- 1)/4) 0) (8*((j- 1) % 4))).toNat]:=fun hh=>by
   rw [hbyte]at hh⊢
   rw [hnp]at hh
   rw [hj1,hj1']at*
   exact bytesOf_down (down_ne hh)
  refine aT (aI (s_5 (aC fun _ s_7=>bZ (aC fun _ s_8=>aA (aH U U (aH U U (op_quoI aE U U (by omega) (by omega) (by omega) U (cZ aE se168 U U (by assumption) (show _=((((j- 1)/4:Nat)):Int)from by omega) (by omega) U ?_))))))))
  refine cO aE sc172 U (by assumption) (by first|exact get8 (by omega)|exact get64 (by omega)|exact get32 (by omega)) (by simp) U ?_
  refine aH U U (op_rem aE U U (by omega) (by omega) U (op_mulI aE U U (by omega) (by omega) U (op_shrU32 aE U U (show _=(((8*((j- 1) % 4):Nat)):Int)from by omega) U ?_)))
  refine op_conv8 aE (und_some Tryz.underlying172) Tryz.underlying5 U (by first|rfl|exact(Int.toNat_of_nonneg (by omega)).symm) U ?_
  refine aR U U (aB (s_8 (aC fun _ s_9=>aA (aH U U (cF aE se22 U U (op_gtr aE U U U (aH U U (cB (d:=27) U (fun g27=>?_) (fun g27=>?_)))))))))
  ·refine aU U U U U U U U (aU U U U U U U U (cH aE U U U (aB (s_9 (At.condT U (aA (aH U U (aH U U (op_lit bU Tryz.underlying22 ze5 sz5 (.cons U .nil) U U (by simp [Value.cells]) U U U (fun N33 a33 r33=>?_))))))))))
   simp only [flatV,List.flatMap_cons,List.flatMap_nil,Value.cells,List.append_nil,List.cons_append,List.nil_append]at r33
   have s33:=r33.rsl
   refine op_append cL Tryz.underlying22 Tryz.underlying22 te5 rfl rfl rp (by assumption) (by simp) (by first|exact one_u8s _|exact one_u64s _|exact one_u32s _|(intro u hu;simp at hu;subst hu;rfl)) (by omega) (by omega) sel1 rfl (fun N34 a34 p34 r34=>?_)
   have s34:=r34.rsl
   refine aR U U (cX (cS (aI (s_7 (aA (aH U U (op_subI aE U U (by omega) (by omega) U (aR U U (aB (bH ?_))))))))))
   refine At.back ?_ aJ ⟨j- 1,a34,np+1,p34,N34,rfl,rfl,rfl,by omega,by rw [hst (.inl (by omega)),List.length_append,hnp];rfl,by rw [hst (.inl (by omega)),u8s,List.map_append];exact r34⟩ ?_
   ·repeat first|apply cW|exact .nil|exact lkI rfl (by omega)|rfl
   ·omega
  refine aP (bF U U U U) U U (dG (bF U U U U) U U U (cE aE U U U (aB (s_9 (aQ U (fun c30=>?_) (fun c30=>?_))))))
  ·refine aA (aH U U (aH U U (op_lit bU Tryz.underlying22 ze5 sz5 (.cons U .nil) U U (by simp [Value.cells]) U U U (fun N33 a33 r33=>?_))))
   simp only [flatV,List.flatMap_cons,List.flatMap_nil,Value.cells,List.append_nil,List.cons_append,List.nil_append]at r33
   have s33:=r33.rsl
   refine op_append cL Tryz.underlying22 Tryz.underlying22 te5 rfl rfl rp (by assumption) (by simp) (by first|exact one_u8s _|exact one_u64s _|exact one_u32s _|(intro u hu;simp at hu;subst hu;rfl)) (by omega) (by omega) sel1 rfl (fun N34 a34 p34 r34=>?_)
   have s34:=r34.rsl
   refine aR U U (cX (cS (aI (s_7 (aA (aH U U (op_subI aE U U (by omega) (by omega) U (aR U U (aB (bH ?_))))))))))
   refine At.back ?_ aJ ⟨j- 1,a34,np+1,p34,N34,rfl,rfl,rfl,by omega,by rw [hst (.inr (by omega)),List.length_append,hnp];rfl,by rw [hst (.inr (by omega)),u8s,List.map_append];exact r34⟩ ?_
   ·repeat first|apply cW|exact .nil|exact lkI rfl (by omega)|rfl
   ·omega
  refine aT (cS (aI (s_7 (aA (aH U U (op_subI aE U U (by omega) (by omega) U (aR U U (aB ?_))))))))
  have hc0: ¬(UInt8.ofNat (v32 l/256^(j- 1))).toNat≠0:=by rw [←hbyte];omega
  have hl0: ¬0<(bytesOf (v32 l/256^(i+1))).length:=by rw [←hj1', ←hnp];omega
  rw [hj1]at hc0
  refine At.back ?_ aJ ⟨j- 1,ap,np,cp,Np,rfl,rfl,rfl,by omega,by rw [hj1,down_eq hl0 hc0, ←hj1'];exact hnp,by rw [hj1,down_eq hl0 hc0, ←hj1'];exact rp⟩ ?_
  ·repeat first|apply cW|exact .nil|exact lkI rfl (by omega)|rfl
  ·omega
 refine At.exit (bB (bB (dE (aI (s_3 (aC fun _ s_10=>aA (aH U U (aR U U (aB (s_10 (a0 ((cI (L1:= [Np]) U (.tmp U .nil) (.refl _) aJ ?_)))))))))))))
 obtain rfl:j=0:=by omega
 rw [Nat.pow_zero,Nat.div_one]at hnp rp
 subst hnp
 exact⟨Np,ap,cp,rfl,rfl,rp⟩
def rfromStep (l:List UInt8) (i:Nat) (a:List UInt32):List UInt32:=
 a.set (i/4) (a.getD (i/4) 0 |||(UInt32.ofNat ((l.getD (l.length- 1- i) 0).toNat*2^(8*(i % 4)))))
def rfromSt (l:List UInt8):Nat→List UInt32
 |0=>List.replicate ((l.length+3)/4) 0
 |k+1=>rfromStep l k (rfromSt l k)
theorem length_rfromSt (l:List UInt8) (k:Nat):(rfromSt l k).length=(l.length+3)/4:=by
 induction k with
 |zero=>simp [rfromSt]
 |succ k ih=>simp [rfromSt,rfromStep,ih]
theorem v32_rfromSt (l:List UInt8) (k:Nat) (hk:k≤l.length):v32 (rfromSt l k)=be (l.drop (l.length- k)):=by
 induction k with
 |zero=>simp [rfromSt,v32_replicate,be]
 |succ k ih=>
  have ih:=ih (by omega)
  have hat:k/4<(rfromSt l k).length:=by rw [length_rfromSt];omega
  have hlt:l.length- 1- k<l.length:=by omega
  have hs:=v32_set (a:=rfromSt l k) (i:=k/4) (y:=(rfromSt l k)[k/4]|||UInt32.ofNat (l[l.length- 1- k].toNat*2^(8*(k % 4)))) hat
  have hd:rfromSt l (k+1)=(rfromSt l k).set (k/4) ((rfromSt l k)[k/4]|||UInt32.ofNat (l[l.length- 1- k].toNat*2^(8*(k % 4)))):=by
   simp [rfromSt,rfromStep,hat,hlt]
  rw [←hd]at hs
  have hx:=l[l.length- 1- k].toNat_lt
  have hdig:=dig_v32 hat
  generalize hq:(rfromSt l k)[k/4]=L at hs hdig
  have hdr:l.drop (l.length- (k+1))=l[l.length- 1- k]::l.drop (l.length- k):=by
   rw [show l.length- (k+1)=l.length- 1- k from by omega,List.drop_eq_getElem_cons hlt]
   congr 2;omega
  have hlen:(l.drop (l.length- k)).length=k:=by simp;omega
  have hv:v32 (rfromSt l k)<2^(8*k):=by
   rw [ih,show(2:Nat)^(8*k)=256^k from by rw [show(256:Nat)=2^8 from rfl, ←Nat.pow_mul]]
   have:=be_lt (l.drop (l.length- k));rwa [hlen]at this
  rw [hdr,be_cons,hlen, ←ih]
  obtain⟨q,r,hqr,hr⟩: ∃q r,k=4*q+r∧r<4:=⟨k/4,k % 4,by omega,Nat.mod_lt _ (by decide)⟩
  have e1:k/4=q:=by omega
  have e2:k % 4=r:=by omega
  rw [e1]at hs hdig
  rw [e2]at hs
  have hL:L.toNat<2^(8*r):=by
   rw [←hdig]
   refine Nat.lt_of_le_of_lt (Nat.mod_le _ _) ?_
   rw [Nat.div_lt_iff_lt_mul (Nat.pow_pos (by decide)), ←Nat.pow_add]
   rwa [show 8*r+32*q=8*k from by omega]
  have hc:l[l.length- 1- k].toNat*2^(8*r)<2^32:=by
   refine Nat.lt_of_lt_of_le (Nat.mul_lt_mul_of_pos_right hx (Nat.pow_pos (by decide))) ?_
   rw [show(2:Nat)^8*2^(8*r)=2^(8+8*r)from by rw [←Nat.pow_add]]
   exact Nat.pow_le_pow_right (by decide) (by omega)
  have hor:(L |||UInt32.ofNat (l[l.length- 1- k].toNat*2^(8*r))).toNat=L.toNat+l[l.length- 1- k].toNat*2^(8*r):=by
   rw [UInt32.toNat_or,UInt32.toNat_ofNat',Nat.mod_eq_of_lt hc,Nat.or_comm,nat_join (8*r) _ _ (Nat.mul_mod_left _ _) hL,Nat.add_comm]
  rw [hor,Nat.add_mul,Nat.mul_assoc, ←Nat.pow_add,show 8*r+32*q=8*k from by omega]at hs
  have e256:(256:Nat)^k=2^(8*k):=by rw [show(256:Nat)=2^8 from rfl, ←Nat.pow_mul]
  rw [e256]
  omega
theorem rfromSt_all (l:List UInt8):v32 (rfromSt l l.length)=be l:=by
 rw [v32_rfromSt l l.length (Nat.le_refl _)];simp
end Go.Proofs.YtjfagifjajielaaGreat
