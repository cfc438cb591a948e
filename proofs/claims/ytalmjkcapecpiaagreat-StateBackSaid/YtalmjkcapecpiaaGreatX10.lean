/- Several texts in one: see the remarks ahead of each part. No condition but those told there. -/
import Derived.Test.YtalmjkcapecpiaaGreatX1
import Derived.Test.YtalmjkcapecpiaaGreatX9
import Derived.Test.YtalmjkcapecpiaaGreatX8
import Derived.Test.YtalmjkcapecpiaaGreatX7
import Derived.Shelf.SlSortCmp.WholeK
import Derived.Shelf.SlSortCmp.NoneTotal
import Derived.Sort.Grow
import Derived.Deep.Draws
import Derived.Test.YtalmjkcapecpiaaGreatX6
import Derived.Lib.Bytealg
import Derived.Lib.BytesEntry
import Derived.Sort.Statements
import Derived.Test.YtalmjkcapecpiaaGreatProg
set_option linter.unusedSimpArgs false
set_option linter.unusedVariables false
namespace Go.Proofs.YtalmjkcapecpiaaGreat
open Go Go.RowKit
section
variable {P : Program} {α : Type} {t ts y1 y2 y3 y4 y5 y6 y7 y8 y9 yA : TypeId} {p1 p2 p3 p4 p5 p6 p7 p8 p9 pA : _} {q1 q2 q3 q4 q5 q6 q7 q8 q9 qA : _} {k bytes : Nat} {zv : Value} {cs : α → List Value}
def ApN (t ts:TypeId) (k:Nat) (cs:α→List Value) (l D bs:Nat) (rec:Loop) (ss:List α) (N:Heaplet):Prop:=
 ∃Nl Nb Nd Nr ao cap,[Nl,Nb,Nd,Nr].Pairwise Apart∧N=joinL [Nl,Nb,Nd,Nr]∧Nl l=some (.loop rec)∧Blk Nb bs ts [.slice ao ss.length cap]∧Nd D=some (.deferred (some []))∧Row Nr t k ao ss.length cap (ss.flatMap cs)
theorem put_heap {w:World} {l:Nat} {o o':Obj} {E:World} {N:Heaplet} {L:List Heaplet} (h:Hp E (N::L) w) (hN:N l=some o'):Hp E (upd N l o::L) (w.putObj l o):=by
 have hl:w.heap[l]? =some o':=h.sub N (List.mem_cons_self ..) _ _ hN
 exact h.put hN U U U (World.putObj_heap_same (Array.getElem?_eq_some_iff.1 hl).1) fun j hj _=>World.putObj_heap_other hj
set_option maxHeartbeats 2000000 in
theorem ap_round (hsl:P.underlying ts=some (.slice t)) (hsc:scal P ts=true) (hss:siz P ts=some 1) (hz:zer P t=some zv) (hag:aggOf P t=some k) (hsz:siz P t=some k) (hE:ElemInfo P t zv k bytes) (hzl:zv.cells.toList.length=k)
 (hk:k≤64) (hb64:bytes≤64) 
 {fn l D bs:Nat} {tm:Array Value} {df:List Deferred} (htm:Fr df 13 [(2,.pointer (some ⟨bs,0,none⟩))] { tmps:=tm,defers:=df })
 {rec:Loop} (hrec:rec= { state:=.ready,pending:=none,fn:=fn,tmps:=tm,params:= #[7],assign:=Code.region 2 #[⟨some 5,.alloc t,y1,p1,q1,none⟩,⟨none,.store t (.tmp 5) (.tmp 7),y2,p2,q2,none⟩] false,body:=Code.block 1 (Code.region 3 #[⟨some 8,.load ts (.tmp 2),y3,p3,q3,none⟩,⟨some 9,.load t (.tmp 5),y4,p4,q4,none⟩,⟨some 10,.buildSlice ts 1 #[(0,.tmp 9)],y5,p5,q5,none⟩,⟨some 11,.call ⟨.builtin .append, #[.tmp 8,.tmp 10], #[ts,ts]⟩,y6,p6,q6,none⟩,⟨none,.store ts (.tmp 2) (.tmp 11),y7,p7,q7,none⟩] false),defers:=D })
 (ss:List α) (x:α) (hcs:(cs x).length=k) (hone:(cs x).all (·.oneCell')=true) (N:Heaplet) (h:ApN t ts k cs l D bs rec ss N) (hn:ss.length≤1099511627776):RndY P l (.agg (cs x).toArray) N (ApN t ts k cs l D bs rec (ss++ [x])):=by
 obtain⟨Nl,Nb,Nd,Nr,ao,cap,hA,rfl,hl,hB,hD,hr⟩:=h
 intro E w R hw
 have hw1:Hp E [Nl,Nb,Nd,Nr,R] w:=Hp.unpackL (L:= [R]) hA hw
 have hwl:w.heap[l]? =some (.loop rec):=hw1.sub Nl (by simp) _ _ hl
 have hps:rec.params= #[7]:=by rw [hrec]
 refine⟨_,_,_,_,run_yield hwl (by rw [hps];rfl),roundIn_of_wpIn trivial ?_⟩
 have hbu:(0:Nat)=0:=rfl
 have ht0:(rec.params.zip #[Value.agg (cs x).toArray]).foldl (fun tmps (p:Tmp×Value)=>tmps.setIfInBounds p.1 p.2) rec.tmps=tm.setIfInBounds 7 (.agg (cs x).toArray):=by
  rw [hps,hrec];simp
 have hasg:rec.assign=Code.region 2 (List.toArray [⟨some 5,.alloc t,y1,p1,q1,none⟩,⟨none,.store t (.tmp 5) (.tmp 7),y2,p2,q2,none⟩]) false:=by rw [hrec]
 have hbdy:rec.body=Code.block 1 (Code.region 3 (List.toArray [⟨some 8,.load ts (.tmp 2),y3,p3,q3,none⟩,⟨some 9,.load t (.tmp 5),y4,p4,q4,none⟩,⟨some 10,.buildSlice ts 1 (List.toArray [(0,.tmp 9)]),y5,p5,q5,none⟩,⟨some 11,.call ⟨.builtin .append, #[.tmp 8,.tmp 10], #[ts,ts]⟩,y6,p6,q6,none⟩,⟨none,.store ts (.tmp 2) (.tmp 11),y7,p7,q7,none⟩]) false):=by rw [hrec]
 rw [ht0,hasg,hbdy]
 have hst:rec.state=.ready:=by rw [hrec]
 have hpd:rec.pending=none:=by rw [hrec]
 have hfr:Fr (dfOf (dfNo E)) 13 [(7,.agg (cs x).toArray),(2,.pointer (some ⟨bs,0,none⟩))] { tmps:=tm.setIfInBounds 7 (.agg (cs x).toArray),defers:= [] } :=by
  have h0:Fr (dfOf (dfNo E)) 13 [(2,.pointer (some ⟨bs,0,none⟩))] { tmps:=tm,defers:= [] } :=⟨(dfOf_no E).symm,htm.size,htm.get⟩
  exact h0.put (d:=7) (by decide)
 refine(At.regionF (E:=dfNo E) (L:= [Nl,Nb,Nd,Nr,R]) (bZ (nxia rfl quiet_alloc) hz rfl (fun N5 b5 B5=>?_))) _ w hfr (hw1.env rfl rfl rfl)
 refine bP (nxi U quiet_store) hsz U U U hcs hone B5 (by rw [hzl,hcs];omega) sel0 (fun N5 B5=>?_)
 have hset:setL zv.cells.toList 0 (cs x)=cs x:=by
  have:=setL_append (cs x) [] zv.cells.toList [] (by rw [hzl,hcs])
  simpa using this
 rw [hset]at B5
 refine At.opsNilI ?_
 intro a2 w2 hf2 hw2
 have hw3:Hp (dfNo E) [Nl,N5,Nb,Nd,Nr,R] w2:=hw2.perm (.swap ..)
 have hl2:w2.heap[l]? =some (.loop rec):=hw3.sub Nl (by simp) _ _ hl
 refine⟨_,run_beginRound hl2 hst,?_⟩
 have hw4:=put_heap (o:=.loop { rec with state:=.busy }) hw3 hl
 obtain⟨Nl2,hNl2⟩: ∃M,M=upd Nl l (.loop { rec with state:=.busy }):=⟨_,rfl⟩
 rw [←hNl2]at hw4
 have hl3:Nl2 l=some (.loop { rec with state:=.busy }):=by rw [hNl2];exact upd_self _ _ _
 refine wpIn_block ((At.regionF (E:=dfNo E) (L:= [Nl2,N5,Nb,Nd,Nr,R]) (l:= [(5,.pointer (some ⟨b5,0,none⟩)),(7,.agg (cs x).toArray),(2,.pointer (some ⟨bs,0,none⟩))]) (aU (nxif U quiet_load) hsc U hB U mem2 U ?_)) _ _ hf2 hw4)
 refine aK (ds:=cs x) (nxif U quiet_load) hag U B5 (by rw [List.drop_zero,List.take_of_length_le (by rw [hcs];omega)]) hcs dG U ?_
 refine op_lit (nxia U quiet_buildSlice) hsl hz hsz (.cons U .nil) U U (by simp [Value.cells,hcs]) (by exact Nat.ble_eq_true_of_le (by omega)) U U (fun N10 a10 r10=>?_)
 have ef:flatV [(0,Value.agg (cs x).toArray)]=cs x:=by simp [flatV,Value.cells]
 rw [ef]at r10
 have hbb:(ss.length+1)*bytes≤140737488355328:=by
  have h1:=Nat.mul_le_mul (show ss.length+1≤1099511627777 by omega) hb64
  omega
 refine op_append (nxi U quiet_append) hsl hsl hE U U hr r10.rsl cO (fun u hu=>List.all_eq_true.1 hone u hu) hbb (by omega) sel5 U (fun N11 a11 c11 r11=>bP (nxi U quiet_store) hss U U U U U hB (by simp) sel4 (fun N2 B2=>At.opsNilI ?_))
 intro a5 w5 hf5 hw5
 have hw6:Hp (dfNo E) [Nl2,N2,Nd,N11,R] w5:=(hw5.drop (L':= [N2,N11,Nl2,Nd,R]) (by simp)).perm (by
  exact sel2.trans (.cons _ (.cons _ (.swap ..))))
 have hl5:w5.heap[l]? =some (.loop { rec with state:=.busy }):=hw6.sub Nl2 (by simp) _ _ hl3
 have hw7:=put_heap (o:=.loop { rec with state:=.ready,pending:=none }) hw6 hl3
 simp only [Exit.inBlock,roundPost]
 have ew:(w5.putObj l (.loop { ({ rec with state:=.busy } :Loop)with state:=if (none:Option Code).isNone then .ready else .done,pending:=none }))=w5.putObj l (.loop { rec with state:=.ready,pending:=none }):=rfl
 refine⟨_,_,run_endRound none hl5,rfl,joinL [upd Nl2 l (.loop { rec with state:=.ready,pending:=none }),N2,Nd,N11],⟨_,_,_,_,a11,c11,(List.pairwise_append.1 (show([upd Nl2 l (.loop { rec with state:=.ready,pending:=none }),N2,Nd,N11]++ [R]).Pairwise Apart from hw7.sep)).1,rfl,?_,?_,hD,?_⟩,?_⟩
 ·rw [upd_self]
  congr 2
  cases rec
  simp only at hst hpd
  subst hst hpd
  rfl
 ·rw [List.length_append,List.length_singleton];exact B2
 ·rw [List.length_append,List.length_singleton,List.flatMap_append,List.flatMap_singleton];exact r11
 ·rw [ew]
  exact(Hp.packL (Ns:= [_,_,_,_]) (L:= [R]) hw7).env rfl rfl rfl
theorem hp_nil {E w:World} {L:List Heaplet} (h:Hp E L w):Hp E (nilH::L) w:=⟨h.os,h.tape,h.output,fun N hN k o hk=>by
 rcases List.mem_cons.1 hN with rfl|hN
 ·cases hk
 ·exact h.sub N hN k o hk,List.pairwise_cons.2 ⟨fun B _ k=>.inl rfl,h.sep⟩⟩
theorem ap_range (hsl:P.underlying ts=some (.slice t)) (hsc:scal P ts=true) (hss:siz P ts=some 1) (hz:zer P t=some zv) (hag:aggOf P t=some k) (hsz:siz P t=some k) (hE:ElemInfo P t zv k bytes) (hzl:zv.cells.toList.length=k)
 (hk:k≤64) (hb64:bytes≤64) {ok:α→Prop} (hcs: ∀x,ok x→(cs x).length=k) (hone: ∀x,(cs x).all (·.oneCell')=true) {g:Nat} {lb:Array Value} {S:List α→Prop} {mx:Nat} {Lr:List Heaplet} (hg:SeqG P g lb (fun x=>.agg (cs x).toArray) ok S mx Lr) (hmx:mx≤1099511627776) (eg: ∀args w,(callFunc g args).run P w=.ok (.enter g args) w)
 {asg bd:Code} (has:asg=Code.region 2 #[⟨some 5,.alloc t,y1,p1,q1,none⟩,⟨none,.store t (.tmp 5) (.tmp 7),y2,p2,q2,none⟩] false) (hbd:bd=Code.block 1 (Code.region 3 #[⟨some 8,.load ts (.tmp 2),y3,p3,q3,none⟩,⟨some 9,.load t (.tmp 5),y4,p4,q4,none⟩,⟨some 10,.buildSlice ts 1 #[(0,.tmp 9)],y5,p5,q5,none⟩,⟨some 11,.call ⟨.builtin .append, #[.tmp 8,.tmp 10], #[ts,ts]⟩,y6,p6,q6,none⟩,⟨none,.store ts (.tmp 2) (.tmp 11),y7,p7,q7,none⟩] false))
 {l:List (Nat×Value)} {E w2:World} {a2:Act} {R N2:Heaplet} {b2:Nat} {Q:Exit→Act→World→Prop} (hf2:Fr (dfOf E) 13 l a2) (hE0:dfOf E= []) (hsv:ev l (.tmp 6)=some (.func (.func g) #[] lb)) (hb:lk l 2=some (.pointer (some ⟨b2,0,none⟩))) (hw2:Hp E [N2,R] w2) (B2:Blk N2 b2 ts [.slice none 0 0]) (hr: ∀N∈Lr,N.le R)
 (hdone: ∀D xs ao cap Nb Nd Nr w4,S xs→Blk Nb b2 ts [.slice ao xs.length cap]→Nd D=some (.deferred (some []))→Row Nr t k ao xs.length cap (xs.flatMap cs)→Hp E [Nd,Nb,Nr,R] w4→Q .normal { a2 with defers:= [{ target:=.collected D,args:= #[] }] } w4):
 (Code.rangeFunc (.tmp 6) #[7] asg bd).wp P Q a2 w2:=by
 refine(wpIn_wide (n:=0)).1 (wpIn_rangeFunc fun fn _=>?_)
 have hsv2:a2.eval (.tmp 6)=.func (.func g) #[] lb:=hf2.eval hsv
 obtain⟨W1,hW1⟩: ∃W1,W1=(w2.alloc (.deferred (some []))):=⟨_,rfl⟩
 obtain⟨rec,hrec⟩: ∃rec:Loop,rec= { state:=.ready,pending:=none,fn:=fn,tmps:=a2.tmps,params:= #[7],assign:=asg,body:=bd,defers:=w2.heap.size } :=⟨_,rfl⟩
 have hs1:W1.heap.size=w2.heap.size+1:=by rw [hW1];simp
 have hw3:Hp E [single w2.heap.size (.deferred (some [])),N2,R] W1:=by rw [hW1];exact hw2.alloc _
 have hw4:Hp E [single (w2.heap.size+1) (.loop rec),single w2.heap.size (.deferred (some [])),N2,R] (W1.alloc (.loop rec)):=by rw [←hs1];exact hw3.alloc _
 refine⟨w2.heap.size+1,[{ target:=.collected w2.heap.size,args:= #[] }],W1.alloc (.loop rec),{ target:=.fn (.func g) lb,args:= #[.func (.yield (w2.heap.size+1)) #[] #[]] },W1.alloc (.loop rec),g, #[.func (.yield (w2.heap.size+1)) #[] #[]]++lb,W1.alloc (.loop rec),?_,?_,fun _ _=>trivial,?_,fun h=>(by cases h),callsIn_wide.2 ?_⟩
 ·rw [hW1,hrec];exact run_enterLoop_outer _ _ _ _ _
 ·simp only [Act.eval]at hsv2
  simp [rangeCall,resolve,hsv2,Deferred.ofValue,Act.eval]
 ·simp [invoke,eg]
 have hrd: ∀pre x N,ok x→ApN t ts k cs (w2.heap.size+1) w2.heap.size b2 rec pre N→pre.length<mx→RndY P (w2.heap.size+1) (.agg (cs x).toArray) N (ApN t ts k cs (w2.heap.size+1) w2.heap.size b2 rec (pre++ [x])):=fun pre x N hx hN hl=>
  ap_round hsl hsc hss hz hag hsz hE hzl hk hb64 (df:=a2.defers) ⟨rfl,hf2.size,fun i v h=>by
   by_cases e:2=i
   ·subst e
    have h':v=.pointer (some ⟨b2,0,none⟩):=by simpa [lk]using h.symm
    rw [h'];exact hf2.get 2 _ hb
   ·have e':Nat.beq 2 i=false:=beq_no e
    simp [lk,e']at h⟩ (by rw [hrec,has,hbd]) pre x (hcs x hx) (hone x) N hN (by omega)
 have hsep:=hw4.sep
 simp only [List.pairwise_cons,List.mem_cons,List.not_mem_nil,or_false,forall_eq_or_imp,forall_eq]at hsep
 have hn: ∀A,Apart A nilH:=fun A k=>.inr rfl
 have h0:ApN t ts k cs (w2.heap.size+1) w2.heap.size b2 rec [] (joinL [single (w2.heap.size+1) (.loop rec),N2,single w2.heap.size (.deferred (some [])),nilH]):=
  ⟨_,_,_,_,none,0,by simp [hn,hsep.1.1,hsep.1.2.1,(hsep.2.1.1).symm],rfl,single_self _ _,B2,single_self _ _,Row.nil _ _ _⟩
 have hw5:Hp E ([joinL [single (w2.heap.size+1) (.loop rec),N2,single w2.heap.size (.deferred (some [])),nilH]]++ [R]) (W1.alloc (.loop rec)):=by
  refine Hp.packL (Ns:= [_,_,_,_]) (L:= [R]) ?_
  exact(hp_nil hw4).perm ((List.Perm.swap _ _ _).trans (.cons _ (((List.Perm.swap _ _ _).trans (.cons _ (.swap _ _ _))).trans ((List.Perm.swap _ _ _).trans aZ))))
 refine Calls.mono (hg (w2.heap.size+1) _ _ hrd h0 E _ R hw5 hr) ?_
 rintro e w3 ⟨v,L1,rfl,⟨xs,N,rfl,hS,Nl,Nb,Nd,Nr,ao,cap,hA,rfl,hl,hB,hD,hrow⟩,hw6⟩
 have hw7:Hp E [Nl,Nb,Nd,Nr,R] w3:=Hp.unpackL (L:= [R]) hA hw6
 have hl7:w3.heap[w2.heap.size+1]? =some (.loop rec):=hw7.sub Nl (by simp) _ _ hl
 have hw8:=put_heap (o:=.loop { rec with state:=.exhausted }) hw7 hl
 have hpd:rec.pending=none:=by rw [hrec]
 refine⟨none,w3.putObj (w2.heap.size+1) (.loop { rec with state:=.exhausted }),by rw [run_endLoop hl7 (by rw [hrec];simp),hpd],?_⟩
 have hd:=hdone w2.heap.size xs ao cap Nb Nd Nr (w3.putObj (w2.heap.size+1) (.loop { rec with state:=.exhausted })) hS hB hD hrow ((hw8.drop (L':= [Nb,Nd,Nr,R]) (by simp)).perm (.swap ..))
 have hdf:a2.defers= []:=hf2.defers.trans hE0
 simpa [hdf]using hd
theorem ap_end {fn:Func} {R':Ending→World→Prop} {a:Act} {w:World} {D b2:Nat} {ao:Option Addr} {len cap:Nat} {Nb Nd Nr R:Heaplet} {E:World} {id:Nat} (hres:fn.results= #[.tmp 4]) (hsc:scal P ts=true) (hsz:a.tmps.size=13) (hb:a.tmps[2]? =some (.pointer (some ⟨b2,0,none⟩))) (hd:a.defers= [{ target:=.collected D,args:= #[] }])
 (hB:Blk Nb b2 ts [.slice ao len cap]) (hD:Nd D=some (.deferred (some []))) (hw:Hp E [Nd,Nb,Nr,R] w) (hR: ∀w',Hp E [Nr,R] w'→R' (.returned (.slice ao len cap)) w'):
 (Code.seq (Code.region id #[⟨some 12,.load ts (.tmp 2),y8,p8,q8,none⟩,⟨some 4,.assign (.tmp 12),y9,p9,q9,none⟩] false) .ret).wp P (bodyPostM Fence.wide 0 P fn R') a w:=by
 refine wp_seq (wp_region_lit ?_)
 have hc:w.cell? ⟨b2,0,none⟩=some (.slice ao len cap):=hw.cell (N:=Nb) (by simp) (by simpa using hB.rng 0 (by simp))
 refine wpList_plain U fun K hK=>?_
 have e1:(execOp a.eval ⟨some 12,.load ts (.tmp 2),y8,p8,q8,none⟩).run P w=.ok (.value (.slice ao len cap)) w:=by
  have he:a.eval (.tmp 2)=.pointer (some ⟨b2,0,none⟩):=by simp [Act.eval,Array.getD_eq_getD_getElem?,hb]
  simp only [execOp,he,Instr.loadAt,Instr.sureAddr,Sem.run_bind,Sem.run_pure,Result.andThen_ok,run_load_scal hsc hc]
 unfold Oper.wp
 rw [e1]
 refine hK _ _ (wpList_plain U fun K hK=>?_)
 have e2:(execOp (a.put (some 12) (.slice ao len cap)).eval ⟨some 4,.assign (.tmp 12),y9,p9,q9,none⟩).run P w=.ok (.value (.slice ao len cap)) w:=by
  have he:(a.put (some 12) (.slice ao len cap)).eval (.tmp 12)=.slice ao len cap:=by simp [Act.eval,Act.put,Array.getD_eq_getD_getElem?,hsz]
  simp only [execOp,he,Sem.run_pure]
 unfold Oper.wp
 rw [e2]
 refine hK _ _ (wp_ret ?_)
 have hDw:w.heap[D]? =some (.deferred (some [])):=hw.sub Nd (by simp) _ _ hD
 have hw2:=put_heap (o:=.deferred none) hw hD
 show LeavesInM _ _ _ _ _ _ _ _ _
 simp only [Act.put,hd]
 refine⟨by simp,.inl ⟨_,_,rfl,run_takeDeferred hDw,?_⟩⟩
 exact⟨_,results_tmp hres _ _ _,by
  have:((a.tmps.setIfInBounds 12 (.slice ao len cap)).setIfInBounds 4 (.slice ao len cap)).getD 4 undef=.slice ao len cap:=by simp [Array.getD_eq_getD_getElem?,hsz]
  rw [this]
  exact hR _ (hw2.drop (by simp))⟩
end
set_option maxRecDepth 100000
theorem Fn.liftQ {P:Program} {f:FuncId} {args:Array Value} {L0 Ns:List Heaplet} {R:Heaplet} {Post:Value→List Heaplet→Prop} (h:Fn P f args L0 Ns Post) (hR: ∀N∈Ns,N.le R):Fn P f args L0 [R] Post:=fun E w F hp hr=>
 h E w F hp fun M hM=>Heaplet.le_trans (hR M hM) (hr R (by simp))
def encA (k:List UInt8):Value:=.agg (u8s k).toArray
def encW (x:Nat):Value:=.agg (u64s (wl x)).toArray
theorem one_A {k:List UInt8} :(u8s k).all (·.oneCell')=true:=by rw [List.all_eq_true];exact one_u8s _
theorem one_W {x:Nat} :(u64s (wl x)).all (·.oneCell')=true:=by rw [List.all_eq_true];exact one_u64s _
def ColP {α:Type} (t:TypeId) (k:Nat) (cs:α→List Value) (S:List α→Prop) (v:Value) (L:List Heaplet):Prop:= ∃N ao cap xs,v=.slice ao xs.length cap∧L= [N]∧S xs∧Row N t k ao xs.length cap (xs.flatMap cs)
set_option maxHeartbeats 4000000 in
theorem FAppendSeqA {g:Nat} {lb:Array Value} {S:List (List UInt8)→Prop} {mx:Nat} {Lr:List Heaplet} (hg:SeqG Tryz.prog g lb encA okAd S mx Lr) (hmx:mx≤1099511627776) (eg: ∀args w,(callFunc g args).run Tryz.prog w=.ok (.enter g args) w):
 Fn Tryz.prog 113 #[.slice none 0 0,.func (.func g) #[] lb] [] Lr (ColP 33 20 u8s S):=by
 intro E w R hw hr
 refine(callsIn_wide (n:=0)).1 (callsIn_of_wp_marks Tryz.func113 rfl trivial (wpIn_wide.2 (wp_seq ?_)) rfl)
 refine(aB (E:=dfNo E) (n:=13) (l:= [(0,.slice none 0 0),(1,.func (.func g) #[] lb)]) (L:= [R]) (ops:= [_,_]) ?_) _ _ (by
  rw [dfOf_no]
  exact Fr.init (n:=13) (args:= #[.slice none 0 0,.func (.func g) #[] lb]) (by simp) (fun i v h=>by have:=(slots_get [.slice none 0 0,.func (.func g) #[] lb] 0 i v h).2;simpa using this)) (hw.env U U U)
 refine cU bT U U U (fun N2 b2 B2=>bV U U (cE ?_))
 intro a1 w1 hf1 hw1
 refine wp_seq (wp_seq ((aB (ops:= [_]) (bC U U (cE ?_))) _ _ hf1 hw1))
 intro a2 w2 hf2 hw2
 refine wp_block ?_
 refine ap_range (bytes:=20) (k:=20) (cs:=u8s) Tryz.underlying95 sc95 sz95 ze33 ag33 sz33 te33 U (by decide) (by decide) (fun x hx=>by rw [cY];exact hx) (fun _=>one_A) hg hmx eg U U hf2 (dfOf_no E) U U hw2 B2 hr ?_
 intro D xs ao cap Nb Nd Nr w4 hS hB hD hrow hw4
 refine ap_end (E:=dfNo E) U sc95 hf2.size (hf2.get 2 _ U) U hB hD hw4 (fun w' hw'=>⟨_,[Nr],rfl,⟨Nr,ao,cap,xs,rfl,rfl,hS,hrow⟩,hw'.env U U rfl⟩)
theorem FCollectA {g:Nat} {lb:Array Value} {S:List (List UInt8)→Prop} {mx:Nat} {Lr:List Heaplet} (hg:SeqG Tryz.prog g lb encA okAd S mx Lr) (hmx:mx≤1099511627776) (eg: ∀args w,(callFunc g args).run Tryz.prog w=.ok (.enter g args) w):
 Fn Tryz.prog 95 #[.func (.func g) #[] lb] [] Lr (ColP 33 20 u8s S):=by
 refine Fn.enter (vs:= [.func (.func g) #[] lb]) Tryz.func95 U U U ?_
 intro E R hR
 change At _ _ E [R] _
 refine aH fun _ s_1=>aB (bV U U (aI (s_1 (aH fun _ s_2=>aB (bC U U (bG bT (.cons U (.cons U .nil)) ((FAppendSeqA hg hmx eg).liftQ hR) Tryz.func113 U U (by simp) U ?_))))))
 rintro v4 L4 ⟨N4,a4,c4,xs4,rfl,rfl,h4,r4⟩
 show At _ _ _ [N4,R] _
 refine bV U U (aI (s_2 (cK ((cF (L1:= [N4]) U (.tmp U .nil) (.refl _) aZ ?_)))))
 exact⟨N4,a4,c4,xs4,rfl,rfl,h4,r4⟩
set_option maxHeartbeats 4000000 in
theorem FAppendSeqW {g:Nat} {lb:Array Value} {S:List (Nat)→Prop} {mx:Nat} {Lr:List Heaplet} (hg:SeqG Tryz.prog g lb encW okWd S mx Lr) (hmx:mx≤1099511627776) (eg: ∀args w,(callFunc g args).run Tryz.prog w=.ok (.enter g args) w):
 Fn Tryz.prog 116 #[.slice none 0 0,.func (.func g) #[] lb] [] Lr (ColP 36 4 (fun x=>u64s (wl x)) S):=by
 intro E w R hw hr
 refine(callsIn_wide (n:=0)).1 (callsIn_of_wp_marks Tryz.func116 rfl trivial (wpIn_wide.2 (wp_seq ?_)) rfl)
 refine(aB (E:=dfNo E) (n:=13) (l:= [(0,.slice none 0 0),(1,.func (.func g) #[] lb)]) (L:= [R]) (ops:= [_,_]) ?_) _ _ (by
  rw [dfOf_no]
  exact Fr.init (n:=13) (args:= #[.slice none 0 0,.func (.func g) #[] lb]) (by simp) (fun i v h=>by have:=(slots_get [.slice none 0 0,.func (.func g) #[] lb] 0 i v h).2;simpa using this)) (hw.env U U U)
 refine cU bT U U U (fun N2 b2 B2=>bV U U (cE ?_))
 intro a1 w1 hf1 hw1
 refine wp_seq (wp_seq ((aB (ops:= [_]) (bC U U (cE ?_))) _ _ hf1 hw1))
 intro a2 w2 hf2 hw2
 refine wp_block (ap_range (bytes:=32) (k:=4) (cs:=(fun x=>u64s (wl x))) Tryz.underlying97 sc97 sz97 ze36 ag36 sz36 te36 U (by decide) (by decide) (fun x _=>bQ x) (fun _=>one_W) hg hmx eg U U hf2 (dfOf_no E) U U hw2 B2 hr ?_)
 intro D xs ao cap Nb Nd Nr w4 hS hB hD hrow hw4
 refine ap_end (E:=dfNo E) U sc97 hf2.size (hf2.get 2 _ U) U hB hD hw4 (fun w' hw'=>⟨_,[Nr],rfl,⟨Nr,ao,cap,xs,rfl,rfl,hS,hrow⟩,hw'.env U U rfl⟩)
theorem FCollectW {g:Nat} {lb:Array Value} {S:List (Nat)→Prop} {mx:Nat} {Lr:List Heaplet} (hg:SeqG Tryz.prog g lb encW okWd S mx Lr) (hmx:mx≤1099511627776) (eg: ∀args w,(callFunc g args).run Tryz.prog w=.ok (.enter g args) w):
 Fn Tryz.prog 99 #[.func (.func g) #[] lb] [] Lr (ColP 36 4 (fun x=>u64s (wl x)) S):=by
 refine Fn.enter (vs:= [.func (.func g) #[] lb]) Tryz.func99 U U U ?_
 intro E R hR
 change At _ _ E [R] _
 refine aH fun _ s_1=>aB (bV U U (aI (s_1 (aH fun _ s_2=>aB (bC U U (bG bT (.cons U (.cons U .nil)) ((FAppendSeqW hg hmx eg).liftQ hR) Tryz.func116 U U (by simp) U ?_))))))
 rintro v4 L4 ⟨N4,a4,c4,xs4,rfl,rfl,h4,r4⟩
 show At _ _ _ [N4,R] _
 refine bV U U (aI (s_2 (cK ((cF (L1:= [N4]) U (.tmp U .nil) (.refl _) aZ ?_)))))
 exact⟨N4,a4,c4,xs4,rfl,rfl,h4,r4⟩
section
variable {α β : Type} [DecidableEq α] {κ : α → Lit} {ok : α → Prop} {val : β → Value} {D : DataW Value} {l : List (α × β)}
structure KeysIn (κ:α→Lit) (ok:α→Prop) (l:List (α×β)) (left:Lit→Bool) (pre:List α):Prop where
 nd:pre.Nodup
 sub: ∀k∈pre,(getA k l).isSome=true
 left: ∀k,ok k→(left (κ k)=true↔(getA k l).isSome=true∧k∉pre)
theorem KeysIn.start (h:MapA κ ok val D l):KeysIn κ ok l (Maps.has D) []:=⟨List.nodup_nil,fun _ h=>absurd h List.not_mem_nil,fun k hk=>by rw [h.has k hk];simp⟩
theorem KeysIn.step {left:Lit→Bool} {pre:List α} (E:KeyE κ ok) (h:KeysIn κ ok l left pre) {k:α} (hk:ok k) (hl:left (κ k)=true):KeysIn κ ok l (fun x=>left x&& !x.sameKey (κ k)) (pre++ [k]):=by
 obtain⟨h1,h2⟩:=(h.left k hk).1 hl
 refine⟨?_,fun j hj=>?_,fun j hj=>?_⟩
 ·rw [List.nodup_append]
  exact⟨h.nd,by simp,fun a ha b hb e=>h2 (by rw [List.mem_singleton.1 hb]at e;exact e▸ha)⟩
 ·rcases List.mem_append.1 hj with hj|hj
  ·exact h.sub j hj
  ·rw [List.mem_singleton.1 hj];exact h1
 ·have hs:(κ j).sameKey (κ k)=true↔j=k:=by
   exact⟨fun e=>E.inj _ _ hj hk (WideAt.sameKey_eq e),fun e=>by rw [e];exact same_self (E.lit k hk)⟩
  rw [Bool.and_eq_true,h.left j hj,List.mem_append,List.mem_singleton]
  by_cases e:j=k
  ·have:=hs.2 e
   simp [e]at this
   simp [e,this]
  ·have:(κ j).sameKey (κ k)=false:=by
    cases hb:(κ j).sameKey (κ k)with
    |false=>rfl
    |true=>exact absurd (hs.1 hb) e
   simp [e,this]
theorem KeysIn.len {left:Lit→Bool} {pre:List α} (hd:DisA l) (h:KeysIn κ ok l left pre):pre.length≤l.length:=by
 have:=nodup_len (m:=l.map Prod.fst) h.nd fun k hk=>mem_keys.2 (h.sub k hk)
 simpa using this
theorem KeysIn.len1 {left:Lit→Bool} {pre:List α} (E:KeyE κ ok) (hd:DisA l) (h:KeysIn κ ok l left pre) {k:α} (hk:ok k) (hl:left (κ k)=true):pre.length<l.length:=by
 have:=(h.step E hk hl).len hd
 simp at this;omega
theorem KeysIn.fin {left:Lit→Bool} {pre:List α} (hd:DisA l) (hok: ∀p∈l,ok p.1) (h:KeysIn κ ok l left pre) (h0: ∀q,left q=false):pre.Perm (l.map Prod.fst):=by
 refine(List.perm_ext_iff_of_nodup h.nd hd).2 fun k=>⟨fun hk=>mem_keys.2 (h.sub k hk),fun hk=>?_⟩
 obtain⟨p,hp,rfl⟩:=List.mem_map.1 hk
 have h1:=mem_keys.1 (List.mem_map.2 ⟨p,hp,rfl⟩)
 refine Classical.byContradiction fun hn=>?_
 have:=(h.left p.1 (hok p hp)).2 ⟨h1,hn⟩
 rw [h0]at this;cases this
end
theorem FKeysA {mb:Nat} :Fn Tryz.prog 73 #[.map (some mb)] [] [] (fun v L=> ∃N b,v=.func (.func 97) #[] #[.pointer (some ⟨b,0,none⟩)]∧L= [N]∧Blk N b 74 [.map (some mb)]):=by
 refine Fn.enter (vs:= [.map (some mb)]) Tryz.func73 U U U ?_
 intro E R hR
 change At _ _ E [R] _
 refine aH fun _ s_1=>aB (cU bT U U U (fun N1 b1 B1=>bV U U (aI (s_1 (aH fun _ s_2=>aB (op_mkF aN .nil (.cons U .nil) U (bV U U (aI (s_2 (cK ((cF (L1:= [N1]) U (.tmp U .nil) (.refl _) aZ ?_))))))))))))
 exact⟨N1,b1,rfl,rfl,B1⟩
set_option maxHeartbeats 4000000 in
theorem keysA_gives {NB NM:Heaplet} {blk mb c:Nat} {D:DataW Value} {l:List (List UInt8×(Nat×AcS))} (B:Blk NB blk 74 [.map (some mb)]) (hM:MapV Tryz.prog 33 NM mb c D) (hA:MapA keyA okAd ptrV D l):
 SeqG Tryz.prog 97 #[.pointer (some ⟨blk,0,none⟩)] encA okAd (fun ks=>ks.Perm (l.map Prod.fst)) l.length [NB,NM]:=by
 intro ly NI N0 hrd h0
 show Fn _ _ #[.func (.yield ly) #[] #[],.pointer (some ⟨blk,0,none⟩)] _ _ _
 refine Fn.enter (vs:= [.func (.yield ly) #[] #[],.pointer (some ⟨blk,0,none⟩)]) Tryz.func97 U U U ?_
 intro E R hR
 have hB0:=hR NB (by simp)
 have hM0:=hR NM (by simp)
 have BR:=B.le hB0
 have hM:=hM.le hM0
 change At _ _ E [N0,R] _
 refine aH fun _ s_1=>aB (aU aN sc74 U BR U dG U ?_)
 refine op_range bT kd33 Tryz.underlying74 U hM (by simp) U (fun N5 b5 g5=>aI (s_1 (bX (At.loop (fun fr_ hp_ ms_=> ∃(pre:List (List UInt8)) (left:Lit→Bool) (cnt:Nat) (NG NJ:Heaplet),fr_= [(0,.func (.yield ly) #[] #[]),(5,.pointer (some ⟨b5,0,none⟩))]∧hp_= [NG,NJ,R]∧cnt=ms_∧(RngN Tryz.prog 33 NG b5 R mb c D left cnt)∧(KeysIn keyA okAd l left pre)∧(NI pre NJ)) ?_ aZ ⟨[],_,_,N5,N0,rfl,rfl,rfl,g5,KeysIn.start hA,h0⟩ ?_))))
 ·repeat first|apply cW|exact .nil|exact lkI rfl (by omega)|rfl
 rintro _ _ _ ⟨pre,left,cnt,NG,NJ,rfl,rfl,rfl,hg,hK,hI⟩
 refine aH fun _ s_2=>aB (op_next nxQ kd33 U hg sel0 (by simp) U (fun z6 e6=>?_) (fun k6 v6 q6 N6 n6 ke6 lf6 at6 g6 lt6 en6=>?_))
 ·show At _ _ _ [NG,NJ,R] _
  refine bW aN U U U (aI (s_2 (aH fun _ s_3=>At.condF U (At.exit (bD (bD (dE (dropAt0 (cQ (L1:= [NJ]) U .nil U (.refl _) aZ ?_)))))))))
  exact⟨pre,NJ,rfl,hK.fin hA.dis hA.key e6,hI⟩
 show At _ _ _ [N6,NJ,R] _
 obtain⟨k0,hok0,rfl,rfl⟩:=keyA_inv ke6
 refine bW aN U U U (aI (s_2 (aH fun _ s_4=>At.condT U (cG (aS (s_4 (bX (aH fun _ s_5=>aB (op_entry aN U en6 (by simp) (by simp) U (bW aN U U U (bZ bT ze33 U (fun N3 b3 B3=>?_))))))))))))
 change Blk N3 b3 _ [.int .u8 0,.int .u8 0,.int .u8 0,.int .u8 0,.int .u8 0,.int .u8 0,.int .u8 0,.int .u8 0,.int .u8 0,.int .u8 0,.int .u8 0,.int .u8 0,.int .u8 0,.int .u8 0,.int .u8 0,.int .u8 0,.int .u8 0,.int .u8 0,.int .u8 0,.int .u8 0]at B3
 refine bP nxQ sz33 U U U (len_A hok0) len_A1 B3 (by rw [len_A hok0];decide) sel0 (fun N3 B3=>?_)
 rw [setL_full (len_A hok0)]at B3
 refine aI (s_5 (aH fun _ s_6=>At.regionI (aR (nxif U quiet_move) U U (aK (ds:=u8s k0) (nxif U quiet_load) ag33 U B3 (by exact bJ (len_A hok0)) (by exact len_A hok0) cO U ?_))))
 refine op_yield U U (hrd pre k0 NJ hok0 hI (hK.len1 keE_A hA.dis hok0 lf6)) sel2 U (fun NY hY=>op_not (nxif U quiet_not) U U (At.opsNilI (aS (s_6 (At.condF U (cG (cJ (aS (cT (bF (cH (bF (At.back ?_ aZ ⟨pre++ [k0],_,n6,N6,NY,rfl,rfl,rfl,g6,hK.step keE_A hok0 lf6,hY⟩ ?_)))))))))))))
 ·repeat first|apply cW|exact .nil|exact lkI rfl (by omega)|rfl
 ·omega
theorem FKeysW {mb:Nat} :Fn Tryz.prog 77 #[.map (some mb)] [] [] (fun v L=> ∃N b,v=.func (.func 101) #[] #[.pointer (some ⟨b,0,none⟩)]∧L= [N]∧Blk N b 69 [.map (some mb)]):=by
 refine Fn.enter (vs:= [.map (some mb)]) Tryz.func77 U U U ?_
 intro E R hR
 change At _ _ E [R] _
 refine aH fun _ s_1=>aB (cU bT U U U (fun N1 b1 B1=>bV U U (aI (s_1 (aH fun _ s_2=>aB (op_mkF aN .nil (.cons U .nil) U (bV U U (aI (s_2 (cK ((cF (L1:= [N1]) U (.tmp U .nil) (.refl _) aZ ?_))))))))))))
 exact⟨N1,b1,rfl,rfl,B1⟩
set_option maxHeartbeats 4000000 in
theorem keysW_gives {NB NM:Heaplet} {blk mb c:Nat} {D:DataW Value} {l:List (Nat×Nat)} (B:Blk NB blk 69 [.map (some mb)]) (hM:MapV Tryz.prog 36 NM mb c D) (hA:MapA keyW okWd wordV D l):
 SeqG Tryz.prog 101 #[.pointer (some ⟨blk,0,none⟩)] encW okWd (fun ks=>ks.Perm (l.map Prod.fst)) l.length [NB,NM]:=by
 intro ly NI N0 hrd h0
 show Fn _ _ #[.func (.yield ly) #[] #[],.pointer (some ⟨blk,0,none⟩)] _ _ _
 refine Fn.enter (vs:= [.func (.yield ly) #[] #[],.pointer (some ⟨blk,0,none⟩)]) Tryz.func101 U U U ?_
 intro E R hR
 have hB0:=hR NB (by simp)
 have hM0:=hR NM (by simp)
 have BR:=B.le hB0
 have hM:=hM.le hM0
 change At _ _ E [N0,R] _
 refine aH fun _ s_1=>aB (aU aN sc69 U BR U dG U ?_)
 refine op_range bT kd36 Tryz.underlying69 U hM (by simp) U (fun N5 b5 g5=>aI (s_1 (bX (At.loop (fun fr_ hp_ ms_=> ∃(pre:List (Nat)) (left:Lit→Bool) (cnt:Nat) (NG NJ:Heaplet),fr_= [(0,.func (.yield ly) #[] #[]),(5,.pointer (some ⟨b5,0,none⟩))]∧hp_= [NG,NJ,R]∧cnt=ms_∧(RngN Tryz.prog 36 NG b5 R mb c D left cnt)∧(KeysIn keyW okWd l left pre)∧(NI pre NJ)) ?_ aZ ⟨[],_,_,N5,N0,rfl,rfl,rfl,g5,KeysIn.start hA,h0⟩ ?_))))
 ·repeat first|apply cW|exact .nil|exact lkI rfl (by omega)|rfl
 rintro _ _ _ ⟨pre,left,cnt,NG,NJ,rfl,rfl,rfl,hg,hK,hI⟩
 refine aH fun _ s_2=>aB (op_next nxQ kd36 U hg sel0 (by simp) U (fun z6 e6=>?_) (fun k6 v6 q6 N6 n6 ke6 lf6 at6 g6 lt6 en6=>?_))
 ·show At _ _ _ [NG,NJ,R] _
  refine bW aN U U U (aI (s_2 (aH fun _ s_3=>At.condF U (At.exit (bD (bD (dE (dropAt0 (cQ (L1:= [NJ]) U .nil U (.refl _) aZ ?_)))))))))
  exact⟨pre,NJ,rfl,hK.fin hA.dis hA.key e6,hI⟩
 show At _ _ _ [N6,NJ,R] _
 obtain⟨k0,hok0,rfl,rfl⟩:=keyW_inv ke6
 refine bW aN U U U (aI (s_2 (aH fun _ s_4=>At.condT U (cG (aS (s_4 (bX (aH fun _ s_5=>aB (op_entry aN U en6 (by simp) (by simp) U (bW aN U U U (bZ bT ze36 U (fun N3 b3 B3=>?_))))))))))))
 change Blk N3 b3 _ [.int .u64 0,.int .u64 0,.int .u64 0,.int .u64 0]at B3
 refine bP nxQ sz36 U U U (len_W hok0) len_W1 B3 (by rw [len_W hok0];decide) sel0 (fun N3 B3=>?_)
 rw [setL_full (len_W hok0)]at B3
 refine aI (s_5 (aH fun _ s_6=>At.regionI (aR (nxif U quiet_move) U U (aK (ds:=(fun x=>u64s (wl x)) k0) (nxif U quiet_load) ag36 U B3 (by exact bJ (len_W hok0)) (by exact len_W hok0) cO U ?_))))
 refine op_yield U U (hrd pre k0 NJ hok0 hI (hK.len1 keE_W hA.dis hok0 lf6)) sel2 U (fun NY hY=>op_not (nxif U quiet_not) U U (At.opsNilI (aS (s_6 (At.condF U (cG (cJ (aS (cT (bF (cH (bF (At.back ?_ aZ ⟨pre++ [k0],_,n6,N6,NY,rfl,rfl,rfl,g6,hK.step keE_W hok0 lf6,hY⟩ ?_)))))))))))))
 ·repeat first|apply cW|exact .nil|exact lkI rfl (by omega)|rfl
 ·omega
theorem MapV.size_le {P:Program} {k:TypeId} {N:Heaplet} {b n:Nat} {D:DataW Value} (h:MapV P k N b n D):Maps.size D≤n:=by
 obtain⟨es,clock,_,hall⟩:=h
 let w:World:= { (default:World)with heap:=(Array.replicate b (Obj.map #[] 0)).push (.map es clock) }
 exact(hall w (by show((Array.replicate b (Obj.map #[] 0)).push (.map es clock))[b]? =_;rw [Array.getElem?_push,if_pos (by simp)])).size_le
def AcS.made (x:AcS):AcS:=⟨0,x.ba,[],[]⟩
section
variable {NS NF NA NT NM NW ND NP NQ NO NL NU NK : Heaplet} {t : SJ} {sp ma c : Nat} {DF : DataW Value} {l : AcR} {M : AcL} {k : List UInt8}
end
section
variable {α : Type} [Inhabited α] {enc : α → List Value} {k : Nat}
theorem flat_get (hk: ∀x,(enc x).length=k): ∀(xs:List α) (j:Nat),j<xs.length*k→(xs.flatMap enc)[j]? =some (enc (xs.getD (j/k) default))[j % k]!
 | [],j,h=>by simp at h
 |x::r,j,h=>by
  have k0:0<k:=by
   rcases Nat.eq_zero_or_pos k with h0|h0
   ·subst h0;simp at h
   ·exact h0
  rw [List.flatMap_cons]
  by_cases hj:j<k
  ·have e1:j/k=0:=Nat.div_eq_of_lt hj
   have e2:j % k=j:=Nat.mod_eq_of_lt hj
   rw [List.getElem?_append_left (by rw [hk];exact hj),e1,e2]
   have:j<(enc x).length:=by rw [hk];exact hj
   simp [this]
  ·have hj':k≤j:=Nat.le_of_not_lt hj
   have e1:j/k=(j- k)/k+1:=by rw [←Nat.sub_add_cancel hj',Nat.add_div_right _ k0,Nat.add_sub_cancel]
   have e2:j % k=(j- k) % k:=by rw [←Nat.sub_add_cancel hj',Nat.add_mod_right,Nat.add_sub_cancel]
   rw [List.getElem?_append_right (by rw [hk];exact hj'),hk,e1,e2,flat_get hk r (j- k) (by
    rw [List.length_cons,Nat.add_mul,Nat.one_mul]at h;omega)]
   simp
theorem flatK_list (hk: ∀x,(enc x).length=k) (xs:List α):(Sort.flatK enc k xs.toArray).toList=xs.flatMap enc:=by
 have hl:(xs.flatMap enc).length=xs.length*k:=by
  induction xs with
  |nil=>simp
  |cons x r ih=>rw [List.flatMap_cons,List.length_append,hk,ih,List.length_cons,Nat.add_mul,Nat.one_mul,Nat.add_comm]
 apply List.ext_getElem?
 intro j
 by_cases h:j<xs.length*k
 ·have hs:j<(Sort.flatK enc k xs.toArray).size:=by rw [Sort.size_flatK];simpa using h
  rw [flat_get hk xs j h,Array.getElem?_toList,Array.getElem?_eq_getElem hs, ←getElem!_pos,Sort.get_flatK _ _ _ _ (by simpa using h)]
  have e:xs.toArray[j/k]! =xs.getD (j/k) default:=by
   simp [List.getD_eq_getElem?_getD]
  rw [e]
 ·rw [List.getElem?_eq_none (by rw [Array.length_toList,Sort.size_flatK];simpa using Nat.le_of_not_lt h),List.getElem?_eq_none (by rw [hl];omega)]
theorem putCells_take {F cur:Array Value} {m:Nat} (hm:F.size=m) (hc:m≤cur.size):(Sort.putCells id 0 F cur).toList.take m=F.toList:=by
 apply List.ext_getElem?
 intro j
 rw [List.getElem?_take]
 split
 ·rename_i hj
  have h1:j<(Sort.putCells id 0 F cur).size:=by simp [Sort.putCells];omega
  have h2:j<F.size:=by omega
  rw [Array.getElem?_toList,Array.getElem?_toList,Array.getElem?_eq_getElem h1,Array.getElem?_eq_getElem h2]
  simp [Sort.putCells,h2]
 ·rename_i hj
  rw [List.getElem?_eq_none (by rw [Array.length_toList];omega)]
open Go.Sort in
theorem sort_fn {P:Program} {ρ:Go.Shelf.Ren} (L:Go.Proofs.SlLaysF0.n6 P ρ) {t:TypeId} (aE: ∀w,(isAgg (ρ.t 24)).run P w=.ok true w) (zE: ∀w,(Go.sizeOf (ρ.t 24)).run P w=.ok k w) (hk: ∀x,(enc x).length=k) (h1: ∀x, ∀v∈enc x,v.oneCell'=true) {cf:α→α→Int} (hO:SWO (Go.Proofs.ltOf cf)) {g:Nat} (eg: ∀args w,(callFunc g args).run P w=.ok (.enter g args) w)
 (hcmp: ∀x y w,Calls P g #[.agg (enc x).toArray,.agg (enc y).toArray] w fun e w'=>e=.returned (.int .i64 (cf x y))∧ ∃q os,w'=Sort.grow (w.drewN q) os) {NR:Heaplet} {ao:Option Addr} {cap:Nat} {xs:List α} (hr:Row NR t k ao xs.length cap (xs.flatMap enc)) (hn:xs.length<4611686018427387904):
 Fn P (ρ.f 6) #[.slice ao xs.length cap,.func (.func g) #[] #[]] [NR] [] (fun v L=> ∃(N:Heaplet) (ys:List α),v=.tuple #[]∧L= [N]∧ys.Perm xs∧ys.Pairwise (fun a b=>Go.Proofs.ltOf cf b a=false)∧Row N t k ao ys.length cap (ys.flatMap enc)):=by
 intro E w R hw _
 by_cases h0:xs.length=0
 ·rw [h0]
  refine Calls.mono (Go.Proofs.AnyF.slices_SortFunc_none L ao cap _ w) ?_
  rintro e w' ⟨rfl,rfl⟩
  exact⟨_,[NR],rfl,⟨NR,xs,rfl,rfl,.refl _,by rw [List.eq_nil_of_length_eq_zero h0];exact .nil,hr⟩,hw⟩
 ·obtain⟨hlen,hnc,hcm,⟨_,h,_⟩|⟨b,cur,rfl,hb,hcs,ht⟩⟩:=hr
  ·exact absurd h h0
  have hwb:w.heap[b]? =some (.cells cur t (0,0)):=hw.sub NR (by simp) _ _ hb
  have hblk:b<w.heap.size:=(Array.getElem?_eq_some_iff.1 hwb).1
  have hmk:xs.length*k≤cap*k:=Nat.mul_le_mul_right k hnc
  have hH:Sort.HoldsK enc k w b 0 xs.toArray:=fun j hj=>by
   have hj':j<xs.length*k:=by rw [Sort.size_flatK]at hj;simpa using hj
   have hg:(xs.flatMap enc)[j]? =some (Sort.flatK enc k xs.toArray)[j]! :=by
    rw [←flatK_list hk,Array.getElem?_toList,Array.getElem?_eq_getElem hj, ←getElem!_pos]
   rw [←ht,List.getElem?_take,if_pos hj',Array.getElem?_toList]at hg
   constructor
   ·simp [World.cell?,hwb,hg]
   ·simp [World.frozen?,hwb]
  have hC:=Go.Proofs.AnyQ.slices_SortFunc L k aE zE enc hk h1 cf hO g #[] b 0 cap xs.toArray w eg (fun m os dk _ x y=>hcmp x y _) hH hblk (by simpa using hn)
  have hsz:xs.toArray.size=xs.length:=by simp
  rw [hsz]at hC
  refine Calls.mono hC ?_
  rintro e w' ⟨rfl,d',m,os,hp,hs,rfl⟩
  have hds:d'.size=xs.length:=by rw [hp.1,hsz]
  have hperm:d'.toList.Perm xs:=by
   have:=hp.2.2
   rw [show d'.extract 0 xs.length=d' by rw [←hds];simp,show xs.toArray.extract 0 xs.length=xs.toArray by rw [←hsz];simp]at this
   simpa using this
  have hpw:d'.toList.Pairwise (fun a b=>Go.Proofs.ltOf cf b a=false):=by
   rw [List.pairwise_iff_getElem]
   intro i j hi hj hij
   have:=hs i j (Nat.zero_le _) hij (by simpa [hds]using hj)
   rw [getElem!_pos d' j (by simpa using hj),getElem!_pos d' i (by simpa using hi)]at this
   simpa using this
  have hmh:(Sort.mapBlock (Sort.ahead w m) b (Sort.putCells id 0 (Sort.flatK enc k d'))).heap[b]? =some (.cells (Sort.putCells id 0 (Sort.flatK enc k d') cur) t (0,0)):=by
   simp only [Sort.mapBlock,Sort.ahead,Array.getElem?_modify,if_pos,hwb,Option.map_some,Sort.onCells]
  have hmo: ∀j,j≠b→(Sort.mapBlock (Sort.ahead w m) b (Sort.putCells id 0 (Sort.flatK enc k d'))).heap[j]? =w.heap[j]? :=fun j hj=>by
   simp only [Sort.mapBlock,Sort.ahead,Array.getElem?_modify,if_neg (fun h:b=j=>hj h.symm)]
  have hms:(Sort.mapBlock (Sort.ahead w m) b (Sort.putCells id 0 (Sort.flatK enc k d'))).heap.size=w.heap.size:=by simp [Sort.mapBlock,Sort.ahead]
  refine⟨_,[upd NR b (.cells (Sort.putCells id 0 (Sort.flatK enc k d') cur) t (0,0))],rfl,⟨_,d'.toList,rfl,rfl,hperm,hpw,?_⟩,?_⟩
  ·have hfl:=flatK_list hk d'.toList
   have hdl:d'.toList.length=xs.length:=hperm.length_eq
   rw [Array.toArray_toList]at hfl
   refine⟨?_,by rw [hdl];exact hnc,hcm,.inr ⟨b,_,rfl,upd_self _ _ _,by simp [Sort.putCells,hcs],?_⟩⟩
   ·rw [←hfl,Array.length_toList,Sort.size_flatK,Array.length_toList]
   ·rw [putCells_take (by rw [Sort.size_flatK,Array.length_toList]) (by rw [hcs,hdl];exact hmk)]
    exact hfl
  ·refine Hp.put (L:= [R]) hw hb U U U ?_ fun j hj hlt=>?_
   ·show((Sort.mapBlock (Sort.ahead w m) b (Sort.putCells id 0 (Sort.flatK enc k d'))).heap++os)[b]? =_
    rw [Array.getElem?_append_left (by rw [hms];exact hblk)]
    exact hmh
   ·show((Sort.mapBlock (Sort.ahead w m) b (Sort.putCells id 0 (Sort.flatK enc k d'))).heap++os)[j]? =_
    rw [Array.getElem?_append_left (by rw [hms];exact hlt)]
    exact hmo j hj
end
def imp (d0:Nat) (K:Act→World→Prop):Act→World→Prop:=fun a w=>d0≤w.drawn→K a w
def drwR (w:World):Result Next→Prop
 |.ok (.value _) w'=>w.drawn≤w'.drawn
 |.ok .skip w'=>w.drawn≤w'.drawn
 |.ok _ _=>False
 |_=>True
def QuietX (P:Program) (o:Oper):Prop:= ∀ρ w,drwR w ((execOp ρ o).run P w)
theorem upon_imp {P:Program} {o:Oper} {a:Act} {d0:Nat} {w:World} {Y:Act→World→Prop} {r:Result Next} (hq:drwR w r) (hd:d0≤w.drawn) (h:o.upon P a (imp d0 Y) (fun _ _ _=>False) r):o.upon P a Y (fun _ _ _=>False) r:=by
 cases r with
 |ok x w'=>
  cases x with
  |value v=>exact h (Nat.le_trans hd hq)
  |skip=>exact h (Nat.le_trans hd hq)
  |_=>exact hq.elim
 |halt s w'=>cases s<;>exact h
section
variable {P : Program} {n : Nat} {l : List (Nat × Value)} {E : World} {L Ls : List Heaplet} {o : Oper} {X Y : Act → World → Prop} {d0 : Nat}
theorem NxF.x (s:NxF P n l E L Ls o X Y):NxF P n l E L Ls o (imp d0 X) (imp d0 Y):=fun a w v hf hw hr hy hd=>s a w v hf hw hr (hy hd)
theorem Nx.x (hq:QuietX P o) (s:Nx P n l E L o X Y):Nx P n l E L o (imp d0 X) (imp d0 Y):=fun a w hf hw hx hd=>s a w hf hw (upon_imp (hq _ _) hd hx)
theorem NxA.x (hq:QuietX P o) (s:NxA P n l E L o X Y):NxA P n l E L o (imp d0 X) (imp d0 Y):=fun a w hf hw hx hd=>s a w hf hw (by
 refine upon_imp (d0:=d0) (hq _ _) hd ?_
 exact Oper.wp_mono (fun _ _ h hd'=>⟨h.1,h.2 hd'⟩) hx)
theorem quietx_box {d:Option Nat} {ty t:TypeId} {x:Operand} {pos:_} {aft:_} {g:_} :QuietX P ⟨d,.box t x,ty,pos,aft,g⟩:=fun ρ w=>by
 simp [execOp,Instr.box,newVar,newRow,newObj,Sem.run,drwR]
end
namespace AtX
section
variable {P : Program} {n : Nat} {l l' : List (Nat × Value)} {E : World} {L L' : List Heaplet} {K K' : Act → World → Prop} {Q : Exit → Act → World → Prop} {d0 : Nat}
theorem norm (h:At n l E L (imp d0 K)):At n l E L (imp d0 (Exit.then K Q .normal)):=h
theorem thenExit {id:Nat} (h:At n l E L (imp d0 (Q (.exit id)))):At n l E L (imp d0 (Exit.then K Q (.exit id))):=h
theorem thenRet (h:At n l E L (imp d0 (Q .ret))):At n l E L (imp d0 (Exit.then K Q .ret)):=h
theorem inNorm {id:Nat} (h:At n l E L (imp d0 (Q .normal))):At n l E L (imp d0 (Exit.inBlock id Q .normal)):=h
theorem inRet {id:Nat} (h:At n l E L (imp d0 (Q .ret))):At n l E L (imp d0 (Exit.inBlock id Q .ret)):=h
theorem inHit {id:Nat} (h:At n l E L (imp d0 (Q .normal))):At n l E L (imp d0 (Exit.inBlock id Q (.exit id))):=fun a w hf hw hd=>by simpa [Exit.inBlock]using h a w hf hw hd
theorem inMiss {id id':Nat} (hn:Nat.beq id' id=false) (h:At n l E L (imp d0 (Q (.exit id')))):At n l E L (imp d0 (Exit.inBlock id Q (.exit id'))):=fun a w hf hw hd=>by
 have:id'≠id:=Nat.ne_of_beq_eq_false hn
 simpa [Exit.inBlock,this]using h a w hf hw hd
theorem seq {x y:Code} (h: ∀K,(∀ {l' E' L'},At n l' E' L' (imp d0 (y.wp P Q))→At n l' E' L' (imp d0 K))→At n l E L (imp d0 (x.wp P (Exit.then K Q)))):At n l E L (imp d0 ((Code.seq x y).wp P Q)):=
 fun a w hf hw hd=>wp_seq (h _ (fun h=>h) a w hf hw hd)
theorem block {id:Nat} {c:Code} (h:At n l E L (imp d0 (c.wp P (Exit.inBlock id Q)))):At n l E L (imp d0 ((Code.block id c).wp P Q)):=fun a w hf hw hd=>wp_block (h a w hf hw hd)
theorem skip (h:At n l E L (imp d0 (Q .normal))):At n l E L (imp d0 (Code.skip.wp P Q)):=fun a w hf hw hd=>wp_skip (h a w hf hw hd)
theorem exit {id:Nat} (h:At n l E L (imp d0 (Q (.exit id)))):At n l E L (imp d0 ((Code.exit id).wp P Q)):=fun a w hf hw hd=>wp_exit (h a w hf hw hd)
theorem ret (h:At n l E L (imp d0 (Q .ret))):At n l E L (imp d0 (Code.ret.wp P Q)):=fun a w hf hw hd=>wp_ret (h a w hf hw hd)
theorem cond {c:Operand} {x y:Code} {t:Bool} (hc:ev l c=some (.bool t)) (ht:t=true→At n l E L (imp d0 (x.wp P Q))) (hf:t=false→At n l E L (imp d0 (y.wp P Q))):At n l E L (imp d0 ((Code.cond c x y).wp P Q)):=
 fun a w h hw hd=>wp_cond_split (h.eval hc) (fun e=>ht e a w h hw hd) (fun e=>hf e a w h hw hd)
theorem condP {c:Operand} {x y:Code} {p:Prop} [Decidable p] (hc:ev l c=some (.bool (decide p))) (ht:p→At n l E L (imp d0 (x.wp P Q))) (hf: ¬p→At n l E L (imp d0 (y.wp P Q))):At n l E L (imp d0 ((Code.cond c x y).wp P Q)):=
 cond hc (fun e=>ht (of_decide_eq_true e)) (fun e=>hf (of_decide_eq_false e))
theorem region {id:Nat} {ops:List Oper} (h:At n l E L (imp d0 (wpList P ops.toArray Q ops))):At n l E L (imp d0 ((Code.region id ops.toArray false).wp P Q)):=fun a w hf hw hd=>wp_region_lit (h a w hf hw hd)
theorem opsNil {ops:Array Oper} (h:At n l E L (imp d0 (Q .normal))):At n l E L (imp d0 (wpList P ops Q [])):=h
theorem drawn {id:Nat} {ops:List Oper} (snk ord:List Nat) (hm:P.follows .mixedOrders=true) (hB:oneB .any ops.toArray snk ord=true)
 (h:At n l E L (imp d0 (wpOne P ops.toArray (fun i=>snk.contains i) Q ord))):At n l E L (imp d0 ((Code.region id ops.toArray true).wp P Q)):=fun a w hf hw hd=>wp_one snk ord hm hB (h a w.drew hf hw.drew (Nat.le_succ_of_le hd))
theorem oneNil {ops:Array Oper} {sink:Nat→Bool} (h:At n l E L (imp d0 (Q .normal))):At n l E L (imp d0 (wpOne P ops sink Q [])):=h
theorem drawnS {id:Nat} {ops:List Oper} (Lst:List Heaplet) (snk pl ord:List Nat) (hm:P.follows .mixedOrders=true) (hB:St.oneSB .any ops.toArray snk pl ord=true) (hs:Lst.Sublist L)
 (h:At n l E L (imp d0 (St.wpOne P ops.toArray (Hp E Lst) (fun i=>snk.contains i) Q ord))):At n l E L (imp d0 ((Code.region id ops.toArray true).wp P Q)):=fun a w hf hw hd=>St.wp_one snk pl ord hm hB (hw.drew.drop hs) (h a w.drew hf hw.drew (Nat.le_succ_of_le hd))
theorem sNil {ops:Array Oper} {sink:Nat→Bool} {S:World→Prop} (h:At n l E L (imp d0 (Q .normal))):At n l E L (imp d0 (St.wpOne P ops S sink Q [])):=h
def BackX (d0 n:Nat) (E:World) (I:List (Nat×Value)→List Heaplet→Nat→Prop) (m:Nat) (a:Act) (w:World):Prop:=d0≤w.drawn∧Back n E I m a w
theorem loop {c:Code} (I:List (Nat×Value)→List Heaplet→Nat→Prop) {l0:List (Nat×Value)} {L0:List Heaplet} {m0:Nat} (hl:Keeps l l0) (hL:L.Perm L0) (h0:I l0 L0 m0)
 (round: ∀l L m,I l L m→At n l E L (imp d0 (c.wp P (Exit.then (BackX d0 n E I m) Q)))):At n l E L (imp d0 ((Code.loop c).wp P Q)):=by
 intro a w hf hw hd
 have h1:BackX d0 n E I (m0+1) a w:=⟨hd,l0,L0,m0,h0,Nat.lt_succ_self _,⟨hf.defers,hf.size,fun i v hi=>hf.get i v (hl.lk i v hi)⟩,hw.perm hL⟩
 clear h0 hl hL hf hw hd
 have key: ∀m a w,BackX d0 n E I (m+1) a w→ ∀(b:Frame) (k:List Item) (cs:List Frame), ∃e a' w',Q e a' w'∧Arrives P (lone (b.at a (.code c::.inLoop c::k)) cs w) b k cs e a' w':=by
  intro m
  induction m using Nat.strongRecOn with
  |_ m ih=>
   intro a w hb b k cs
   obtain⟨hd,l,L,m',hI,hlt,hf,hw⟩:=hb
   obtain⟨e,a₁,w₁,hq,harr⟩:=round l L m' hI a w hf hw hd b (.inLoop c::k) cs
   cases e with
   |normal=>
    obtain⟨hd2,l2,L2,m2,hI2,hlt2,hf2,hw2⟩:=hq
    obtain⟨e₂,a₂,w₂,hq₂,harr₂⟩:=ih m2 (by omega) a₁ w₁ ⟨hd2,l2,L2,m2,hI2,Nat.lt_succ_self _,hf2,hw2⟩ b k cs
    exact⟨e₂,a₂,w₂,hq₂,.of_steps (Steps.trans harr (.one step_inLoop)) harr₂⟩
   |exit id=>exact⟨_,a₁,w₁,hq,.pass (x:=.inLoop c) rfl (fun _ _=>.inl (by simp)) harr⟩
   |goto l=>exact⟨_,a₁,w₁,hq,.pass (x:=.inLoop c) rfl (fun _ _=>.inl (by simp)) harr⟩
   |ret=>exact⟨_,a₁,w₁,hq,.pass (x:=.inLoop c) rfl (fun _ _=>.inl (by simp)) harr⟩
   |panic ch=>exact⟨_,a₁,w₁,hq,.pass (x:=.inLoop c) rfl (fun _ _=>.inl (by simp)) harr⟩
   |outgrown=>exact⟨_,a₁,w₁,hq,.pass (x:=.inLoop c) rfl (fun _ _=>.inl (by simp)) harr⟩
 intro b k cs
 obtain⟨e,a',w',hq,harr⟩:=key m0 a w h1 b k cs
 exact⟨e,a',w',hq,.of_steps (.one step_loop) harr⟩
theorem back {I:List (Nat×Value)→List Heaplet→Nat→Prop} {m m':Nat} (hl:Keeps l l') (hL:L.Perm L') (hI:I l' L' m') (hm:m'<m):At n l E L (imp d0 (BackX d0 n E I m)):=fun _ _ hf hw hd=>
 ⟨hd,l',L',m',hI,hm,⟨hf.defers,hf.size,fun i v hi=>hf.get i v (hl.lk i v hi)⟩,hw.perm hL⟩
end
end AtX
def FnX (P:Program) (f:FuncId) (args:Array Value) (Lr:List Heaplet) (Post:Value→Prop):Prop:=
 ∀(E w:World) (R:Heaplet),Hp E [R] w→(∀N∈Lr,N.le R)→Calls P f args w fun e w'=>w.drawn≤w'.drawn∧ ∃v,e=.returned v∧Post v∧Hp E [R] w'
def bodyPostDr (P:Program) (fn:Func) (d0:Nat) (E:World) (R:Heaplet) (Post:Value→Prop) (e:Exit) (a:Act) (w:World):Prop:=dfOf E= []→bodyPost P fn (fun e w'=>d0≤w'.drawn∧ ∃v,e=.returned v∧Post v∧Hp E [R] w') e a w
section
variable {P : Program} {f : FuncId} {Lr : List Heaplet} {Post : Value → Prop}
theorem FnX.enter {vs:List Value} {fn:Func} {c:Code} {n:Nat} (hf:P.funcs[f]? =some fn) (hb:fn.body=some c) (hn:fn.ntmps=n) (hs:Nat.ble vs.length n=true)
 (h: ∀(d0:Nat) (E:World) (R:Heaplet),(∀N∈Lr,N.le R)→At n (slots 0 vs) E [R] (imp d0 (c.wp P (bodyPostDr P fn d0 E R Post)))):FnX P f vs.toArray Lr Post:=by
 intro E w R hw hr
 refine calls_of_wp hf hb ?_
 subst hn
 refine wp_body_mono ?_ (h w.drawn (dfNo E) R hr _ w (Fr.init (by show vs.length≤_;exact Nat.le_of_ble_eq_true hs) (fun i v hi=>by have:=(slots_get vs 0 i v hi).2;simpa using this)) (hw.env U U U) (Nat.le_refl _))
 intro e a w' hq
 refine bodyPost_mono (fun e w' ⟨hd,v,h1,h2,h3⟩=>⟨hd,v,h1,h2,h3.env U U rfl⟩) (hq (dfOf_no E))
theorem AtX.ret1 {n d0:Nat} {l:List (Nat×Value)} {E:World} {L:List Heaplet} {R:Heaplet} {fn:Func} {r:ResultVar} {v:Value} (hr:fn.results= #[r]) (hv:Res P l L [r] [v]) (hs: [R].Sublist L) (hP:Post v):
 At n l E L (imp d0 (bodyPostDr P fn d0 E R Post .ret)):=fun a w hf hw hd hE=>
 ⟨hf.defers.trans hE,v,by
  have:=results_res (P:=P) (w:=w) (fn:=fn) hf hw hv hr
  simpa using this,hd,v,rfl,hP,hw.drop hs⟩
theorem hp_grown {w w':World} (h:Hp w [whole w] w') (hd:w.drawn≤w'.drawn): ∃q os,w'=Sort.grow (w.drewN q) os:=by
 have hsub:=h.sub (whole w) (by simp)
 have hlen:w.heap.size≤w'.heap.size:=by
  refine Nat.le_of_not_lt fun hlt=>?_
  have h1:w.heap[w'.heap.size]? =some w.heap[w'.heap.size]:=Array.getElem?_eq_getElem hlt
  have h2:=hsub _ _ h1
  have:w'.heap[w'.heap.size]? =some w.heap[w'.heap.size]:=h2
  simp at this
 refine⟨w'.drawn- w.drawn,(w'.heap.toList.drop w.heap.size).toArray,?_⟩
 have hh:w'.heap=w.heap++(w'.heap.toList.drop w.heap.size).toArray:=by
  apply Array.ext'
  rw [Array.toList_append]
  have ht:w'.heap.toList.take w.heap.size=w.heap.toList:=by
   apply List.ext_getElem?
   intro i
   rw [List.getElem?_take]
   split
   ·rename_i hi
    have h1:w.heap[i]? =some w.heap[i]:=Array.getElem?_eq_getElem hi
    have h2:w'.heap[i]? =some w.heap[i]:=hsub _ _ h1
    rw [Array.getElem?_toList,Array.getElem?_toList,h1,h2]
   ·rename_i hi
    rw [Array.getElem?_toList,Array.getElem?_eq_none (by omega)]
  rw [←ht,List.take_append_drop]
 cases w'
 rename_i hp tp dr os out
 have a1:os=w.os:=h.os
 have a2:tp=w.tape:=h.tape
 have a3:out=w.output:=h.output
 subst a1 a2 a3
 simp only at hh hd
 simp only [Sort.grow,World.drewN]
 rw [World.mk.injEq]
 exact⟨hh,rfl,by omega,rfl,rfl⟩
theorem FnX.grows {args:Array Value} (h:FnX P f args [] Post) (w:World):Calls P f args w fun e w'=>(∃v,e=.returned v∧Post v)∧ ∃q os,w'=Sort.grow (w.drewN q) os:=
 Calls.mono (h w w (whole w) (Hp.whole w) (by simp)) fun _ _ ⟨hd,v,he,hP,hw⟩=>⟨⟨v,he,hP⟩,hp_grown hw hd⟩
end
section
variable {P : Program} {n : Nat} {l : List (Nat × Value)} {E : World} {L Ls : List Heaplet} {X Y : Act → World → Prop} {d d0 : Nat} {ty : TypeId}
theorem op_callX {f:FuncId} {fn:Func} {xs:List Operand} {args:List Value} {ats:Array TypeId} {Lr:List Heaplet} {Post:Value→Prop} {pos:_} {aft:_} {g:_} (s:NxA P n l E L ⟨some d,.call ⟨.value (.func f),xs.toArray,ats⟩,ty,pos,aft,g⟩ X Y)
 (ha:Evs l xs args) (hc:FnX P f args.toArray Lr Post) (hfn:P.funcs[f]? =some fn) (hb:fn.body.isSome=true) (hne:(fn.name== "runtime.NumGoroutine")=false) (hr: ∀N∈Lr,N∈L) (hn:Nat.ble (d+1) n=true)
 (h: ∀v,Post v→At n ((d,v)::l) E L (imp d0 Y)):At n l E L (imp d0 X):=fun a w hf hw hd=>by
 refine s a w hf hw ?_
 unfold Oper.wp
 have hrun:(execOp a.eval ⟨some d,.call ⟨.value (.func f),xs.toArray,ats⟩,ty,pos,aft,g⟩).run P w=.ok (.enter f args.toArray) w:=by
  have hne':fn.name≠ "runtime.NumGoroutine" :=by simpa using hne
  have he:a.eval (.func f)=.func (.func f) #[] #[]:=rfl
  simp only [execOp,resolve,invoke,Sem.run_bind,Sem.run_pure,Result.andThen_ok,List.map_toArray,ha.map hf,he,Deferred.ofValue,Array.empty_append,Array.append_empty,run_call hfn hb hne']
 rw [hrun]
 have hwR:Hp E [whole w] w:=(Hp.whole w).env hw.os hw.tape hw.output
 refine Calls.mono (hc E w (whole w) hwR fun N hN=>hw.sub N (hr N hN)) ?_
 rintro e w' ⟨hd',v,rfl,hP,hw'⟩
 have hw2:Hp E ([]++ [whole w]) w':=hw'
 exact⟨hw2.agree,h v hP _ _ (hf.put (Nat.le_of_ble_eq_true hn)) (Hp.refine (L:= []) hw2 hw.sub hw.sep) (Nat.le_trans hd hd')⟩
theorem op_extX {f:FuncId} {xs:List Operand} {args:List Value} {ats:Array TypeId} {v:Value} {pos:_} {aft:_} {g:_} (s:NxA P n l E L ⟨some d,.call ⟨.value (.func f),xs.toArray,ats⟩,ty,pos,aft,g⟩ X Y)
 (ha:Evs l xs args) (hr: ∀w,Hp E L w→(callFunc f args.toArray).run P w=.ok (.value v) w) (hn:Nat.ble (d+1) n=true) (h:At n ((d,v)::l) E L (imp d0 Y)):At n l E L (imp d0 X):=fun a w hf hw hd=>by
 refine s a w hf hw ?_
 unfold Oper.wp
 have hrun:(execOp a.eval ⟨some d,.call ⟨.value (.func f),xs.toArray,ats⟩,ty,pos,aft,g⟩).run P w=.ok (.value v) w:=by
  have he:a.eval (.func f)=.func (.func f) #[] #[]:=rfl
  simp only [execOp,resolve,invoke,Sem.run_bind,Sem.run_pure,Result.andThen_ok,List.map_toArray,ha.map hf,he,Deferred.ofValue,Array.empty_append,Array.append_empty,hr w hw]
 rw [hrun]
 exact⟨fun _ _=>rfl,h _ _ (hf.put (Nat.le_of_ble_eq_true hn)) hw hd⟩
end
open Go Go.RowKit
set_option maxRecDepth 100000
theorem cmpB_lt: ∀(a b:List UInt8),(Lib.compareBytes a b<0)↔a<b
 | [],[]=>by simp [Lib.compareBytes]
 | [],_::_=>by simp [Lib.compareBytes]
 |_::_,[]=>by simp [Lib.compareBytes]
 |x::a,y::b=>by
  have ih:=cmpB_lt a b
  unfold Lib.compareBytes
  rw [List.cons_lt_cons_iff]
  by_cases h1:x<y
  ·simp [h1]
  ·by_cases h2:y<x
   ·simp [h1,h2]
    intro e
    exact absurd (e▸h2) (UInt8.lt_irrefl _)
   ·have e:x=y:=UInt8.le_antisymm (UInt8.not_lt.1 h2) (UInt8.not_lt.1 h1)
    simp [h1,h2,e,ih]
theorem run_cmpB {P:Program} {w:World} {b1 b2 n1 n2 c1 c2:Nat} {k1 k2:List UInt8} (l1:k1.length=n1) (l2:k2.length=n2) (h1: ∀i,i<n1→w.cell? ⟨b1,i,none⟩=some (.int .u8 ((k1.getD i 0).toNat:Int))) (h2: ∀i,i<n2→w.cell? ⟨b2,i,none⟩=some (.int .u8 ((k2.getD i 0).toNat:Int))):
 (Extern.BytealgCompare.compare #[.slice (some ⟨b1,0,none⟩) n1 c1,.slice (some ⟨b2,0,none⟩) n2 c2]).run P w=.ok (.int .i64 (Lib.compareBytes k1 k2)) w:=by
 have hb: ∀k:List UInt8,Lib.bytesOf (k.map fun x=>(x.toNat:Int))=k:=fun k=>by
  unfold Lib.bytesOf
  rw [List.map_map]
  conv=>rhs;rw [←List.map_id k]
  refine List.map_congr_left fun x _=>?_
  simp
 have ld: ∀(k:List UInt8) (b n:Nat),k.length=n→(∀i,i<n→w.cell? ⟨b,i,none⟩=some (.int .u8 ((k.getD i 0).toNat:Int)))→(Extern.Bytes.loadBytes ⟨b,0,none⟩ n .empty).run P w=.ok ⟨k.toArray⟩ w:=fun k b n hl hc=>by
  have hx:=Lib.run_loadBytesX (P:=P) w (k.map fun x=>(x.toNat:Int)) ⟨b,0,none⟩ .empty (fun j x hj=>by
   have hjl:j<k.length:=by have:=(List.getElem?_eq_some_iff.1 hj).1;simpa using this
   have e:(⟨b,0,none⟩:Addr).add j=⟨b,j,none⟩:=by unfold Addr.add;split<;>simp_all
   rw [e,hc j (by omega),List.getD_eq_getElem?_getD]
   rw [List.getElem?_map]at hj
   obtain⟨y,hy,rfl⟩:=Option.map_eq_some_iff.1 hj
   rw [hy];rfl)
  rw [List.length_map,hl,hb]at hx
  rw [hx]
  have he:(⟨ByteArray.empty.data++k.toArray⟩:ByteArray)=⟨k.toArray⟩:=by
   apply ByteArray.ext
   show(#[]:Array UInt8)++k.toArray=k.toArray
   simp
  rw [he]
 change Sem.run P (do pure (goInt (Extern.BytealgCompare.cmp (←Extern.Bytes.bytesOf (.slice (some ⟨b1,0,none⟩) n1 c1)) (←Extern.Bytes.bytesOf (.slice (some ⟨b2,0,none⟩) n2 c2))))) w=_
 simp only [Extern.Bytes.bytesOf,Sem.run_bind,Sem.run_pure,ld k1 b1 n1 l1 h1,ld k2 b2 n2 l2 h2,Result.andThen]
 rw [Lib.cmp_eq]
 rfl
theorem XCompare {N1 N2:Heaplet} {b1 b2 n1 n2 c1 c2:Nat} {k1 k2:List UInt8} (s1:RSl N1 1 (some ⟨b1,0,none⟩) n1 c1 (u8s k1)) (s2:RSl N2 1 (some ⟨b2,0,none⟩) n2 c2 (u8s k2)) (l1:k1.length=n1) (l2:k2.length=n2):FnX Tryz.prog 75 #[.slice (some ⟨b1,0,none⟩) n1 c1,.slice (some ⟨b2,0,none⟩) n2 c2] [N1,N2] (fun v=>v=.int .i64 (Lib.compareBytes k1 k2)):=by
 have g: ∀ {N:Heaplet} {b n c:Nat} {k:List UInt8},RSl N 1 (some ⟨b,0,none⟩) n c (u8s k)→k.length=n→ ∀i,i<n→cellOf N b i=some (.int .u8 ((k.getD i 0).toNat:Int)):=fun {N b n c k} s hl i hi=>by
  obtain⟨b',off,e,hc⟩:=s.get (j:=i) (v:=.int .u8 ((k.getD i 0).toNat:Int)) (get8 (by omega))
  cases e
  simpa using hc
 refine FnX.enter (vs:= [.slice (some ⟨b1,0,none⟩) n1 c1,.slice (some ⟨b2,0,none⟩) n2 c2]) Tryz.func75 U U U ?_
 intro d0 E R hR
 change At _ _ E [R] _
 refine AtX.seq fun K1 s_1=>AtX.region (cZ (NxF.x aN) U U (AtX.opsNil (AtX.norm (s_1 (AtX.seq fun K2 s_2=>AtX.region (aR (NxF.x aN) U U (aR (NxF.x aN) U U ?_)))))))
 refine op_extX bT (.cons U (.cons U .nil)) (fun w hw=>by
 rw [run_callFunc_extern Tryz.func98 (by kernel_rfl) (by kernel_rfl) (by kernel_rfl) (e:=Extern.BytealgCompare.compare) (by kernel_rfl),run_cmpB l1 l2 (fun i hi=>hw.cell (N:=R) (by simp) (cellOf_le (hR N1 (by simp)) (g s1 l1 i hi))) (fun i hi=>hw.cell (N:=R) (by simp) (cellOf_le (hR N2 (by simp)) (g s2 l2 i hi)))]
 rfl) rfl ?_
 refine cZ (NxF.x aN) U U (AtX.opsNil (AtX.norm (s_2 (AtX.ret ((AtX.ret1 U (.tmp U .nil) (.refl _) ?_))))))
 rfl
theorem blk8S {N:Heaplet} {b:Nat} {e:TypeId} {L:List UInt8} {k:Nat} (h:Blk N b e (u8s L)) (hk:L.length=k) (hm:k≤9223372036854775807):RSl N 1 (some ⟨b,0+0*1,none⟩) (k- 0) (k- 0) (u8s L):=by
 refine⟨by simp [u8s,hk],Nat.le_refl _,by unfold maxLen;omega,fun h0=>⟨b,0,rfl,h.rng⟩⟩
set_option maxHeartbeats 4000000 in
theorem XCmpA {k1 k2:List UInt8} (l1:k1.length=20) (l2:k2.length=20):FnX Tryz.prog 74 #[.agg (u8s k1).toArray,.agg (u8s k2).toArray] [] (fun v=>v=.int .i64 (Lib.compareBytes k1 k2)):=by
 have hl1:(u8s k1).length=20:=by rw [cY,l1]
 have hl2:(u8s k2).length=20:=by rw [cY,l2]
 refine FnX.enter (vs:= [.agg (u8s k1).toArray,.agg (u8s k2).toArray]) Tryz.func74 U U U ?_
 intro d0 E R hR
 change At _ _ E [R] _
 refine AtX.seq fun K1 s_1=>AtX.region (cU (NxA.x quietx_box bT) U U U (fun N2 b2 B2=>cU (NxA.x quietx_box bT) U U U (fun N3 b3 B3=>cZ (NxF.x aN) U U (AtX.opsNil (AtX.norm (s_1 (AtX.seq fun K2 s_2=>AtX.drawn [2] [0,1,2,3] (by kernel_rfl) (by kernel_rfl) (op_sliceA (NxF.x (cX U U U (by kernel_rfl))) ae33 U .none .none .none (by omega) (by omega) (by omega) (by simp) U (op_sliceA (NxF.x (cX U U U (by kernel_rfl))) ae33 U .none .none .none (by omega) (by omega) (by omega) (by simp) U (op_callX (nxosa U U U U) (.cons U (.cons U .nil)) (XCompare (k1:=k1) (k2:=k2) (blk8S B2 l1 (by decide)) (blk8S B3 l2 (by decide)) l1 l2) Tryz.func75 U U (by simp) U ?_))))))))))
 rintro v7 rfl
 refine cZ (NxF.x (cX U U U (by kernel_rfl))) U U (AtX.oneNil (AtX.norm (s_2 (AtX.ret ((cT (dropAt0 (AtX.ret1 U (.tmp U .nil) (.refl _) ?_))))))))
 rfl
set_option maxHeartbeats 4000000 in
theorem XCmpW {x y:Nat} (hx:x<WW) (hy:y<WW):FnX Tryz.prog 78 #[wo x,wo y] [] (fun v=>v=.int .i64 (cmpN x y)):=by
 have hlx:=length_wl x
 have hly:=length_wl y
 have hvx:=v64_wl_lt hx
 have hvy:=v64_wl_lt hy
 refine FnX.enter (vs:= [wo x,wo y]) Tryz.func78 U U U ?_
 intro d0 E R hR
 change At _ _ E [R] _
 refine AtX.seq fun K1 s_1=>AtX.region (cU (NxA.x quietx_box bT) U U U (fun N2 b2 B2=>?_))
 change Blk N2 b2 _ (u64s (wl x))at B2
 refine cU (NxA.x quietx_box bT) U U U (fun N3 b3 B3=>?_)
 change Blk N3 b3 _ (u64s (wl y))at B3
 refine cZ (NxF.x aN) U U (AtX.opsNil (AtX.norm (s_1 (AtX.seq fun K2 s_2=>AtX.seq fun K3 s_3=>AtX.region (cZ (NxF.x aN) U U (AtX.opsNil (AtX.norm (s_3 (AtX.block (bF (cH (bF (AtX.loop (fun fr_ hp_ ms_=> ∃(j:Nat),fr_= [(2,.pointer (some ⟨b2,0,none⟩)),(3,.pointer (some ⟨b3,0,none⟩)),(5,.int .i64 ((j:Int)- 1))]∧hp_= [N2,N3,R]∧j=ms_∧(j≤4)∧((wl x).drop j=(wl y).drop j)) ?_ aZ ⟨4,rfl,rfl,rfl,by omega,by rw [List.drop_of_length_le (by omega),List.drop_of_length_le (by omega)]⟩ ?_)))))))))))))
 ·repeat first|apply cW|exact .nil|exact lkI rfl (by omega)|rfl
 rintro _ _ _ ⟨j,rfl,rfl,rfl,hj,hd⟩
 refine AtX.seq fun K4 s_4=>AtX.seq fun K5 s_5=>AtX.region (aR (NxF.x aN) U U (op_geq (NxF.x aN) U U U (AtX.opsNil (AtX.norm (s_5 (AtX.condP U (fun c7=>?_) (fun c7=>?_)))))))
 ·refine AtX.skip (AtX.norm (s_4 (AtX.seq fun K6 s_6=>AtX.block (AtX.block (AtX.seq fun K7 s_7=>AtX.drawnS [N2,N3,R] [] [] [0,1,2,3,4,5,6,7] (by kernel_rfl) (by kernel_rfl) (.refl _) (aR (NxF.x (bB U U U)) U U (op_idxA (NxF.x (bB U U U)) ae36 U U (show _=(((j- 1:Nat)):Int)from by omega) (by omega) U ?_)))))))
  refine aU (NxF.x (bB U U U)) sc34 U B2 (by first|exact get64A (by omega)|rfl) cO U ?_
  refine aR (NxF.x (bB U U U)) U U (op_idxA (NxF.x (bB U U U)) ae36 U U (show _=(((j- 1:Nat)):Int)from by omega) (by omega) U ?_)
  refine aU (NxF.x (bB U U U)) sc34 U B3 (by first|exact get64A (by omega)|rfl) dG U ?_
  refine op_lss (NxF.x (bB U U U)) U U U (cZ (NxF.x (bB U U U)) U U (AtX.sNil (AtX.norm (s_7 (AtX.condP U (fun c10=>?_) (fun c10=>?_))))))
  ·refine AtX.seq fun K8 s_8=>AtX.region (cZ (NxF.x aN) U U (AtX.opsNil (AtX.norm (s_8 (AtX.ret (AtX.inRet (AtX.inRet (AtX.thenRet (AtX.thenRet (AtX.inRet (AtX.thenRet ((cT (dropAt0 (AtX.ret1 U (.tmp U .nil) (.refl _) ?_)))))))))))))))
   have hd':(wl x).drop (j- 1+1)=(wl y).drop (j- 1+1):=by rw [show j- 1+1=j by omega];exact hd
   have h:=cmp_at (by omega) (by omega) hd' (by omega)
   rw [hvx,hvy]at h
   exact by rw [cmpN_lt h]
  refine AtX.seq fun K9 s_9=>AtX.drawnS [N2,N3,R] [] [] [0,1,2,3,4,5,6,7] (by kernel_rfl) (by kernel_rfl) (.refl _) (aR (NxF.x (bB U U U)) U U (op_idxA (NxF.x (bB U U U)) ae36 U U (show _=(((j- 1:Nat)):Int)from by omega) (by omega) U ?_))
  refine aU (NxF.x (bB U U U)) sc34 U B2 (by first|exact get64A (by omega)|rfl) cO U ?_
  refine aR (NxF.x (bB U U U)) U U (op_idxA (NxF.x (bB U U U)) ae36 U U (show _=(((j- 1:Nat)):Int)from by omega) (by omega) U ?_)
  refine aU (NxF.x (bB U U U)) sc34 U B3 (by first|exact get64A (by omega)|rfl) dG U ?_
  refine op_gtr (NxF.x (bB U U U)) U U U (cZ (NxF.x (bB U U U)) U U (AtX.sNil (AtX.norm (s_9 (AtX.condP U (fun c18=>?_) (fun c18=>?_))))))
  ·refine AtX.seq fun K10 s_10=>AtX.region (cZ (NxF.x aN) U U (AtX.opsNil (AtX.norm (s_10 (AtX.ret (AtX.inRet (AtX.inRet (AtX.thenRet (AtX.thenRet (AtX.inRet (AtX.thenRet ((cT (dropAt0 (AtX.ret1 U (.tmp U .nil) (.refl _) ?_)))))))))))))))
   have hd':(wl x).drop (j- 1+1)=(wl y).drop (j- 1+1):=by rw [show j- 1+1=j by omega];exact hd
   have h:=cmp_at (by omega) (by omega) hd'.symm (by omega)
   rw [hvx,hvy]at h
   exact by rw [cmpN_gt h]
  refine AtX.skip (AtX.inNorm (AtX.inNorm (AtX.norm (s_6 (AtX.region (aR (NxF.x aN) U U (op_subI (NxF.x aN) U U (by omega) (by omega) U (cZ (NxF.x aN) U U (AtX.opsNil (AtX.norm ?_))))))))))
  refine AtX.back ?_ aZ ⟨j- 1,rfl,rfl,rfl,by omega,drop_eq_succ (z:=0) (by omega) (by omega) (UInt64.toNat_inj.1 (by omega)) (by rw [show j- 1+1=j by omega];exact hd)⟩ ?_
  ·repeat first|apply cW|exact .nil|exact lkI rfl (by omega)|rfl
  ·omega
 refine AtX.exit (AtX.thenExit (AtX.thenExit (AtX.inHit (AtX.norm (s_2 (AtX.seq fun K11 s_11=>AtX.region (cZ (NxF.x aN) U U (AtX.opsNil (AtX.norm (s_11 (AtX.ret ((cT (dropAt0 (AtX.ret1 U (.tmp U .nil) (.refl _) ?_)))))))))))))))
 have e:x=y:=by
  rw [show j=0 by omega]at hd
  exact wl_inj hx hy (by simpa using hd)
 exact by rw [e,cmpN_eq]
end Go.Proofs.YtalmjkcapecpiaaGreat
namespace Go.Proofs
open Go.Shelf
def Tryz.sortF96_ren:Go.Shelf.Ren:=⟨fun|6=>96|15=>115|14=>114|28=>139|29=>140|20=>131|21=>132|22=>133|23=>134|24=>135|25=>136|26=>137|27=>138|46=>158|47=>159|48=>160|49=>161|50=>162|57=>178|n=>n,fun|22=>95|24=>33|25=>126|3=>3|39=>178|0=>0|53=>201|55=>34|4=>4|46=>194|45=>193|50=>198|5=>5|9=>9|66=>216|70=>219|76=>233|77=>234|n=>n,fun|n=>n⟩
theorem Tryz.sortF96:Go.Proofs.SlLaysF0.n6 Tryz.prog Tryz.sortF96_ren:= {
 mixed:=by kernel_rfl
 f6:=⟨Tryz.f96.name,by decide,Tryz.func96.trans (congrArg some (by kernel_rfl))⟩
 f14:=⟨Tryz.f114.name,by decide,Tryz.func114.trans (congrArg some (by kernel_rfl))⟩
 f15:=Tryz.func115.trans (congrArg some (by kernel_rfl))
 f20:=⟨Tryz.f131.name,by decide,Tryz.func131.trans (congrArg some (by kernel_rfl))⟩
 f21:=⟨Tryz.f132.name,by decide,Tryz.func132.trans (congrArg some (by kernel_rfl))⟩
 f22:=⟨Tryz.f133.name,by decide,Tryz.func133.trans (congrArg some (by kernel_rfl))⟩
 f23:=⟨Tryz.f134.name,by decide,Tryz.func134.trans (congrArg some (by kernel_rfl))⟩
 f24:=⟨Tryz.f135.name,by decide,Tryz.func135.trans (congrArg some (by kernel_rfl))⟩
 f25:=⟨Tryz.f136.name,by decide,Tryz.func136.trans (congrArg some (by kernel_rfl))⟩
 f26:=⟨Tryz.f137.name,by decide,Tryz.func137.trans (congrArg some (by kernel_rfl))⟩
 f27:=⟨Tryz.f138.name,by decide,Tryz.func138.trans (congrArg some (by kernel_rfl))⟩
 f28:=Tryz.func139.trans (congrArg some (by kernel_rfl))
 f29:=Tryz.func140.trans (congrArg some (by kernel_rfl))
 f46:=⟨Tryz.f158.name,by decide,Tryz.func158.trans (congrArg some (by kernel_rfl))⟩
 f47:=Tryz.func159.trans (congrArg some (by kernel_rfl))
 f48:=Tryz.func160.trans (congrArg some (by kernel_rfl))
 f49:=⟨Tryz.f161.name,by decide,Tryz.func161.trans (congrArg some (by kernel_rfl))⟩
 f50:=⟨Tryz.f162.name,by decide,Tryz.func162.trans (congrArg some (by kernel_rfl))⟩
 f57:=⟨Tryz.f178.name,by decide,Tryz.func178.trans (congrArg some (by kernel_rfl))⟩
 t0:=Tryz.underlying0
 a0:=Tryz.isAgg0
 z0:=Tryz.sizeOf0
 v0:=Tryz.zeroValue0
 t3:=Tryz.underlying3
 a3:=Tryz.isAgg3
 z3:=Tryz.sizeOf3
 v3:=Tryz.zeroValue3
 t4:=Tryz.underlying4
 a4:=Tryz.isAgg4
 z4:=Tryz.sizeOf4
 v4:=Tryz.zeroValue4
 t5:=Tryz.underlying5
 a5:=Tryz.isAgg5
 z5:=Tryz.sizeOf5
 v5:=Tryz.zeroValue5
 t9:=Tryz.underlying9
 a9:=Tryz.isAgg9
 z9:=Tryz.sizeOf9
 v9:=Tryz.zeroValue9
 t22:=Tryz.underlying95
 a22:=Tryz.isAgg95
 z22:=Tryz.sizeOf95
 v22:=Tryz.zeroValue95
 t25:=Tryz.underlying126
 a25:=Tryz.isAgg126
 z25:=Tryz.sizeOf126
 v25:=Tryz.zeroValue126
 t39:=Tryz.underlying178
 a39:=Tryz.isAgg178
 z39:=Tryz.sizeOf178
 v39:=Tryz.zeroValue178
 t45:=Tryz.underlying193
 a45:=Tryz.isAgg193
 z45:=Tryz.sizeOf193
 v45:=Tryz.zeroValue193
 t46:=Tryz.underlying194
 a46:=Tryz.isAgg194
 z46:=Tryz.sizeOf194
 v46:=Tryz.zeroValue194
 t50:=Tryz.underlying198
 a50:=Tryz.isAgg198
 z50:=Tryz.sizeOf198
 v50:=Tryz.zeroValue198
 t53:=Tryz.underlying201
 a53:=Tryz.isAgg201
 z53:=Tryz.sizeOf201
 v53:=Tryz.zeroValue201
 t55:=Tryz.underlying34
 a55:=Tryz.isAgg34
 z55:=Tryz.sizeOf34
 v55:=Tryz.zeroValue34
 t66:=Tryz.underlying216
 a66:=Tryz.isAgg216
 z66:=Tryz.sizeOf216
 v66:=Tryz.zeroValue216
 t70:=Tryz.underlying219
 a70:=Tryz.isAgg219
 z70:=Tryz.sizeOf219
 v70:=Tryz.zeroValue219
 t76:=Tryz.underlying233
 a76:=Tryz.isAgg233
 z76:=Tryz.sizeOf233
 v76:=Tryz.zeroValue233
 t77:=Tryz.underlying234
 a77:=Tryz.isAgg234
 z77:=Tryz.sizeOf234
 v77:=Tryz.zeroValue234 }
def Tryz.sortF100_ren:Go.Shelf.Ren:=⟨fun|6=>100|15=>115|14=>117|28=>139|29=>140|20=>141|21=>142|22=>143|23=>144|24=>145|25=>146|26=>147|27=>148|46=>163|47=>159|48=>160|49=>164|50=>165|57=>179|n=>n,fun|22=>97|24=>36|25=>131|3=>3|39=>178|0=>0|53=>201|55=>34|4=>4|46=>194|45=>193|50=>198|5=>5|9=>9|66=>216|70=>219|76=>233|77=>234|n=>n,fun|n=>n⟩
theorem Tryz.sortF100:Go.Proofs.SlLaysF0.n6 Tryz.prog Tryz.sortF100_ren:= {
 mixed:=by kernel_rfl
 f6:=⟨Tryz.f100.name,by decide,Tryz.func100.trans (congrArg some (by kernel_rfl))⟩
 f14:=⟨Tryz.f117.name,by decide,Tryz.func117.trans (congrArg some (by kernel_rfl))⟩
 f15:=Tryz.func115.trans (congrArg some (by kernel_rfl))
 f20:=⟨Tryz.f141.name,by decide,Tryz.func141.trans (congrArg some (by kernel_rfl))⟩
 f21:=⟨Tryz.f142.name,by decide,Tryz.func142.trans (congrArg some (by kernel_rfl))⟩
 f22:=⟨Tryz.f143.name,by decide,Tryz.func143.trans (congrArg some (by kernel_rfl))⟩
 f23:=⟨Tryz.f144.name,by decide,Tryz.func144.trans (congrArg some (by kernel_rfl))⟩
 f24:=⟨Tryz.f145.name,by decide,Tryz.func145.trans (congrArg some (by kernel_rfl))⟩
 f25:=⟨Tryz.f146.name,by decide,Tryz.func146.trans (congrArg some (by kernel_rfl))⟩
 f26:=⟨Tryz.f147.name,by decide,Tryz.func147.trans (congrArg some (by kernel_rfl))⟩
 f27:=⟨Tryz.f148.name,by decide,Tryz.func148.trans (congrArg some (by kernel_rfl))⟩
 f28:=Tryz.func139.trans (congrArg some (by kernel_rfl))
 f29:=Tryz.func140.trans (congrArg some (by kernel_rfl))
 f46:=⟨Tryz.f163.name,by decide,Tryz.func163.trans (congrArg some (by kernel_rfl))⟩
 f47:=Tryz.func159.trans (congrArg some (by kernel_rfl))
 f48:=Tryz.func160.trans (congrArg some (by kernel_rfl))
 f49:=⟨Tryz.f164.name,by decide,Tryz.func164.trans (congrArg some (by kernel_rfl))⟩
 f50:=⟨Tryz.f165.name,by decide,Tryz.func165.trans (congrArg some (by kernel_rfl))⟩
 f57:=⟨Tryz.f179.name,by decide,Tryz.func179.trans (congrArg some (by kernel_rfl))⟩
 t0:=Tryz.underlying0
 a0:=Tryz.isAgg0
 z0:=Tryz.sizeOf0
 v0:=Tryz.zeroValue0
 t3:=Tryz.underlying3
 a3:=Tryz.isAgg3
 z3:=Tryz.sizeOf3
 v3:=Tryz.zeroValue3
 t4:=Tryz.underlying4
 a4:=Tryz.isAgg4
 z4:=Tryz.sizeOf4
 v4:=Tryz.zeroValue4
 t5:=Tryz.underlying5
 a5:=Tryz.isAgg5
 z5:=Tryz.sizeOf5
 v5:=Tryz.zeroValue5
 t9:=Tryz.underlying9
 a9:=Tryz.isAgg9
 z9:=Tryz.sizeOf9
 v9:=Tryz.zeroValue9
 t22:=Tryz.underlying97
 a22:=Tryz.isAgg97
 z22:=Tryz.sizeOf97
 v22:=Tryz.zeroValue97
 t25:=Tryz.underlying131
 a25:=Tryz.isAgg131
 z25:=Tryz.sizeOf131
 v25:=Tryz.zeroValue131
 t39:=Tryz.underlying178
 a39:=Tryz.isAgg178
 z39:=Tryz.sizeOf178
 v39:=Tryz.zeroValue178
 t45:=Tryz.underlying193
 a45:=Tryz.isAgg193
 z45:=Tryz.sizeOf193
 v45:=Tryz.zeroValue193
 t46:=Tryz.underlying194
 a46:=Tryz.isAgg194
 z46:=Tryz.sizeOf194
 v46:=Tryz.zeroValue194
 t50:=Tryz.underlying198
 a50:=Tryz.isAgg198
 z50:=Tryz.sizeOf198
 v50:=Tryz.zeroValue198
 t53:=Tryz.underlying201
 a53:=Tryz.isAgg201
 z53:=Tryz.sizeOf201
 v53:=Tryz.zeroValue201
 t55:=Tryz.underlying34
 a55:=Tryz.isAgg34
 z55:=Tryz.sizeOf34
 v55:=Tryz.zeroValue34
 t66:=Tryz.underlying216
 a66:=Tryz.isAgg216
 z66:=Tryz.sizeOf216
 v66:=Tryz.zeroValue216
 t70:=Tryz.underlying219
 a70:=Tryz.isAgg219
 z70:=Tryz.sizeOf219
 v70:=Tryz.zeroValue219
 t76:=Tryz.underlying233
 a76:=Tryz.isAgg233
 z76:=Tryz.sizeOf233
 v76:=Tryz.zeroValue233
 t77:=Tryz.underlying234
 a77:=Tryz.isAgg234
 z77:=Tryz.sizeOf234
 v77:=Tryz.zeroValue234 }
end Go.Proofs
