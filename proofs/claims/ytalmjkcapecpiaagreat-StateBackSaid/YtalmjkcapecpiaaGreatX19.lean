/- Several texts in one: see the remarks ahead of each part. No condition but those told there. -/
import Derived.Test.YtalmjkcapecpiaaGreatX1
import Derived.Test.YtalmjkcapecpiaaGreatX18
import Derived.Test.YtalmjkcapecpiaaGreatX9
import Derived.Test.YtalmjkcapecpiaaGreatX7
import Derived.Laws.StructEq
import Derived.Test.YtalmjkcapecpiaaGreatX11
import Derived.Test.YtalmjkcapecpiaaGreatX8
set_option linter.unusedSimpArgs false
set_option linter.unusedVariables false
namespace Go.Proofs.YtalmjkcapecpiaaGreat
open Go Go.RowKit
inductive FldW where
 |num (k:IntKind)
 |arr (n:Nat)
 |arw (n:Nat)
def isU64w (P:Program) (e:TypeId):Bool:=match P.underlying e with
 |some (.int .u64)=>true
 |_=>false
theorem isU64w_spec {P:Program} {e:TypeId} (h:isU64w P e=true):P.underlying e=some (.int .u64):=by
 unfold isU64w at h
 split at h
 ·assumption
 ·cases h
def isU8w (P:Program) (e:TypeId):Bool:=match P.underlying e with
 |some (.int .u8)=>true
 |_=>false
theorem isU8ww_spec {P:Program} {e:TypeId} (h:isU8w P e=true):P.underlying e=some (.int .u8):=by
 unfold isU8w at h
 split at h
 ·assumption
 ·cases h
def fldW (P:Program) (f:Field):Option (Nat×FldW):=match P.underlying f.type with
 |some (.int k)=>some (f.offset,.num k)
 |some (.array n e)=>if aelt P f.type=some (n,e,1)∧siz P f.type=some n∧isU8w P e=true then some (f.offset,.arr n)else if aelt P f.type=some (n,e,1)∧siz P f.type=some n∧isU64w P e=true then some (f.offset,.arw n)else none
 |_=>none
def fldsW (P:Program) (fs:List Field):Option (List (Nat×FldW)):=fs.mapM (fldW P)
def HasW (xs:List Value) (p:Nat×FldW):Prop:=match p.2 with
 |.num k=> ∃a,xs[p.1]? =some (.int k a)
 |.arr n=> ∃b:List UInt8,(xs.drop p.1).take n=u8s b∧b.length=n
 |.arw n=> ∃b:List UInt64,(xs.drop p.1).take n=u64s b∧b.length=n
theorem sizw_spec {P:Program} {t:TypeId} {n:Nat} (h:siz P t=some n): ∃i,P.info? t=some i∧i.size=n:=by
 unfold siz at h
 obtain⟨i,h1,h2⟩:=Option.map_eq_some_iff.1 h
 exact⟨i,h1,h2⟩
theorem fldw_same {P:Program} (w:World) (d:Nat) {xs:List Value} {f:Field} {p:Nat×FldW} (h:fldW P f=some p) (hx:HasW xs p): ∃v,(part f.type xs.toArray f.offset).run P w=.ok v w∧(Op.equalIn (d+2) f.type v v).run P w=.ok true w:=by
 unfold fldW at h
 split at h
 ·rename_i k hk
  cases h
  obtain⟨a,ha⟩:=hx
  refine⟨.int k a,?_,?_⟩
  ·simp [part,isAgg,Go.run_underlying hk,ha]
  ·rw [run_equalIn_int w (d+1) f.type k k a a hk];simp
 ·rename_i n e hk
  split at h
  ·rename_i hc
   obtain⟨h1,h2,h3⟩:=hc
   have h3:=isU8ww_spec h3
   cases h
   obtain⟨b,hb,hl⟩:=hx
   obtain⟨i,hi,his⟩:=sizw_spec h2
   obtain⟨_,j,hj,hjs⟩:=aelt_spec h1
   refine⟨.agg (u8s b).toArray,?_,?_⟩
   ·simp only [part,isAgg,Sem.run_bind,Go.run_underlying hk,Result.andThen_ok,Sem.run_pure,if_true,run_sizeOf hi,his]
    rw [←hb]
    simp [List.extract_eq_take_drop,Nat.add_sub_cancel_left]
   ·rw [run_equalIn_bytes8 w d f.type e n hk h3 (fun w=>by rw [run_sizeOf hj,hjs]) b b hl hl]
    simp
  ·split at h
   ·rename_i hc
    obtain⟨h1,h2,h3⟩:=hc
    have h3:=isU64w_spec h3
    cases h
    obtain⟨b,hb,hl⟩:=hx
    obtain⟨i,hi,his⟩:=sizw_spec h2
    obtain⟨_,j,hj,hjs⟩:=aelt_spec h1
    refine⟨.agg (u64s b).toArray,?_,?_⟩
    ·simp only [part,isAgg,Sem.run_bind,Go.run_underlying hk,Result.andThen_ok,Sem.run_pure,if_true,run_sizeOf hi,his]
     rw [←hb]
     simp [List.extract_eq_take_drop,Nat.add_sub_cancel_left]
    ·rw [run_equalIn_words w d f.type e n hk h3 (fun w=>by rw [run_sizeOf hj,hjs]) b b hl hl]
     simp
   ·cases h
 ·cases h
theorem eqFieldsW_self {P:Program} (w:World) (d:Nat) (xs:List Value): ∀(fs:List Field) (L:List (Nat×FldW)),fldsW P fs=some L→(∀p∈L,HasW xs p)→(Op.eqFields (d+2) xs.toArray xs.toArray fs).run P w=.ok true w:=by
 intro fs
 induction fs with
 |nil=>intro L _ _;simp [Op.eqFields]
 |cons f fs ih=>
  intro L h h2
  rw [fldsW,List.mapM_cons]at h
  simp only [bind,Option.bind_eq_some_iff,pure,Option.some.injEq]at h
  obtain⟨p,hp,L',hL',rfl⟩:=h
  have ih':=ih L' hL' fun q hq=>h2 q (List.mem_cons_of_mem _ hq)
  obtain⟨v,hv,he⟩:=fldw_same w d hp (h2 p (List.mem_cons_self ..))
  by_cases hn:f.name≠ "_"
  ·simp only [Op.eqFields,if_pos hn,Sem.run_bind,hv,he,Result.andThen_ok]
   simpa using ih'
  ·simp only [Op.eqFields,if_neg hn]
   exact ih'
theorem op_neSelfW {P:Program} {n:Nat} {l:List (Nat×Value)} {E:World} {L Ls:List Heaplet} {X Y:Act→World→Prop} {d:Nat} {t t' ty:TypeId} {x y:Operand} {xs:List Value} {pos:_} {aft:_} {g:_} {ks:List (Nat×FldW)} (s:NxF P n l E L Ls ⟨some d,.binOp .neq t x y t',ty,pos,aft,g⟩ X Y) (hg:P.eqGuardType P.depth t=false) (ht:P.underlying t=some (.struct (P.fieldsOf t))) (hp:P.stoodInHeld t=false) (hk:fldsW P (P.fieldsOf t).toList=some ks)
 (hx:ev l x=some (.agg xs.toArray)) (hy:ev l y=some (.agg xs.toArray)) (hi: ∀p∈ks,HasW xs p) (hn:Nat.ble (d+1) n=true) (h:At n ((d,.bool false)::l) E L Y):At n l E L X:=
 op_bin s hx hy (fun w=>eqGuard_agg hg w) (fun w=>by
  rw [run_neq_struct,run_equalIn_struct w 9999 t xs.toArray xs.toArray ht hp,eqFieldsW_self w 9997 xs _ ks hk hi]
  rfl) hn h
theorem op_eqPO {P:Program} {n:Nat} {l:List (Nat×Value)} {E:World} {L Ls:List Heaplet} {X Y:Act→World→Prop} {d:Nat} {t t' ty:TypeId} {x:Operand} {pos:_} {aft:_} {g:_} {ad:Option Addr} (s:NxF P n l E L Ls ⟨some d,.binOp .eql t x (.const (.pointer none)) t',ty,pos,aft,g⟩ X Y) (ht:P.underlying t=some (.pointer (P.pointee t))) (hx:ev l x=some (.pointer ad)) (hn:Nat.ble (d+1) n=true) (h:At n ((d,.bool ad.isNone)::l) E L Y):At n l E L X:=
 op_bin s hx rfl (fun w=>by simp [eqGuard]) (fun w=>by cases ad<;>simp [binOp,run_equal_pointer_nil w t _ ht]) hn h
section
variable {P : Program} {n : Nat} {l : List (Nat × Value)} {E : World} {L Ls : List Heaplet} {X Y : Act → World → Prop} {d : Nat} {t t' ty e : TypeId} {x y : Operand}
theorem op_neW8 {a b:List UInt8} {k:Nat} {pos:_} {aft:_} {g:_} (s:NxF P n l E L Ls ⟨some d,.binOp .neq t x y t',ty,pos,aft,g⟩ X Y) (ht:aelt P t=some (k,e,1)) (he:P.underlying e=some (.int .u8)) (hg:P.eqGuardType P.depth t=false) (hx:ev l x=some (.agg (u8s a).toArray)) (hy:ev l y=some (.agg (u8s b).toArray)) (ha:a.length=k) (hb:b.length=k) (hn:Nat.ble (d+1) n=true) (h:At n ((d,.bool (decide (a≠b)))::l) E L Y):At n l E L X:=by
 obtain⟨hu,i,hi,hsz⟩:=aelt_spec ht
 exact op_bin s hx hy (fun w=>eqGuard_agg hg w) (fun w=>by
  rw [run_neq_struct,run_equalIn_bytes8 w 9998 t e k hu he (fun w=>by rw [run_sizeOf hi,hsz]) a b ha hb]
  simp only [Result.andThen_ok,show(!(a==b))=decide (a≠b)from by rw [Bool.eq_iff_iff];simp]) hn h
end
section
variable {P : Program} {n : Nat} {l : List (Nat × Value)} {E : World} {L Ls : List Heaplet} {X Y : Act → World → Prop} {d : Nat} {t t' ty e : TypeId} {x y : Operand}
theorem op_neW {a b:List UInt64} {k:Nat} {pos:_} {aft:_} {g:_} (s:NxF P n l E L Ls ⟨some d,.binOp .neq t x y t',ty,pos,aft,g⟩ X Y) (ht:aelt P t=some (k,e,1)) (he:P.underlying e=some (.int .u64)) (hg:P.eqGuardType P.depth t=false) (hx:ev l x=some (.agg (u64s a).toArray)) (hy:ev l y=some (.agg (u64s b).toArray)) (ha:a.length=k) (hb:b.length=k) (hn:Nat.ble (d+1) n=true) (h:At n ((d,.bool (decide (a≠b)))::l) E L Y):At n l E L X:=by
 obtain⟨hu,i,hi,hsz⟩:=aelt_spec ht
 exact op_bin s hx hy (fun w=>eqGuard_agg hg w) (fun w=>by
  rw [run_neq_struct,run_equalIn_words w 9998 t e k hu he (fun w=>by rw [run_sizeOf hi,hsz]) a b ha hb]
  simp only [Result.andThen_ok,show(!(a==b))=decide (a≠b)from by rw [Bool.eq_iff_iff];simp]) hn h
end
set_option maxRecDepth 100000
section
variable {α : Type} {k : Nat} {f : α → List Value} {xs : List α} {i : Nat} {x : α}
theorem flat_part (hl: ∀y∈xs,(f y).length=k) (hx:xs[i]? =some x) {o:Nat} (ho:o<k):(xs.flatMap f)[i*k+o]? =(f x)[o]? :=by
 have e:=congrArg (fun l=>l[o]?) (flat_atS f hl hx)
 simp only [List.getElem?_take,if_pos ho,List.getElem?_drop]at e
 exact e
theorem flat_partA (hl: ∀y∈xs,(f y).length=k) (hx:xs[i]? =some x) {o m:Nat} (ho:o+m≤k):((xs.flatMap f).drop (i*k+o)).take m=((f x).drop o).take m:=by
 rw [←flat_atS f hl hx,List.drop_take,List.take_take,List.drop_drop,Nat.min_eq_left (by omega)]
end
theorem acP_no {k:List UInt8} (hk:k.length=20) {no:UInt64} {ba:Nat} {u v:Value} :(acP k no ba u v)[20]? =some (.int .u64 (no.toNat:Int)):=by
 have hl:(u8s k).length=20:=by rw [cY,hk]
 rw [acP,List.getElem?_append_right (by omega),hl];rfl
theorem slot_has (s:Nat×Nat): ∀p∈ [(0,FldW.arw 4),(4,FldW.arw 4)],HasW (slotC s) p:=fun p hp=>by
 simp only [List.mem_cons,List.not_mem_nil,or_false]at hp
 rcases hp with rfl|rfl
 ·exact⟨wl s.1,rfl,length_wl _⟩
 ·exact⟨wl s.2,rfl,length_wl _⟩
theorem u8s_intsS (l:List UInt8):(u8s l).all isInt=true:=by
 refine List.all_eq_true.2 fun u hu=>?_
 obtain⟨x,_,rfl⟩:=List.mem_map.1 hu
 rfl
theorem u64s_intsS (l:List UInt64):(u64s l).all isInt=true:=by
 refine List.all_eq_true.2 fun u hu=>?_
 obtain⟨x,_,rfl⟩:=List.mem_map.1 hu
 rfl
theorem okB_ne8S {P:Program} {l:List (Nat×Value)} {t t':TypeId} {x y:Operand} {a b:List UInt8} (hx:ev l x=some (.agg (u8s a).toArray)) (hy:ev l y=some (.agg (u8s b).toArray)) (hg:(!P.eqGuardType P.depth t&&intsB P t)=true):okB P l (.binOp .neq t x y t')=true:=by
 rw [Bool.and_eq_true]at hg
 simp [okB,Op.operands,floatOK,hx,hy,hg.1,hg.2,u8s_intsS]
theorem okB_ne64S {P:Program} {l:List (Nat×Value)} {t t':TypeId} {x y:Operand} {a b:List UInt64} (hx:ev l x=some (.agg (u64s a).toArray)) (hy:ev l y=some (.agg (u64s b).toArray)) (hg:(!P.eqGuardType P.depth t&&intsB P t)=true):okB P l (.binOp .neq t x y t')=true:=by
 rw [Bool.and_eq_true]at hg
 simp [okB,Op.operands,floatOK,hx,hy,hg.1,hg.2,u64s_intsS]
set_option maxHeartbeats 4000000 in
theorem FSame {Na Nb Ka Kb:Heaplet} {a b:Option Addr} {n ca cb:Nat} {ws vs:List (AcA×AcI)} (ra:RSl Na 27 a n ca (ws.flatMap accC)) (rb:RSl Nb 27 b n cb (vs.flatMap accC)) (hn:ws.length=n) (he:vs.map Prod.fst=ws.map Prod.fst) (ha: ∀p∈ws,AccIn Ka p) (hb: ∀p∈vs,AccIn Kb p):Fn Tryz.prog 11 #[.slice a n ca,.slice b n cb] [] [Na,Ka,Nb,Kb] (fun v L=>v=.bool true∧L= []):=by
 have hcp:=ra.cap63
 have hcq:=rb.cap63
 have hla: ∀y∈ws,(accC y).length=27:=fun y hy=>accC_len (ha y hy).ad
 have hlb: ∀y∈vs,(accC y).length=27:=fun y hy=>accC_len (hb y hy).ad
 have hvn:vs.length=n:=by
  have:=congrArg List.length he
  rw [List.length_map,List.length_map]at this
  omega
 refine Fn.enter (vs:= [.slice a n ca,.slice b n cb]) Tryz.func11 U U U ?_
 intro E R hR
 have ra:=ra.le (hR Na (by simp))
 have rb:=rb.le (hR Nb (by simp))
 have ha: ∀p∈ws,AccIn R p:=fun p hp=>(ha p hp).le (hR Ka (by simp))
 have hb: ∀p∈vs,AccIn R p:=fun p hp=>(hb p hp).le (hR Kb (by simp))
 change At _ _ E [R] _
 refine aH fun _ s_1=>aB (bV U U (aI (s_1 (aH fun _ s_2=>aH fun _ s_3=>aB (bC U U (dB aN se22 U U (bC U U (dB aN se22 U U (op_neq aN U U U (aI (s_3 (cD U (fun c11=>?_) (fun c11=>?_)))))))))))))
 ·exact absurd U c11
 refine cG (aS (s_2 (aH fun _ s_4=>aH fun _ s_5=>aB (bV U U (aI (s_5 (bX (At.loop (fun fr_ hp_ ms_=> ∃(i:Nat),fr_= [(0,.slice a n ca),(1,.slice b n cb),(5,.int .i64 (i:Int))]∧hp_= [R]∧n- i=ms_∧(i≤n)) ?_ aZ ⟨0,rfl,rfl,rfl,Nat.zero_le _⟩ ?_))))))))
 ·repeat first|apply cW|exact .nil|exact lkI rfl (by omega)|rfl
 rintro _ _ _ ⟨i,rfl,rfl,rfl,hi⟩
 refine aH fun _ s_6=>aH fun _ s_7=>aB (bC U U (bC U U (dB aN se22 U U (op_lss aN U U U (aI (s_7 (cD U (fun c15=>?_) (fun c15=>?_))))))))
 ·obtain⟨q,hqi⟩: ∃q,ws[i]? =some q:=⟨_,List.getElem?_eq_getElem (by omega)⟩
  obtain⟨w,ii⟩:=q
  obtain⟨jj,hqj⟩: ∃jj,vs[i]? =some (w,jj):=by
   have e:=congrArg (fun l=>l[i]?) he
   simp only [List.getElem?_map,hqi]at e
   cases hv:vs[i]? with
   |none=>rw [hv]at e;cases e
   |some v=>
    rw [hv]at e
    obtain⟨v1,v2⟩:=v
    simp only [Option.map_some,Option.some.injEq]at e
    exact⟨v2,by rw [e]⟩
  have hw:=ha _ (List.mem_of_getElem? hqi)
  have hv:=hb _ (List.mem_of_getElem? hqj)
  have had:w.ad.length=20:=hw.ad
  have hcoA:RSl R 1 ii.ca w.co.length ii.cc (u8s w.co):=hw.co
  have hcoB:RSl R 1 jj.ca w.co.length jj.cc (u8s w.co):=hv.co
  have hslA:RSl R 8 ii.sa w.sl.length ii.sc (w.sl.flatMap slotC):=hw.sl
  have hslB:RSl R 8 jj.sa w.sl.length jj.sc (w.sl.flatMap slotC):=hv.sl
  have hsA:=hslA.cap63
  have hsB:=hslB.cap63
  have hkl:=len_A (k:=w.ad) had
  have cA:(accC (w,ii))[25]? =some (.slice ii.ca w.co.length ii.cc):=accC_co had
  have cB:(accC (w,jj))[25]? =some (.slice jj.ca w.co.length jj.cc):=accC_co had
  have tA:(accC (w,ii))[26]? =some (.slice ii.sa w.sl.length ii.sc):=accC_sl had
  have tB:(accC (w,jj))[26]? =some (.slice jj.sa w.sl.length jj.sc):=accC_sl had
  have oA:(accC (w,ii))[20]? =some (.int .u64 (w.no.toNat:Int)):=acP_no had
  have oB:(accC (w,jj))[20]? =some (.int .u64 (w.no.toNat:Int)):=acP_no had
  have hia:a.isSome=true:=ra.isSome (by omega)
  have hib:b.isSome=true:=rb.isSome (by omega)
  refine cG (aS (s_6 (aH fun _ s_8=>bX (aH fun _ s_9=>aH fun _ s_10=>At.drawn [] [0,1,2,3,4,5,6,7,8,9,10,11,12,13,14,15,16,17,18,19,20,21,22,23,24,25,26,27,28,29,30,31,32,33,34,35,36,37,38,39,40,41,42,43,44,45,46,47,48,49,50,51,52,53,54,55,56,57,58,59,60,61,62,63,64,65,66] (by kernel_rfl) (by kernel_rfl) (aR (cX U U U (by kernel_rfl)) U U (aR (cX U U U (by kernel_rfl)) U U (op_idxE (cX U U U (by kernel_rfl)) se22 U U ra (show _=(((i:Nat)):Int)from by omega) (by omega) U ?_)))))))
  refine dA (cX U U U (by kernel_rfl)) fl43_0 U (by first|rfl|assumption) U ?_
  refine op_loadAggE (ds:=u8s w.ad) (cX U U U (by kernel_rfl)) ag33 U ra (by exact(flat_partA hla hqi (by decide)).trans (accC_ad had)) (by exact hkl) (by omega) (by simp) U ?_
  refine aR (cX U U U (by kernel_rfl)) U U (aR (cX U U U (by kernel_rfl)) U U (op_idxE (cX U U U (by kernel_rfl)) se22 U U rb (show _=(((i:Nat)):Int)from by omega) (by omega) U ?_))
  refine dA (cX U U U (by kernel_rfl)) fl43_0 U (by first|rfl|assumption) U ?_
  refine op_loadAggE (ds:=u8s w.ad) (cX U U U (by kernel_rfl)) ag33 U rb (by exact(flat_partA hlb hqj (by decide)).trans (accC_ad had)) (by exact hkl) (by omega) (by simp) U ?_
  refine op_neW8 (a:=w.ad) (b:=w.ad) (cX U U U (by exact okB_ne8S U U (by kernel_rfl))) ae33 Tryz.underlying5 (by kernel_rfl) U U had had U ?_
  refine aR (cX U U U (by kernel_rfl)) U U (At.partP (d:=29) U (fun g29=>?_) (fun g29=>?_))
  ·exact absurd U g29
  refine aR (nxogf U U U U U U (by kernel_rfl)) U U (aR (nxogf U U U U U U (by kernel_rfl)) U U (op_idxE (nxogf U U U U U U (by kernel_rfl)) se22 U U ra (show _=(((i:Nat)):Int)from by omega) (by omega) U ?_))
  refine dA (nxogf U U U U U U (by kernel_rfl)) fl43_1 U (by first|rfl|assumption) U ?_
  refine op_loadE (nxogf U U U U U U (by kernel_rfl)) sc34 U ra (by first|exact get8 (by omega)|exact get64 (by omega)|exact get32 (by omega)|exact(flat_part hla hqi (by decide)).trans oA) (by simp) U ?_
  refine aR (nxogf U U U U U U (by kernel_rfl)) U U (aR (nxogf U U U U U U (by kernel_rfl)) U U (op_idxE (nxogf U U U U U U (by kernel_rfl)) se22 U U rb (show _=(((i:Nat)):Int)from by omega) (by omega) U ?_))
  refine dA (nxogf U U U U U U (by kernel_rfl)) fl43_1 U (by first|rfl|assumption) U ?_
  refine op_loadE (nxogf U U U U U U (by kernel_rfl)) sc34 U rb (by first|exact get8 (by omega)|exact get64 (by omega)|exact get32 (by omega)|exact(flat_part hlb hqj (by decide)).trans oB) (by simp) U ?_
  refine op_neq (nxogf U U U U U U (by kernel_rfl)) U U U (op_pickF (cX U U U (by kernel_rfl)) U U U (aR (cX U U U (by kernel_rfl)) U U (At.partP (d:=42) U (fun g42=>?_) (fun g42=>?_))))
  ·exact absurd U g42
  refine aR (nxogf U U U U U U (by kernel_rfl)) U U (aR (nxogf U U U U U U (by kernel_rfl)) U U (op_idxE (nxogf U U U U U U (by kernel_rfl)) se22 U U ra (show _=(((i:Nat)):Int)from by omega) (by omega) U ?_))
  refine dA (nxogf U U U U U U (by kernel_rfl)) fl43_2 U (by first|rfl|assumption) U ?_
  refine op_loadAggE (ds:=u64s (wl w.ba)) (nxogf U U U U U U (by kernel_rfl)) ag36 U ra (by exact(flat_partA hla hqi (by decide)).trans (accC_ba had)) (by exact bQ _) (by omega) (by simp) U ?_
  refine aR (nxogf U U U U U U (by kernel_rfl)) U U (aR (nxogf U U U U U U (by kernel_rfl)) U U (op_idxE (nxogf U U U U U U (by kernel_rfl)) se22 U U rb (show _=(((i:Nat)):Int)from by omega) (by omega) U ?_))
  refine dA (nxogf U U U U U U (by kernel_rfl)) fl43_2 U (by first|rfl|assumption) U ?_
  refine op_loadAggE (ds:=u64s (wl w.ba)) (nxogf U U U U U U (by kernel_rfl)) ag36 U rb (by exact(flat_partA hlb hqj (by decide)).trans (accC_ba had)) (by exact bQ _) (by omega) (by simp) U ?_
  refine op_neW (a:=wl w.ba) (b:=wl w.ba) (nxogf U U U U U U (by exact okB_ne64S U U (by kernel_rfl))) ae36 Tryz.underlying34 (by kernel_rfl) U U U U U ?_
  refine op_pickF (cX U U U (by kernel_rfl)) U U U (aR (cX U U U (by kernel_rfl)) U U (At.partP (d:=55) U (fun g55=>?_) (fun g55=>?_)))
  ·exact absurd U g55
  refine aR (nxogf U U U U U U (by kernel_rfl)) U U (aR (nxogf U U U U U U (by kernel_rfl)) U U (op_idxE (nxogf U U U U U U (by kernel_rfl)) se22 U U ra (show _=(((i:Nat)):Int)from by omega) (by omega) U ?_))
  refine dA (nxogf U U U U U U (by kernel_rfl)) fl43_3 U (by first|rfl|assumption) U ?_
  refine op_loadE (nxogf U U U U U U (by kernel_rfl)) sc37 U ra (by first|exact get8 (by omega)|exact get64 (by omega)|exact get32 (by omega)|exact(flat_part hla hqi (by decide)).trans cA) (by simp) U ?_
  refine op_str (nxogf U U U U U U (by kernel_rfl)) Tryz.underlying37 Tryz.underlying5 Tryz.underlying9 U (by assumption) (by simp) U ?_
  refine aR (nxogf U U U U U U (by kernel_rfl)) U U (aR (nxogf U U U U U U (by kernel_rfl)) U U (op_idxE (nxogf U U U U U U (by kernel_rfl)) se22 U U rb (show _=(((i:Nat)):Int)from by omega) (by omega) U ?_))
  refine dA (nxogf U U U U U U (by kernel_rfl)) fl43_3 U (by first|rfl|assumption) U ?_
  refine op_loadE (nxogf U U U U U U (by kernel_rfl)) sc37 U rb (by first|exact get8 (by omega)|exact get64 (by omega)|exact get32 (by omega)|exact(flat_part hlb hqj (by decide)).trans cB) (by simp) U ?_
  refine op_str (nxogf U U U U U U (by kernel_rfl)) Tryz.underlying37 Tryz.underlying5 Tryz.underlying9 U (by assumption) (by simp) U ?_
  refine op_neS (nxogf U U U U U U (by kernel_rfl)) U U U (op_pickF (cX U U U (by kernel_rfl)) U U U (aR (cX U U U (by kernel_rfl)) U U (At.partP (d:=70) U (fun g70=>?_) (fun g70=>?_))))
  ·exact absurd U g70
  refine aR (nxogf U U U U U U (by kernel_rfl)) U U (aR (nxogf U U U U U U (by kernel_rfl)) U U (op_idxE (nxogf U U U U U U (by kernel_rfl)) se22 U U ra (show _=(((i:Nat)):Int)from by omega) (by omega) U ?_))
  refine dA (nxogf U U U U U U (by kernel_rfl)) fl43_4 U (by first|rfl|assumption) U ?_
  refine op_loadE (nxogf U U U U U U (by kernel_rfl)) sc41 U ra (by first|exact get8 (by omega)|exact get64 (by omega)|exact get32 (by omega)|exact(flat_part hla hqi (by decide)).trans tA) (by simp) U ?_
  refine dB (nxogf U U U U U U (by kernel_rfl)) se41 U U (aR (nxogf U U U U U U (by kernel_rfl)) U U (aR (nxogf U U U U U U (by kernel_rfl)) U U (op_idxE (nxogf U U U U U U (by kernel_rfl)) se22 U U rb (show _=(((i:Nat)):Int)from by omega) (by omega) U ?_)))
  refine dA (nxogf U U U U U U (by kernel_rfl)) fl43_4 U (by first|rfl|assumption) U ?_
  refine op_loadE (nxogf U U U U U U (by kernel_rfl)) sc41 U rb (by first|exact get8 (by omega)|exact get64 (by omega)|exact get32 (by omega)|exact(flat_part hlb hqj (by decide)).trans tB) (by simp) U ?_
  refine dB (nxogf U U U U U U (by kernel_rfl)) se41 U U (op_neq (nxogf U U U U U U (by kernel_rfl)) U U U (op_pickF (cX U U U (by kernel_rfl)) U U U (At.oneNil (aS (s_10 (cD U (fun c84=>?_) (fun c84=>?_)))))))
  ·exact absurd U c84
  refine cG (aS (s_9 (aH fun _ s_11=>aB (bV U U (aI (s_11 (bX (At.loop (fun fr_ hp_ ms_=> ∃(k:Nat),fr_= [(0,.slice a n ca),(1,.slice b n cb),(5,.int .i64 (i:Int)),(6,.int .i64 (k:Int))]∧hp_= [R]∧w.sl.length- k=ms_∧(k≤w.sl.length)) ?_ aZ ⟨0,rfl,rfl,rfl,Nat.zero_le _⟩ ?_))))))))
  ·repeat first|apply cW|exact .nil|exact lkI rfl (by omega)|rfl
  rintro _ _ _ ⟨k,rfl,rfl,rfl,hk⟩
  refine aH fun _ s_12=>aH fun _ s_13=>aB (bC U U (bC U U (bC U U (op_idxE aN se22 U U ra (show _=(((i:Nat)):Int)from by omega) (by omega) U ?_))))
  refine dA aN fl43_4 U (by first|rfl|assumption) U ?_
  refine op_loadE aN sc41 U ra (by first|exact get8 (by omega)|exact get64 (by omega)|exact get32 (by omega)|exact(flat_part hla hqi (by decide)).trans tA) (by simp) U ?_
  refine dB aN se41 U U (op_lss aN U U U (aI (s_13 (cD U (fun c92=>?_) (fun c92=>?_)))))
  ·obtain⟨s,hsk⟩: ∃s,w.sl[k]? =some s:=⟨_,List.getElem?_eq_getElem (by omega)⟩
   refine cG (aS (s_12 (aH fun _ s_14=>bX (aH fun _ s_15=>cS [R] [] [] [0,1,2,3,4,5,6,7,8,9,10,11,12,13,14,15,16] (by kernel_rfl) (by kernel_rfl) (.refl _) (aR (bB U U U) U U (aR (bB U U U) U U (op_idxE (bB U U U) se22 U U ra (show _=(((i:Nat)):Int)from by omega) (by omega) U ?_)))))))
   refine dA (bB U U U) fl43_4 U (by first|rfl|assumption) U ?_
   refine op_loadE (bB U U U) sc41 U ra (by first|exact get8 (by omega)|exact get64 (by omega)|exact get32 (by omega)|exact(flat_part hla hqi (by decide)).trans tA) (by simp) U ?_
   refine aR (bB U U U) U U (op_idxE (bB U U U) se41 U U hslA (show _=(((k:Nat)):Int)from by omega) (by omega) U ?_)
   refine op_loadAggE (ds:=slotC s) (bB U U U) ag52 U hslA (by exact flat_atS slotC (fun y _=>slotC_len y) hsk) (by exact slotC_len s) (by omega) (by simp) U ?_
   refine aR (bB U U U) U U (aR (bB U U U) U U (op_idxE (bB U U U) se22 U U rb (show _=(((i:Nat)):Int)from by omega) (by omega) U ?_))
   refine dA (bB U U U) fl43_4 U (by first|rfl|assumption) U ?_
   refine op_loadE (bB U U U) sc41 U rb (by first|exact get8 (by omega)|exact get64 (by omega)|exact get32 (by omega)|exact(flat_part hlb hqj (by decide)).trans tB) (by simp) U ?_
   refine aR (bB U U U) U U (op_idxE (bB U U U) se41 U U hslB (show _=(((k:Nat)):Int)from by omega) (by omega) U ?_)
   refine op_loadAggE (ds:=slotC s) (bB U U U) ag52 U hslB (by exact flat_atS slotC (fun y _=>slotC_len y) hsk) (by exact slotC_len s) (by omega) (by simp) U ?_
   refine op_neSelfW (bB U U U) (by kernel_rfl) (by kernel_rfl) (by kernel_rfl) (ks:=_) (by kernel_rfl) U U (slot_has s) U (dH (aS (s_15 (At.condF U (cG (cJ (aS (s_14 (aB (bC U U (dD aN U U (by omega) (by omega) U (bV U U (aI (At.back ?_ aZ ⟨k+1,rfl,rfl,rfl,by omega⟩ ?_))))))))))))))
   ·repeat first|apply cW|exact .nil|exact lkI rfl (by omega)|rfl
   ·omega
  refine At.exit (bD (bD (dE (cJ (aS (s_8 (aB (bC U U (dD aN U U (by omega) (by omega) U (bV U U (aI (At.back ?_ aZ ⟨i+1,rfl,rfl,rfl,by omega⟩ ?_))))))))))))
  ·repeat first|apply cW|exact .nil|exact lkI rfl (by omega)|rfl
  ·omega
 refine At.exit (bD (bD (dE (aS (s_4 (aH fun _ s_16=>aB (bV U U (aI (s_16 (cK ((cF (L1:= []) U (.tmp U .nil) (.refl _) aZ ?_))))))))))))
 exact⟨rfl,rfl⟩
theorem AccRd.mono {K:Heaplet} {c d:Nat} {p:AcA×AcI} (h:AccRd K c p) (hl:c≤d):AccRd K d p:=⟨h.ad,h.ba,h.co,h.cl,h.sl,Nat.le_trans h.ln hl,h.kv⟩
section
variable {α : Type}
end
theorem AcEq.symm {l m:AcL} (h:AcEq l m):AcEq m l:=fun a=>by
 have:=h a
 revert this
 cases getA a l<;>cases getA a m<;>intro h
 ·trivial
 ·exact h
 ·exact h
 ·exact⟨h.1.symm,h.2.1.symm,h.2.2.1.symm,fun k=>(h.2.2.2 k).symm⟩
theorem AcEq.trans {l m o:AcL} (h:AcEq l m) (k:AcEq m o):AcEq l o:=fun a=>by
 have h:=h a
 have k:=k a
 revert h k
 cases getA a l<;>cases getA a m<;>cases getA a o<;>intro h k
 ·trivial
 ·exact k
 ·exact h.elim
 ·exact h
 ·exact h.elim
 ·exact h.elim
 ·exact k.elim
 ·exact⟨h.1.trans k.1,h.2.1.trans k.2.1,h.2.2.1.trans k.2.2.1,fun j=>(h.2.2.2 j).trans (k.2.2.2 j)⟩
def cloV (f:FuncId) (bs:List Nat):Value:=.func (.func f) #[] (bs.map fun b=>Value.pointer (some ⟨b,0,none⟩)).toArray
section
variable {NS NU Nm : Heaplet} {sp ma mt mm mw md ws tr og : Nat} {rf : UInt64} {lg mk : Value} {tl : Int} {ua : Option Addr} {un uc : Nat} {us : List Value} {f : FuncId} {caps : Array Value}
set_option maxHeartbeats 1000000 in
theorem FUndoableX (BS:Blk NS sp 85 (stK ma mt mm mw md ws tr og rf lg (.slice ua un uc) mk tl)) (r:Row NU 1 1 ua un uc us) (hu:un≤1099511627776):Fn Tryz.prog 51 #[.pointer (some ⟨sp,0,none⟩),.func (.func f) #[] caps] [NS,NU] [] (fun v L=> ∃(NS NU:Heaplet) (a:Option Addr) (c:Nat),v=.tuple #[]∧L= [NS,NU]∧Blk NS sp 85 (stK ma mt mm mw md ws tr og rf lg (.slice a (un+1) c) mk tl)∧Row NU 1 1 a (un+1) c (us++ [.func (.func f) #[] caps])):=by
 refine Fn.enter (vs:= [.pointer (some ⟨sp,0,none⟩),.func (.func f) #[] caps]) Tryz.func51 U U U ?_
 intro E R hR
 change At _ _ E [NS,NU,R] _
 refine aB (bC U U (bC U U (bH aN U U (aJ aN fl85_1 U U (aJ aN fl83_9 U U (aU aN sc80 U BS U cO U ?_))))))
 refine bC U U (op_lit bT Tryz.underlying80 ze1 sz1 (.cons U .nil) U U (by simp [Value.cells]) U U U (fun N11 a11 r11=>?_))
 simp only [flatV,List.flatMap_cons,List.flatMap_nil,Value.cells,List.append_nil,List.cons_append,List.nil_append]at r11
 have s11:=r11.rsl
 refine op_append nxQ Tryz.underlying80 Tryz.underlying80 te1 U U r (by assumption) (by simp) (fun u hu=>by rw [List.mem_singleton.1 hu];rfl) (by omega) (by omega) sel2 U (fun N12 a12 p12 r12=>?_)
 have s12:=r12.rsl
 refine bH aN U U (aJ aN fl85_1 U U (aJ aN fl83_9 U U (bP nxQ sz80 U U U U U BS (by exact show 0+1+9+1≤13 by decide) sel2 (fun NS BS=>?_))))
 rw [st_un]at BS
 refine cE (dropAt2 (cQ (L1:= [NS,N12]) U .nil U (.refl _) aZ ?_))
 exact⟨NS,N12,a12,p12,rfl,rfl,BS,r12⟩
structure CapU (J:Heaplet) (tm tv:TypeId) (b9 b8 b5 b6 mb:Nat) (k:List UInt8) (hd:Bool) (cs:List Value):Prop where
 h:Blk J b9 4 [.bool hd]
 o:Blk J b8 tv cs
 m:Blk J b5 tm [.map (some mb)]
 k:Blk J b6 33 (u8s k)
theorem CapU.le {J K:Heaplet} {tm tv:TypeId} {b9 b8 b5 b6 mb:Nat} {k:List UInt8} {hd:Bool} {cs:List Value} (h:CapU J tm tv b9 b8 b5 b6 mb k hd cs) (hl:J.le K):CapU K tm tv b9 b8 b5 b6 mb k hd cs:=⟨h.h.le hl,h.o.le hl,h.m.le hl,h.k.le hl⟩
section
variable {D : DataW Value} {mb c : Nat} {k : List UInt8} {l : List (List UInt8 × Unit)}
set_option maxHeartbeats 1000000 in
theorem FPutAUX (BS:Blk NS sp 85 (stK ma mt mm mw md ws tr og rf lg (.slice ua un uc) mk tl)) (r:Row NU 1 1 ua un uc us) (hu:un≤1099511627776) (hM:MapV Tryz.prog 33 Nm mb c D) (hA:MapA keyA okAd unitV D l) (hk:okAd k) (hc:c≤1099511627776):Fn Tryz.prog 67 #[.pointer (some ⟨sp,0,none⟩),.map (some mb),.agg (u8s k).toArray,.agg #[]] [NS,Nm,NU] [] (fun v L=> ∃(NS Nm NU NJ:Heaplet) (a:Option Addr) (c':Nat) (D:DataW Value) (b9 b8 b5 b6:Nat),v=.tuple #[]∧L= [NS,Nm,NU,NJ]∧Blk NS sp 85 (stK ma mt mm mw md ws tr og rf lg (.slice a (un+1) c') mk tl)∧Row NU 1 1 a (un+1) c' (us++ [cloV 92 [b9,b8,b5,b6]])∧MapV Tryz.prog 33 Nm mb (c+1) D∧MapA keyA okAd unitV D (putA k () l)∧CapU NJ 75 115 b9 b8 b5 b6 mb k (getA k l).isSome []):=by
 have hul:(u8s k).length=20:=by rw [cY,hk]
 have hlk:D.atKey (keyA k) (.held (.agg #[]))=.held (.agg #[]):=by rw [hA.look hk];cases getA k l<;>rfl
 have hh:=hA.has k hk
 refine Fn.enter (vs:= [.pointer (some ⟨sp,0,none⟩),.map (some mb),.agg (u8s k).toArray,.agg #[]]) Tryz.func67 U U U ?_
 intro E R hR
 change At _ _ E [NS,Nm,NU,R] _
 refine aH fun _ s_1=>aB (cU bT U U U (fun N5 b5 B5=>cU bT U U U (fun N6 b6 B6=>cU bT U U U (fun N7 b7 B7=>aI (s_1 (aH fun _ s_2=>aB (aU aN sc75 U B5 U mem2 U ?_)))))))
 refine aK (ds:=u8s k) aN ag33 U B6 (by exact bJ hul) (by exact hul) dG U ?_
 refine op_lookupV bT kd33 Tryz.underlying75 (fun _=>by first|rfl|kernel_rfl) U U hM (keyA_spec hk) (hlk) (by simp) U ?_
 refine bC U U (bW aN U U U (bW aN U U U (bZ bT ze115 U (fun N8 b8 B8=>?_))))
 change Blk N8 b8 _ []at B8
 refine bZ bT ze4 U (fun N9 b9 B9=>?_)
 change Blk N9 b9 _ [.bool false]at B9
 refine bP nxQ sz115 U U U U U B8 (by simp) sel1 (fun N8 B8=>?_)
 simp only [setL,List.set]at B8
 refine bP nxQ sz4 U U U U U B9 (by simp) sel1 (fun N9 B9=>?_)
 simp only [setL,List.set]at B9
 refine aI (s_2 (aH fun _ s_3=>aB (aU aN sc75 U B5 U mem4 U ?_)))
 refine aK (ds:=u8s k) aN ag33 U B6 (by exact bJ hul) (by exact hul) mem3 U ?_
 refine aK (ds:= []) aN ag115 U B7 U U mem2 U ?_
 refine op_mapUpdateV nxQ kd33 Tryz.underlying75 U U U hM ((by unfold maxLen;omega)) (keyA_spec hk) sel6 (fun Nm hM ho=>?_)
 refine aI (s_3 (aB (bC U U (op_mkF aN .nil (.cons U (.cons U (.cons U (.cons U .nil)))) U (a6 (aY (aY (aY (aY (aY (aY (a6 (a6 (cR nxQ (.cons U (.cons U .nil)) (FUndoableX BS r hu) (F:= [Nm,N9,N8,N7,N6,N5,R]) Tryz.func51 U U aZ (by simp) U ?_))))))))))))))
 rintro _ _ ⟨NS,NU,a21,c21,rfl,rfl,BS,r21⟩
 show At _ _ _ [NS,NU,Nm,N9,N8,N7,N6,N5,R] _
 skip
 refine cE (a6 (a6 (a6 (a6 (aY (aY (aY (a6 (a6 (cV (fun Qa Qa1 Qa2=>bM (bS (bS (bS (bS (bS (aY (bM (cV (fun Qb Qb1 Qb2=>aY (aY (aY (aY (aY (bS (aY (cV (fun Q Q1 Q2=>dropAt4 (bA (cH (bI (bA (bA (cQ (L1:= [NS,Nm,NU,Q]) U .nil U (.refl _) aZ ?_))))))))))))))))))))))))))))))))))
 exact⟨NS,Nm,NU,Q,a21,c21,_,b9,b8,b5,b6,rfl,rfl,BS,r21,hM,hA.put keE_A hk (),⟨by rw [←hh];exact B9.le (Heaplet.le_trans Qa1 Q1),B8.le (Heaplet.le_trans Qa2 Q1),B5.le (Heaplet.le_trans Qb1 Q2),B6.le (Heaplet.le_trans Qb2 Q2)⟩⟩
end
section
variable {D : DataW Value} {mb c : Nat} {k : List UInt8} {l : AcR}
set_option maxHeartbeats 1000000 in
theorem FPutAPX (v:Nat×AcS) (BS:Blk NS sp 85 (stK ma mt mm mw md ws tr og rf lg (.slice ua un uc) mk tl)) (r:Row NU 1 1 ua un uc us) (hu:un≤1099511627776) (hM:MapV Tryz.prog 33 Nm mb c D) (hA:MapA keyA okAd ptrV D l) (hk:okAd k) (hc:c≤1099511627776):Fn Tryz.prog 66 #[.pointer (some ⟨sp,0,none⟩),.map (some mb),.agg (u8s k).toArray,ptrV v] [NS,Nm,NU] [] (fun w L=> ∃(NS Nm NU NJ:Heaplet) (a:Option Addr) (c':Nat) (D:DataW Value) (b9 b8 b5 b6:Nat),w=.tuple #[]∧L= [NS,Nm,NU,NJ]∧Blk NS sp 85 (stK ma mt mm mw md ws tr og rf lg (.slice a (un+1) c') mk tl)∧Row NU 1 1 a (un+1) c' (us++ [cloV 91 [b9,b8,b5,b6]])∧MapV Tryz.prog 33 Nm mb (c+1) D∧MapA keyA okAd ptrV D (putA k v l)∧CapU NJ 74 67 b9 b8 b5 b6 mb k (getA k l).isSome [.pointer ((getA k l).map fun v=>⟨v.1,0,none⟩)]):=by
 have hul:(u8s k).length=20:=by rw [cY,hk]
 have hlk:=ptr_look hA hk
 have hh:=hA.has k hk
 refine Fn.enter (vs:= [.pointer (some ⟨sp,0,none⟩),.map (some mb),.agg (u8s k).toArray,.pointer (some ⟨v.1,0,none⟩)]) Tryz.func66 U U U ?_
 intro E R hR
 change At _ _ E [NS,Nm,NU,R] _
 refine aH fun _ s_1=>aB (cU bT U U U (fun N5 b5 B5=>cU bT U U U (fun N6 b6 B6=>aI (s_1 (aH fun _ s_2=>aB (aU aN sc74 U B5 U dG U ?_))))))
 refine aK (ds:=(u8s k)) aN ag33 U B6 (by exact bJ hul) (by exact hul) cO U ?_
 refine op_lookupV bT kd33 Tryz.underlying74 (fun _=>by first|rfl|kernel_rfl) U U hM (keyA_spec hk) (hlk) (by simp) U ?_
 refine bC U U (bW aN U U U (bW aN U U U (bZ bT ze67 U (fun N8 b8 B8=>?_))))
 change Blk N8 b8 _ [.pointer none]at B8
 refine bZ bT ze4 U (fun N9 b9 B9=>?_)
 change Blk N9 b9 _ [.bool false]at B9
 refine bP nxQ sz67 U U U U U B8 (by simp) sel1 (fun N8 B8=>?_)
 simp only [setL,List.set]at B8
 refine bP nxQ sz4 U U U U U B9 (by simp) sel1 (fun N9 B9=>?_)
 simp only [setL,List.set]at B9
 refine aI (s_2 (aH fun _ s_3=>aB (aU aN sc74 U B5 U mem3 U ?_)))
 refine aK (ds:=(u8s k)) aN ag33 U B6 (by exact bJ hul) (by exact hul) mem2 U ?_
 refine bC U U ?_
 refine op_mapUpdateV nxQ kd33 Tryz.underlying74 U U U hM ((by unfold maxLen;omega)) (keyA_spec hk) sel5 (fun Nm hM ho=>?_)
 refine aI (s_3 (aB (bC U U (op_mkF aN .nil (.cons U (.cons U (.cons U (.cons U .nil)))) U (bM (bS (bS (bS (bS (bS (bM (bM (cR nxQ (.cons U (.cons U .nil)) (FUndoableX BS r hu) (F:= [Nm,N9,N8,N6,N5,R]) Tryz.func51 U U aZ (by simp) U ?_)))))))))))))
 rintro _ _ ⟨NS,NU,a21,c21,rfl,rfl,BS,r21⟩
 show At _ _ _ [NS,NU,Nm,N9,N8,N6,N5,R] _
 skip
 refine cE (bM (bM (bM (bS (bS (bS (bM (bM (cV (fun Qa Qa1 Qa2=>aY (bA (bA (bA (bA (bS (aY (cV (fun Qb Qb1 Qb2=>bS (bS (bS (bS (bA (bS (cV (fun Q Q1 Q2=>bA (cH (bI (bA (bA (cQ (L1:= [NS,Nm,NU,Q]) U .nil U (.refl _) aZ ?_))))))))))))))))))))))))))))))
 exact⟨NS,Nm,NU,Q,a21,c21,_,b9,b8,b5,b6,rfl,rfl,BS,r21,hM,hA.put keE_A hk v,⟨by rw [←hh];exact B9.le (Heaplet.le_trans Qa1 Q1),B8.le (Heaplet.le_trans Qa2 Q1),B5.le (Heaplet.le_trans Qb1 Q2),B6.le (Heaplet.le_trans Qb2 Q2)⟩⟩
theorem FUndoAP {J:Heaplet} {b9 b8 b5 b6:Nat} {cs:List Value} (hC:CapU J 74 67 b9 b8 b5 b6 mb k false cs) (hM:MapV Tryz.prog 33 Nm mb c D) (hA:MapA keyA okAd ptrV D l) (hk:okAd k):Fn Tryz.prog 91 #[.pointer (some ⟨b9,0,none⟩),.pointer (some ⟨b8,0,none⟩),.pointer (some ⟨b5,0,none⟩),.pointer (some ⟨b6,0,none⟩)] [Nm] [J] (fun w L=> ∃(Nm:Heaplet) (D:DataW Value),w=.tuple #[]∧L= [Nm]∧MapV Tryz.prog 33 Nm mb c D∧MapA keyA okAd ptrV D (delA k l)):=by
 have hul:(u8s k).length=20:=by rw [cY,hk]
 refine Fn.enter (vs:= [.pointer (some ⟨b9,0,none⟩),.pointer (some ⟨b8,0,none⟩),.pointer (some ⟨b5,0,none⟩),.pointer (some ⟨b6,0,none⟩)]) Tryz.func91 U U U ?_
 intro E R hR
 have hC:=hC.le (hR J (by simp))
 have BH:=hC.h
 have BM:=hC.m
 have BK:=hC.k
 change At _ _ E [Nm,R] _
 refine aH fun _ s_1=>aB (aU aN sc4 U BH U dG U ?_)
 refine aI (s_1 (At.condF U (aB (aU aN sc74 U BM U dG U ?_))))
 refine aK (ds:=u8s k) aN ag33 U BK (by exact bJ hul) (by exact hul) dG U ?_
 refine op_deleteV nxQ kd33 Tryz.underlying74 U U hM (keyA_spec hk) sel0 (fun Nm hM ho=>cE (cQ (L1:= [Nm]) U .nil U (.refl _) aZ ?_))
 exact⟨Nm,_,rfl,rfl,hM,hA.del keE_A hk⟩
end
section
variable {D : DataW Value} {mb c : Nat} {k : List UInt8} {l : List (List UInt8 × Unit)}
theorem FUndoAU {J:Heaplet} {b9 b8 b5 b6:Nat} {cs:List Value} (hC:CapU J 75 115 b9 b8 b5 b6 mb k false cs) (hM:MapV Tryz.prog 33 Nm mb c D) (hA:MapA keyA okAd unitV D l) (hk:okAd k):Fn Tryz.prog 92 #[.pointer (some ⟨b9,0,none⟩),.pointer (some ⟨b8,0,none⟩),.pointer (some ⟨b5,0,none⟩),.pointer (some ⟨b6,0,none⟩)] [Nm] [J] (fun w L=> ∃(Nm:Heaplet) (D:DataW Value),w=.tuple #[]∧L= [Nm]∧MapV Tryz.prog 33 Nm mb c D∧MapA keyA okAd unitV D (delA k l)):=by
 have hul:(u8s k).length=20:=by rw [cY,hk]
 refine Fn.enter (vs:= [.pointer (some ⟨b9,0,none⟩),.pointer (some ⟨b8,0,none⟩),.pointer (some ⟨b5,0,none⟩),.pointer (some ⟨b6,0,none⟩)]) Tryz.func92 U U U ?_
 intro E R hR
 have hC:=hC.le (hR J (by simp))
 have BH:=hC.h
 have BM:=hC.m
 have BK:=hC.k
 change At _ _ E [Nm,R] _
 refine aH fun _ s_1=>aB (aU aN sc4 U BH U dG U ?_)
 refine aI (s_1 (At.condF U (aB (aU aN sc75 U BM U dG U ?_))))
 refine aK (ds:=u8s k) aN ag33 U BK (by exact bJ hul) (by exact hul) dG U ?_
 refine op_deleteV nxQ kd33 Tryz.underlying75 U U hM (keyA_spec hk) sel0 (fun Nm hM ho=>cE (cQ (L1:= [Nm]) U .nil U (.refl _) aZ ?_))
 exact⟨Nm,_,rfl,rfl,hM,hA.del keE_A hk⟩
end
end
section
variable {NS NU NT NF : Heaplet} {sp ma mt mm mw md ws tr og : Nat} {rf : UInt64} {lg mk : Value} {tl : Int} {ua : Option Addr} {un uc : Nat} {us : List Value} {D DT : DataW Value} {c ct : Nat} {k : List UInt8} {l : AcR} {lt : List (List UInt8 × Unit)}
set_option maxHeartbeats 1000000 in
theorem FTouchX (BS:Blk NS sp 85 (stK ma mt mm mw md ws tr og rf lg (.slice ua un uc) mk tl)) (r:Row NU 1 1 ua un uc us) (hu:un≤1099511627776) (hM:MapV Tryz.prog 33 NT mt ct DT) (hA:MapA keyA okAd unitV DT lt) (hk:okAd k) (hc:ct≤1099511627776):Fn Tryz.prog 38 #[.pointer (some ⟨sp,0,none⟩),.agg (u8s k).toArray] [NS,NT,NU] [] (fun v L=> ∃(NS NT NU NJ:Heaplet) (a:Option Addr) (c':Nat) (D:DataW Value) (b9 b8 b5 b6:Nat),v=.tuple #[]∧L= [NS,NT,NU,NJ]∧Blk NS sp 85 (stK ma mt mm mw md ws tr og rf lg (.slice a (un+1) c') mk tl)∧Row NU 1 1 a (un+1) c' (us++ [cloV 92 [b9,b8,b5,b6]])∧MapV Tryz.prog 33 NT mt (ct+1) D∧MapA keyA okAd unitV D (putA k () lt)∧CapU NJ 75 115 b9 b8 b5 b6 mt k (getA k lt).isSome []):=by
 have hul:(u8s k).length=20:=by rw [cY,hk]
 refine Fn.enter (vs:= [.pointer (some ⟨sp,0,none⟩),.agg (u8s k).toArray]) Tryz.func38 U U U ?_
 intro E R hR
 change At _ _ E [NS,NT,NU,R] _
 refine aH fun _ s_1=>aB (cU bT U U U (fun N3 b3 B3=>aI (s_1 (permSel0 (cH (bA (bA (bA (cS [NS,N3] [8] [] [0,1,2,3,4,5,6,7,8] (by kernel_rfl) (by kernel_rfl) (.cons _ (.cons _ (.cons _ (.refl _)))) (aR (bB U U U) U U (aR (bB U U U) U U (bH (bB U U U) U U (aJ (bB U U U) fl85_1 U U (aJ (bB U U U) fl83_0 U U (aU (bB U U U) sc76 U BS U cO U ?_)))))))))))))))
 refine aK (ds:=u8s k) (bB U U U) ag33 U B3 (by exact bJ hul) (by exact hul) dG U ?_
 refine op_build (out:= []) (bB U U U) ze115 pl115 .nil U U (bA (bI (bI (bI (bA (cR (nxsl U U U U) (.cons U (.cons U (.cons U (.cons U .nil)))) (FPutAUX BS r hu hM hA hk hc) (F:= [R,N3]) Tryz.func67 U U aZ (by simp) U ?_))))))
 rintro _ _ ⟨NS,NT,NU,NJ,a2,c2,D2,b9,b8,b5,b6,rfl,rfl,BS,r2,hM,hA,hC⟩
 show At _ _ _ [NS,NT,NU,NJ,R,N3] _
 skip
 refine dH (dropAt5 (cQ (L1:= [NS,NT,NU,NJ]) U .nil U (.refl _) aZ ?_))
 exact⟨NS,NT,NU,NJ,a2,c2,D2,b9,b8,b5,b6,rfl,rfl,BS,r2,hM,hA,hC⟩
theorem FExistsC {ac:Nat} {cs:List Value} (BS:Blk NS sp 85 (.map (some ma)::cs)) (hM:MapV Tryz.prog 33 NF ma ac D) (hA:MapA keyA okAd ptrV D l) (hk:okAd k) {b:Bool} (hb:(getA k l).isSome=b):
 Fn Tryz.prog 29 #[.pointer (some ⟨sp,0,none⟩),.agg (u8s k).toArray] [] [NS,NF] (fun v L=>v=.bool b∧L= []):=by
 have hul:(u8s k).length=20:=by rw [cY,hk]
 have hlk:=ptr_look hA hk
 have e:((getA k l).map fun v=>(⟨v.1,0,none⟩:Addr)).isSome=b:=by rw [←hb];cases getA k l<;>rfl
 refine Fn.enter (vs:= [.pointer (some ⟨sp,0,none⟩),.agg (u8s k).toArray]) Tryz.func29 U U U ?_
 intro E R hR
 have BR:=BS.le (hR NS (by simp))
 have hM:=hM.le (hR NF (by simp))
 change At _ _ E [R] _
 refine aH fun _ s_1=>aB (cU bT U U U (fun N3 b3 B3=>bV U U (aI (s_1 (aH fun _ s_2=>cS [N3,R] [5] [] [0,1,2,3,4,5,6,7] (by kernel_rfl) (by kernel_rfl) (.refl _) (aR (bB U U U) U U (bH (bB U U U) U U (aJ (bB U U U) fl85_0 U U (aU (bB U U U) sc74 U BR U dG U ?_)))))))))
 refine aK (ds:=u8s k) (bB U U U) ag33 U B3 (by exact bJ hul) (by exact hul) cO U ?_
 refine op_lookupV1 (Nx.agree (nxss U U U U)) kd33 Tryz.underlying74 (fun _=>by first|rfl|kernel_rfl) U U hM (keyA_spec hk) (hlk) (by simp) U ?_
 refine At.anyS (.refl _) (op_nePO (bB U U U) Tryz.underlying67 U U (cZ (bB U U U) U U (dH (aS (s_2 (cK ((dropAt0 (cF (L1:= []) U (.tmp U .nil) (.refl _) aZ ?_)))))))))
 exact⟨by rw [e],rfl⟩
structure OpnX (NS NF NT NU NX NM NJ NK:Heaplet) (sp ma mt mm mw md ws tr og:Nat) (rf:UInt64) (lg mk:Value) (tl:Int) (un:Nat) (us:List Value) (k:List UInt8) (l:AcR) (lt:List (List UInt8×Unit)) (c ct:Nat) (a:Option Addr) (cu:Nat) (D DT:DataW Value) (xp mx:Nat) (p1 p2 p3 p4 q1 q2 q3 q4:Nat):Prop where
 S:Blk NS sp 85 (stK ma mt mm mw md ws tr og rf lg (.slice a (un+2) cu) mk tl)
 Uq:Row NU 1 1 a (un+2) cu (us++ [cloV 92 [p1,p2,p3,p4],cloV 91 [q1,q2,q3,q4]])
 T:MapV Tryz.prog 33 NT mt (ct+1) DT
 aT:MapA keyA okAd unitV DT (putA k () lt)
 F:MapV Tryz.prog 33 NF ma (c+1) D
 aF:MapA keyA okAd ptrV D (putA k (xp,AcS.z) l)
 X:Blk NX xp 71 (acK 0 0 none 0 0 mx)
 M:MapV Tryz.prog 36 NM mx 0 (.map [])
 C1:CapU NJ 75 115 p1 p2 p3 p4 mt k (getA k lt).isSome []
 C2:CapU NK 74 67 q1 q2 q3 q4 ma k false [.pointer none]
set_option maxHeartbeats 1000000 in
theorem FOpenedX (BS:Blk NS sp 85 (stK ma mt mm mw md ws tr og rf lg (.slice ua un uc) mk tl)) (r:Row NU 1 1 ua un uc us) (hu:un≤1099511627770) (hM:MapV Tryz.prog 33 NT mt ct DT) (hA:MapA keyA okAd unitV DT lt) (hF:MapV Tryz.prog 33 NF ma c D) (hB:MapA keyA okAd ptrV D l) (hk:okAd k) (hc:ct≤1099511627776) (hc2:c≤1099511627776) (hg:getA k l=none):Fn Tryz.prog 50 #[.pointer (some ⟨sp,0,none⟩),.agg (u8s k).toArray] [NS,NF,NT,NU] [] (fun v L=> ∃(NS NF NT NU NX NM NJ NK:Heaplet) (a:Option Addr) (cu:Nat) (D DT:DataW Value) (xp mx p1 p2 p3 p4 q1 q2 q3 q4:Nat),v=.pointer (some ⟨xp,0,none⟩)∧L= [NS,NF,NT,NU,NX,NM,NJ,NK]∧OpnX NS NF NT NU NX NM NJ NK sp ma mt mm mw md ws tr og rf lg mk tl un us k l lt c ct a cu D DT xp mx p1 p2 p3 p4 q1 q2 q3 q4):=by
 have hul:(u8s k).length=20:=by rw [cY,hk]
 refine Fn.enter (vs:= [.pointer (some ⟨sp,0,none⟩),.agg (u8s k).toArray]) Tryz.func50 U U U ?_
 intro E R hR
 change At _ _ E [NS,NF,NT,NU,R] _
 refine aH fun _ s_1=>aB (cU bT U U U (fun N3 b3 B3=>bV U U (aI (s_1 (aH fun _ s_2=>aB (bC U U (aK (ds:=u8s k) aN ag33 U B3 (by exact bJ hul) (by exact hul) cO U ?_)))))))
 refine bS (bI (bF (bS (bS (bS (cR nxQ (.cons U (.cons U .nil)) (FTouchX BS r (by omega) hM hA hk hc) (F:= [N3,NF,R]) Tryz.func38 U U aZ (by simp) U ?_))))))
 rintro _ _ ⟨NS2,NT,NU,NJ,a2,c2,D2,p1,p2,p3,p4,rfl,rfl,BS2,r2,hM2,hA2,hC2⟩
 show At _ _ _ [NS2,NT,NU,NJ,N3,NF,R] _
 skip
 refine aI (s_2 (aH fun _ s_3=>aH fun _ s_4=>aB (bC U U (aK (ds:=u8s k) aN ag33 U B3 (by exact bJ hul) (by exact hul) mem4 U ?_))))
 refine bG bT (.cons U (.cons U .nil)) (FExistsC BS2 hF hB hk (b:=false) (by rw [hg];rfl)) Tryz.func29 U U (by simp) U ?_
 rintro _ _ ⟨rfl,rfl⟩
 show At _ _ _ [NS2,NT,NU,NJ,N3,NF,R] _
 refine op_not aN U U (aI (s_4 (At.condT U (bA (cH (aY (aY (aY (aY (aY (cS [NS2,N3] [9] [0,1] [0,1,2,3,4,5,6,7,8,9] (by kernel_rfl) (by kernel_rfl) (.cons _ (.cons _ (.cons _ (.cons _ (.cons _ (.refl _)))))) (aR (bB U U U) U U (aR (bB U U U) U U (bH (bB U U U) U U (aJ (bB U U U) fl85_0 U U (aU (bB U U U) sc74 U BS2 U cO U ?_))))))))))))))))
 refine aK (ds:=u8s k) (bB U U U) ag33 U B3 (by exact bJ hul) (by exact hul) dG U ?_
 refine op_makeMapV 36 (Nx.agree (nxsm U U U)) U (fun N18 b18 M18=>bM (bM (bF (bM (bM (bM (bM (bM (At.moreS (Lst:= [NS2,N3]) (Lst':= [N18,NS2,N3]) (.cons _ (.refl _)) (.cons _ (.cons _ (.cons _ (.cons _ (.cons _ (.refl _)))))) (op_build (out:= [.int .u64 0,.int .u64 0,.int .u64 0,.int .u64 0,.int .u64 0,.slice none 0 0,_]) (bB U U U) ze71 pl71 (.cons U .nil) U U (cU (Nx.agree (nxsm U U U)) U U U (fun N20 b20 B20=>a6 (a6 (a6 (bI (a6 (a6 (a6 (a6 (a6 (At.moreS (Lst:= [N18,NS2,N3]) (Lst':= [N20,N18,NS2,N3]) (.cons _ (.refl _)) (.cons _ (.cons _ (.cons _ (.cons _ (.cons _ (.refl _)))))) (a6 (bM (bM (bM (aY (bS (aY (bM (a6 (cR (nxsl U U U U) (.cons U (.cons U (.cons U (.cons U .nil)))) (FPutAPX (b20,AcS.z) BS2 r2 (by omega) hF hB hk hc2) (F:= [NT,NJ,R,N20,N18,N3]) Tryz.func66 U U (.refl _) (by simp) U ?_)))))))))))))))))))))))))))))))
 rintro _ _ ⟨NS3,NF3,NU3,NK,a3,c3,D3,q1,q2,q3,q4,rfl,rfl,BS3,r3,hF3,hB3,hC3⟩
 show At _ _ _ [NS3,NF3,NU3,NK,NT,NJ,R,N20,N18,N3] _
 skip
 have hlk:D3.atKey (keyA k) (.held (.pointer none))=.held (.pointer (some ⟨b20,0,none⟩)):=by
  rw [ptr_look hB3 hk,getA_putS];rfl
 refine dH (aS (s_3 (aH fun _ s_5=>bR (bF (bF (bR (bR (bR (bR (bR (bR (bR (cS [NS3,NF3,N3] [5] [] [0,1,2,3,4,5,6] (by kernel_rfl) (by kernel_rfl) (.cons _ (.cons _ (.cons _ (.cons _ (.cons _ (.cons _ (.cons _ (.refl _)))))))) (aR (bB U U U) U U (bH (bB U U U) U U (aJ (bB U U U) fl85_0 U U (aU (bB U U U) sc74 U BS3 U cO U ?_)))))))))))))))))
 refine aK (ds:=u8s k) (bB U U U) ag33 U B3 (by exact bJ hul) (by exact hul) mem2 U ?_
 refine op_lookupV1 (Nx.agree (nxss U U U U)) kd33 Tryz.underlying74 (fun _=>by first|rfl|kernel_rfl) U U hF3 (keyA_spec hk) (hlk) (by simp) U ?_
 refine At.anyS (.refl _) (cZ (bB U U U) U U (dH (aS (s_5 (cK ((dropAt9 (bA (bF (bA (aY (aY (bS (aY (a6 (a6 (cF (L1:= [NS3,NF3,NT,NU3,N20,N18,NJ,NK]) U (.tmp U .nil) (.refl _) aZ ?_)))))))))))))))))
 rw [hg]at hC3
 rw [List.append_assoc]at r3
 exact⟨NS3,NF3,NT,NU3,N20,N18,NJ,NK,a3,c3,D3,D2,b20,b18,p1,p2,p3,p4,q1,q2,q3,q4,rfl,rfl,BS3,r3,hM2,hA2,hF3,hB3,B20,M18,hC2,hC3⟩
structure CapB (J:Heaplet) (b7 b6 y xp:Nat):Prop where
 o:Blk J b7 36 (u64s (wl y))
 x:Blk J b6 67 [.pointer (some ⟨xp,0,none⟩)]
theorem CapB.le {J K:Heaplet} {b7 b6 y xp:Nat} (h:CapB J b7 b6 y xp) (hl:J.le K):CapB K b7 b6 y xp:=⟨h.o.le hl,h.x.le hl⟩
structure BalX (NS NF NT NU NX NM NJ NK NB:Heaplet) (sp ma mt mm mw md ws tr og:Nat) (rf:UInt64) (lg mk:Value) (tl:Int) (un:Nat) (us:List Value) (k:List UInt8) (y:Nat) (l:AcR) (lt:List (List UInt8×Unit)) (c ct:Nat) (a:Option Addr) (cu:Nat) (D DT:DataW Value) (xp mx:Nat) (p1 p2 p3 p4 q1 q2 q3 q4 b7 b6:Nat):Prop where
 S:Blk NS sp 85 (stK ma mt mm mw md ws tr og rf lg (.slice a (un+3) cu) mk tl)
 Uq:Row NU 1 1 a (un+3) cu (us++ [cloV 92 [p1,p2,p3,p4],cloV 91 [q1,q2,q3,q4],cloV 56 [b7,b6]])
 T:MapV Tryz.prog 33 NT mt (ct+1) DT
 aT:MapA keyA okAd unitV DT (putA k () lt)
 F:MapV Tryz.prog 33 NF ma (c+1) D
 aF:MapA keyA okAd ptrV D (putA k (xp,AcS.z) l)
 X:Blk NX xp 71 (acK 0 y none 0 0 mx)
 M:MapV Tryz.prog 36 NM mx 0 (.map [])
 C1:CapU NJ 75 115 p1 p2 p3 p4 mt k (getA k lt).isSome []
 C2:CapU NK 74 67 q1 q2 q3 q4 ma k false [.pointer none]
 C3:CapB NB b7 b6 0 xp
set_option maxHeartbeats 1000000 in
theorem FSetBalanceX {y:Nat} (BS:Blk NS sp 85 (stK ma mt mm mw md ws tr og rf lg (.slice ua un uc) mk tl)) (r:Row NU 1 1 ua un uc us) (hu:un≤1099511627770) (hM:MapV Tryz.prog 33 NT mt ct DT) (hA:MapA keyA okAd unitV DT lt) (hF:MapV Tryz.prog 33 NF ma c D) (hB:MapA keyA okAd ptrV D l) (hk:okAd k) (hc:ct≤1099511627776) (hc2:c≤1099511627776) (hg:getA k l=none):Fn Tryz.prog 16 #[.pointer (some ⟨sp,0,none⟩),.agg (u8s k).toArray,.agg (u64s (wl y)).toArray] [NS,NF,NT,NU] [] (fun v L=> ∃(NS NF NT NU NX NM NJ NK NB:Heaplet) (a:Option Addr) (cu:Nat) (D DT:DataW Value) (xp mx p1 p2 p3 p4 q1 q2 q3 q4 b7 b6:Nat),v=.tuple #[]∧L= [NS,NF,NT,NU,NX,NM,NJ,NK,NB]∧BalX NS NF NT NU NX NM NJ NK NB sp ma mt mm mw md ws tr og rf lg mk tl un us k y l lt c ct a cu D DT xp mx p1 p2 p3 p4 q1 q2 q3 q4 b7 b6):=by
 have hul:(u8s k).length=20:=by rw [cY,hk]
 refine Fn.enter (vs:= [.pointer (some ⟨sp,0,none⟩),.agg (u8s k).toArray,.agg (u64s (wl y)).toArray]) Tryz.func16 U U U ?_
 intro E R hR
 change At _ _ E [NS,NF,NT,NU,R] _
 refine aH fun _ s_1=>aB (cU bT U U U (fun N4 b4 B4=>cU bT U U U (fun N5 b5 B5=>aI (s_1 (aH fun _ s_2=>aB (bC U U (aK (ds:=u8s k) aN ag33 U B4 (by exact bJ hul) (by exact hul) dG U ?_)))))))
 refine aY (bF (bF (aY (aY (aY (aY (cR nxQ (.cons U (.cons U .nil)) (FOpenedX BS r hu hM hA hF hB hk hc hc2 hg) (F:= [N5,N4,R]) Tryz.func50 U U aZ (by simp) U ?_)))))))
 rintro _ _ ⟨NS,NF,NT,NU,NX,NM,NJ,NK,a2,c2,D2,DT2,xp,mx,p1,p2,p3,p4,q1,q2,q3,q4,rfl,rfl,h2⟩
 show At _ _ _ [NS,NF,NT,NU,NX,NM,NJ,NK,N5,N4,R] _
 skip
 have BX:=h2.X
 unfold acK at BX
 have BS2:=h2.S
 refine bZ bT ze67 U (fun N6 b6 B6=>?_)
 change Blk N6 b6 _ [.pointer none]at B6
 refine bP nxQ sz67 U U U U U B6 (by simp) sel0 (fun N6 B6=>?_)
 simp only [setL,List.set]at B6
 refine aI (s_2 (aH fun _ s_3=>aB (aU aN sc67 U B6 U cO U ?_)))
 refine bH aN U U (aJ aN fl71_1 U U (aK (ds:=u64s (wl 0)) aN ag36 U BX (by rfl) (by rfl) mem5 U ?_))
 refine bZ bT ze36 U (fun N7 b7 B7=>?_)
 change Blk N7 b7 _ [.int .u64 0,.int .u64 0,.int .u64 0,.int .u64 0]at B7
 refine bP nxQ sz36 U U U (bQ 0) (one_wl 0) B7 (by simp) sel0 (fun N7 B7=>?_)
 change Blk N7 b7 _ (u64s (wl 0))at B7
 refine aI (s_3 (aH fun _ s_4=>aB (aU aN sc67 U B6 U dG U ?_)))
 refine aK (ds:=u64s (wl y)) aN ag36 U B5 (by exact bJ (bQ y)) (by exact bQ y) mem10 U ?_
 refine bH aN U U (aJ aN fl71_1 U U (bP nxQ sz36 U U U (bQ y) (one_wl y) BX (by exact show 0+1+4≤7 by decide) sel6 (fun NX BX=>?_)))
 change Blk NX xp _ (acK 0 y none 0 0 mx)at BX
 refine aI (s_4 (aB (bC U U (op_mkF aN .nil (.cons U (.cons U .nil)) U (aV (aV (aV (aV (aV (aV (bE (bE (bO (bO (bO (aV (aV (cR nxQ (.cons U (.cons U .nil)) (FUndoableX BS2 h2.Uq (by omega)) (F:= [NX,N7,N6,NF,NT,NM,NJ,NK,N5,N4,R]) Tryz.func51 U U aZ (by simp) U ?_))))))))))))))))))
 rintro _ _ ⟨NS3,NU3,a3,c3,rfl,rfl,BS3,r3⟩
 show At _ _ _ [NS3,NU3,NX,N7,N6,NF,NT,NM,NJ,NK,N5,N4,R] _
 skip
 refine cE (aV (aV (aV (aV (aV (aV (aV (aV (bO (bO (bO (aV (aV (cV (fun Q Q1 Q2=>dropAt10 (dropAt9 (bR (cH (bR (bR (bR (bM (bM (bR (bR (bR (cQ (L1:= [NS3,NF,NT,NU3,NX,NM,NJ,NK,Q]) U .nil U (.refl _) aZ ?_)))))))))))))))))))))))))))
 rw [List.append_assoc]at r3
 exact⟨NS3,NF,NT,NU3,NX,NM,NJ,NK,Q,a3,c3,D2,DT2,xp,mx,p1,p2,p3,p4,q1,q2,q3,q4,b7,b6,rfl,rfl,BS3,r3,h2.T,h2.aT,h2.F,h2.aF,BX,h2.M,h2.C1,h2.C2,⟨B7.le Q1,B6.le Q2⟩⟩
theorem FUndoBal {NX J:Heaplet} {xp b7 b6 y z:Nat} {no:UInt64} {ca:Option Addr} {cn cc mx:Nat} (hC:CapB J b7 b6 y xp) (BX:Blk NX xp 71 (acK no z ca cn cc mx)):Fn Tryz.prog 56 #[.pointer (some ⟨b7,0,none⟩),.pointer (some ⟨b6,0,none⟩)] [NX] [J] (fun w L=> ∃NX,w=.tuple #[]∧L= [NX]∧Blk NX xp 71 (acK no y ca cn cc mx)):=by
 unfold acK at BX
 refine Fn.enter (vs:= [.pointer (some ⟨b7,0,none⟩),.pointer (some ⟨b6,0,none⟩)]) Tryz.func56 U U U ?_
 intro E R hR
 have hC:=hC.le (hR J (by simp))
 have BO:=hC.o
 have BP:=hC.x
 change At _ _ E [NX,R] _
 refine aB (aU aN sc67 U BP U dG U ?_)
 refine aK (ds:=u64s (wl y)) aN ag36 U BO (by exact bJ (bQ y)) (by exact bQ y) dG U ?_
 refine bH aN U U (aJ aN fl71_1 U U (bP nxQ sz36 U U U (bQ y) (one_wl y) BX (by exact show 0+1+4≤7 by decide) sel0 (fun NX BX=>?_)))
 change Blk NX xp _ (acK no y ca cn cc mx)at BX
 refine cE (cQ (L1:= [NX]) U .nil U (.refl _) aZ ?_)
 exact⟨NX,rfl,rfl,BX⟩
end
section
variable {P : Program} {n : Nat} {l : List (Nat × Value)} {E : World} {L : List Heaplet} {d : Nat} {ty : TypeId} {pos : _} {aft : _} {Q : Exit → Act → World → Prop} {rest : List Oper} {ops : Array Oper} {Post Pan : Value → List Heaplet → Prop}
theorem op_callVE {f:FuncId} {fn:Func} {c:Operand} {xs:List Operand} {args caps:List Value} {ats:Array TypeId} {L0 Lr F:List Heaplet}
 (hcv:ev l c=some (.func (.func f) #[] caps.toArray)) (ha:Evs l xs args) (hc:FnE P f (args++caps).toArray L0 Lr Post Pan) (hfn:P.funcs[f]? =some fn) (hb:fn.body.isSome=true) (hne:(fn.name== "runtime.NumGoroutine")=false) (hL:L.Perm (L0++F)) (hr: ∀N∈Lr,N∈F) (hn:Nat.ble (d+1) n=true)
 (hp: ∀v L1,Pan v L1→At n l E (L1++F) (Q (.panic (pnk v))))
 (h: ∀v L1,Post v L1→At n ((d,v)::l) E (L1++F) (wpList P ops Q rest)):At n l E L (wpList P ops Q (⟨some d,.call ⟨.value c,xs.toArray,ats⟩,ty,pos,aft,none⟩::rest)):=fun a w hf hw=>by
 refine wpList_plain U fun K hK=>?_
 unfold Oper.wp
 have hw2:=hw.perm hL
 have hrun:(execOp a.eval ⟨some d,.call ⟨.value c,xs.toArray,ats⟩,ty,pos,aft,none⟩).run P w=.ok (.enter f (args++caps).toArray) w:=by
  have hne':fn.name≠ "runtime.NumGoroutine" :=by simpa using hne
  have he:=hf.eval hcv
  have hap:args.toArray++caps.toArray=(args++caps).toArray:=by simp
  simp only [execOp,resolve,invoke,Sem.run_bind,Sem.run_pure,Result.andThen_ok,List.map_toArray,ha.map hf,he,Deferred.ofValue,Array.empty_append,hap,run_call hfn hb hne']
 rw [hrun]
 obtain⟨R,hwR,hFR,hF⟩:=hw2.apartRest
 refine Calls.mono (hc E w R hwR fun N hN=>hFR N (hr N hN)) ?_
 rintro e w' (⟨v,L1,rfl,hP,hw'⟩|⟨v,L1,rfl,hP,hw'⟩)
 ·exact hK _ _ (h v L1 hP _ _ (hf.put (Nat.le_of_ble_eq_true hn)) (hw'.refine hFR hF))
 ·exact hp v L1 hP _ _ hf (hw'.refine hFR hF)
end
def markC (m:Int×Nat):List Value:= [.int .i64 m.1,.int .i64 (m.2:Int)]
theorem markC_len (m:Int×Nat):(markC m).length=2:=rfl
section
variable {NS NU NK : Heaplet} {sp ma mt mm mw md ws tr og : Nat} {rf : UInt64} {lg : Value} {tl : Int} {ua ka : Option Addr} {un uc kn kc : Nat} {ms : List (Int × Nat)}
set_option maxHeartbeats 1000000 in
theorem FMarkX (BS:Blk NS sp 85 (stK ma mt mm mw md ws tr og rf lg (.slice ua un uc) (.slice ka kn kc) tl)) (r:Row NK 108 2 ka kn kc (ms.flatMap markC)) (hk:kn≤1099511627776) (ht:0≤tl∧tl≤1099511627776):Fn Tryz.prog 17 #[.pointer (some ⟨sp,0,none⟩)] [NS,NK] [] (fun v L=> ∃(NS NK:Heaplet) (a:Option Addr) (c:Nat),v=.int .i64 tl∧L= [NS,NK]∧Blk NS sp 85 (stK ma mt mm mw md ws tr og rf lg (.slice ua un uc) (.slice a (kn+1) c) (tl+1))∧Row NK 108 2 a (kn+1) c ((ms++ [(tl,un)]).flatMap markC)):=by
 refine Fn.enter (vs:= [.pointer (some ⟨sp,0,none⟩)]) Tryz.func17 U U U ?_
 intro E R hR
 change At _ _ E [NS,NK,R] _
 refine aH fun _ s_1=>aB (bV U U (aI (s_1 (aH fun _ s_2=>aB (bC U U (bH aN U U (aJ aN fl85_1 U U (aJ aN fl83_11 U U (aU aN sc3 U BS U cO U ?_)))))))))
 refine bV U U (aI (s_2 (aH fun _ s_3=>aB (bC U U (bH aN U U (aJ aN fl85_1 U U (aJ aN fl83_11 U U (aU aN sc3 U BS U cO U ?_))))))))
 refine dD aN U U (by omega) (by omega) U (bH aN U U (aJ aN fl85_1 U U (aJ aN fl83_11 U U (bP nxQ sz3 U U U U U BS (by exact show 0+1+11+1≤13 by decide) sel0 (fun NS BS=>?_)))))
 change Blk NS sp _ (stK ma mt mm mw md ws tr og rf lg (.slice ua un uc) (.slice ka kn kc) (tl+1))at BS
 refine aI (s_3 (aH fun _ s_4=>permSel0 (bF (bF (cS [NS] [15,19] [0,1] [0,1,2,3,4,5,6,7,8,9,10,11,12,13,14,15,16,17,18,19] (by kernel_rfl) (by kernel_rfl) (.cons _ (.cons _ (.refl _))) (aR (bB U U U) U U (aR (bB U U U) U U (bH (bB U U U) U U (aJ (bB U U U) fl85_1 U U (aJ (bB U U U) fl83_10 U U (aU (bB U U U) sc81 U BS U cO U ?_)))))))))))
 refine aR (bB U U U) U U (aR (bB U U U) U U (bH (bB U U U) U U (aJ (bB U U U) fl85_1 U U (aJ (bB U U U) fl83_9 U U (aU (bB U U U) sc80 U BS U cO U ?_)))))
 refine dB (bB U U U) se80 U U (op_build (out:= [_,_]) (bB U U U) ze108 pl108 (.cons U (.cons U .nil)) U U (op_lit (Nx.agree (nxsm U U U)) Tryz.underlying81 ze108 sz108 (.cons U .nil) U U (by simp [Value.cells]) U U U (fun N32 a32 r32=>?_)))
 simp only [flatV,List.flatMap_cons,List.flatMap_nil,Value.cells,List.append_nil,List.cons_append,List.nil_append]at r32
 have s32:=r32.rsl
 refine bI (cH (bI (bI (At.moreS (Lst:= [NS]) (Lst':= [N32,NS]) (.cons _ (.refl _)) (.cons _ (.cons _ (.refl _))) ?_))))
 change Row N32 _ 2 a32 1 1 (markC (tl,un))at r32
 have s32:=r32.rsl
 refine op_append (nxss rfl rfl rfl rfl) Tryz.underlying81 Tryz.underlying81 te108 rfl rfl r s32 (by simp) (fun u hu=>by simp only [markC,List.mem_cons,List.not_mem_nil,or_false]at hu;rcases hu with rfl|rfl<;>rfl) (by omega) (by omega) sel0 rfl (fun N33 a33 p33 r33=>?_)
 have s33:=r33.rsl
 refine At.anyS (.refl _) (bH (bB U U U) U U (aJ (bB U U U) fl85_1 U U (aJ (bB U U U) fl83_10 U U (bP (nxsl U U U U) sz81 U U U U U BS (by exact show 0+1+10+1≤13 by decide) sel3 (fun NS BS=>?_)))))
 rw [st_mk]at BS
 refine dH (aS (s_4 (aH fun _ s_5=>aB (bC U U (bV U U (aI (s_5 (cK ((dropAt3 (cF (L1:= [NS,N33]) U (.tmp U .nil) (.refl _) aZ ?_)))))))))))
 exact⟨NS,N33,a33,p33,rfl,rfl,BS,by rw [List.flatMap_append,List.flatMap_cons,List.flatMap_nil,List.append_nil];exact r33⟩
theorem FBack1 {NN:Heaplet} {bn:Nat} {num:Int} (B:Blk NN bn 3 [.int .i64 num]) (m:Int×Nat):Fn Tryz.prog 58 #[.agg (markC m).toArray,.pointer (some ⟨bn,0,none⟩)] [] [NN] (fun v L=>v=.bool (decide (m.1=num))∧L= []):=by
 refine Fn.enter (vs:= [.agg #[.int .i64 m.1,.int .i64 (m.2:Int)],.pointer (some ⟨bn,0,none⟩)]) Tryz.func58 U U U ?_
 intro E R hR
 have BN:=B.le (hR NN (by simp))
 change At _ _ E [R] _
 refine aH fun _ s_1=>aB (cU bT U U U (fun N2 b2 B2=>bV U U (aI (s_1 (aH fun _ s_2=>aB (aJ aN fl108_0 U U (aU aN sc3 U B2 U cO U ?_)))))))
 refine aU aN sc3 U BN U dG U ?_
 refine op_eql aN U U U (bV U U (aI (s_2 (cK ((dropAt0 (cF (L1:= []) U (.tmp U .nil) (.refl _) aZ ?_)))))))
 exact⟨rfl,rfl⟩
set_option maxHeartbeats 1000000 in
theorem FIndexM {NN:Heaplet} {bn:Nat} {num:Int} (hA:RSl NK 2 ka kn kc (ms.flatMap markC)) (hn:ms.length=kn) (B:Blk NN bn 3 [.int .i64 num]):Fn Tryz.prog 57 #[.slice ka kn kc,.func (.func 58) #[] #[.pointer (some ⟨bn,0,none⟩)]] [] [NK,NN] (fun v L=>(∃(i:Nat) (u:Nat),ms[i]? =some (num,u)∧(∀m∈ms.take i,m.1≠num)∧v=.int .i64 (i:Int)∧L= [])∨((∀m∈ms,m.1≠num)∧v=.int .i64 (-1)∧L= [])):=by
 have z1:=hA.cap63
 refine Fn.enter (vs:= [.slice ka kn kc,.func (.func 58) #[] #[.pointer (some ⟨bn,0,none⟩)]]) Tryz.func57 U U U ?_
 intro E R hR
 have hA':=hA.le (hR NK (by simp))
 have hB':=B.le (hR NN (by simp))
 change At _ _ E [R] _
 refine aH fun _ s_1=>aB (bV U U (aI (s_1 (aH fun _ s_2=>aH fun _ s_3=>aB (bC U U (dB aN se81 U U (bC U U (aI (s_3 (bX (At.loop (fun fr_ hp_ ms_=> ∃(i:Nat),fr_= [(0,.slice ka kn kc),(1,.func (.func 58) #[] #[.pointer (some ⟨bn,0,none⟩)]),(7,.int .i64 (kn:Int)),(8,.int .i64 (i:Int))]∧hp_= [R]∧kn- i=ms_∧(i≤kn)∧(∀m∈ms.take i,m.1≠num)) ?_ aZ ⟨0,rfl,rfl,rfl,Nat.zero_le _,by simp⟩ ?_)))))))))))
 ·repeat first|apply cW|exact .nil|exact lkI rfl (by omega)|rfl
 rintro _ _ _ ⟨i,rfl,rfl,rfl,hi,hno⟩
 refine aH fun _ s_4=>aB (op_lss aN U U U (aI (s_4 (aH fun _ s_5=>cD U (fun c9=>?_) (fun c9=>?_)))))
 ·obtain⟨y,hgi⟩: ∃y,ms[i]? =some y:=⟨_,List.getElem?_eq_getElem (by omega)⟩
  refine cG (aS (s_5 (aH fun _ s_6=>bX (aH fun _ s_7=>aB (bC U U (bV U U (aI (s_7 (aH fun _ s_8=>aB (bC U U (bC U U (bC U U (op_idxE aN se81 U U hA' (show _=(((i:Nat)):Int)from by omega) (by omega) U ?_)))))))))))))
  refine op_loadAggE (ds:=markC y) aN ag108 U hA' (by exact flat_atS markC (fun y _=>markC_len y) hgi) (by exact markC_len y) (by omega) (by simp) U ?_
  refine op_callV nxQ U (.cons U .nil) (FBack1 hB' y) (F:= [R]) Tryz.func58 U U aZ (by simp) U ?_
  rintro _ _ ⟨rfl,rfl⟩
  show At _ _ _ [R] _
  refine aI (s_8 (cD U (fun c16=>?_) (fun c16=>?_)))
  ·refine aH fun _ s_9=>aB (bC U U (bV U U (aI (s_9 (cK (At.inRet (dC (dC (At.inRet (dC ((cF (L1:= []) U (.tmp U .nil) (.refl _) aZ ?_))))))))))))
   exact .inl ⟨i,y.2,by rw [hgi, ←c16],hno,rfl,rfl⟩
  refine cG (cJ (aS (s_6 (aB (dD aN U U (by omega) (by omega) U (bC U U (aI ?_)))))))
  refine At.back ?_ aZ ⟨i+1,rfl,rfl,rfl,by omega,by rw [take_nextS hgi];exact fun m hm=>(List.mem_append.1 hm).elim (hno m) fun h2=>by rw [List.mem_singleton.1 h2];exact c16⟩ ?_
  ·repeat first|apply cW|exact .nil|exact lkI rfl (by omega)|rfl
  ·omega
 obtain rfl:i=kn:=by omega
 rw [List.take_of_length_le (by omega)]at hno
 refine At.exit (bD (bD (dE (aS (s_2 (aH fun _ s_10=>aB (bV U U (aI (s_10 (cK ((cF (L1:= []) U (.tmp U .nil) (.refl _) aZ ?_))))))))))))
 exact .inr ⟨hno,rfl,rfl⟩
end
section
variable {sp n ka0 kn kc uc u0 ia : Nat} {ua ka : Option Addr} {NU NK : Heaplet} {us : List Value} {ms : List (Int × Nat)} {P : Nat → Heaplet → Heaplet → Prop}
theorem idx_same {num:Int} {u u' i j:Nat} (hi:ms[i]? =some (num,u)) (hno: ∀m∈ms.take i,m.1≠num) (hj:ms[j]? =some (num,u')) (hno': ∀m∈ms.take j,m.1≠num):j=i:=by
 rcases Nat.lt_trichotomy i j with h|h|h
 ·exact absurd U (hno' (num,u) (List.mem_of_getElem? (i:=i) (by rw [List.getElem?_take,if_pos h];exact hi)))
 ·exact h.symm
 ·exact absurd U (hno (num,u') (List.mem_of_getElem? (i:=j) (by rw [List.getElem?_take,if_pos h];exact hj)))
def UndoAt (P:Nat→Heaplet→Heaplet→Prop) (us:List Value) (i:Nat):Prop:= ∃(f:FuncId) (caps:List Value) (fn:Func),us[i]? =some (.func (.func f) #[] caps.toArray)∧Tryz.prog.funcs[f]? =some fn∧fn.body.isSome=true∧(fn.name== "runtime.NumGoroutine")=false∧ ∀NS NR,P (i+1) NS NR→Fn Tryz.prog f ([]++caps).toArray [NS,NR] [] (fun v L=> ∃NS NR,L= [NS,NR]∧P i NS NR)
set_option maxHeartbeats 1000000 in
theorem FBackT {NS NR:Heaplet} {num:Int} (hP:P n NS NR) (hS: ∀i NS NR,P i NS NR→ ∃ma mt mm mw md ws tr og rf lg tl,Blk NS sp 85 (stK ma mt mm mw md ws tr og rf lg (.slice ua n uc) (.slice ka kn kc) tl))
 (rU:RSl NU 1 ua n uc us) (rK:RSl NK 2 ka kn kc (ms.flatMap markC)) (hkn:ms.length=kn) (hun:us.length=n) (hi:ms[ia]? =some (num,u0)) (hno: ∀m∈ms.take ia,m.1≠num) (hu0:u0≤n) (hun2:n≤1099511627776)
 (hcl: ∀i,u0≤i→i<n→UndoAt P us i):Fn Tryz.prog 18 #[.pointer (some ⟨sp,0,none⟩),.int .i64 num] [NS,NR] [NU,NK] (fun v L=> ∃(NS0 NS NR:Heaplet) (ma mt mm mw md ws tr og:Nat) (rf:UInt64) (lg:Value) (tl:Int),v=.bool true∧L= [NS,NR]∧P u0 NS0 NR∧Blk NS0 sp 85 (stK ma mt mm mw md ws tr og rf lg (.slice ua n uc) (.slice ka kn kc) tl)∧Blk NS sp 85 (stK ma mt mm mw md ws tr og rf lg (.slice ua u0 uc) (.slice ka (ia+1) kc) tl)):=by
 have z1:=rK.cap63
 have z2:=rU.cap63
 have hia:ia<ms.length:=(List.getElem?_eq_some_iff.1 hi).1
 have hka:ka.isSome=true:=by
  obtain⟨b,off,e,_⟩:=rK.2.2.2 (by omega)
  rw [e];rfl
 have hmk:(ms.flatMap markC)[ia*2+1]? =some (.int .i64 (u0:Int)):=by
  have e:=flat_atS markC (fun y _=>markC_len y) hi
  have e2:(((ms.flatMap markC).drop (ia*2)).take 2)[1]? =some (.int .i64 (u0:Int)):=by rw [e];rfl
  rwa [List.getElem?_take,if_pos (by omega),List.getElem?_drop]at e2
 obtain⟨ma0,mt0,mm0,mw0,md0,ws0,tr0,og0,rf0,lg0,tl0,BS⟩:=hS _ _ _ hP
 refine Fn.enter (vs:= [.pointer (some ⟨sp,0,none⟩),.int .i64 num]) Tryz.func18 U U U ?_
 intro E R hR
 have sU:=rU.le (hR NU (by simp))
 have sK:=rK.le (hR NK (by simp))
 change At _ _ E [NS,NR,R] _
 refine aH fun _ s_1=>aB (cU bT U U U (fun N3 b3 B3=>bV U U (aI (s_1 (aH fun _ s_2=>aB (bC U U (bH aN U U (aJ aN fl85_1 U U (aJ aN fl83_10 U U (aU aN sc81 U BS U dG U ?_))))))))))
 refine op_mkF aN .nil (.cons U .nil) U (bG bT (.cons U (.cons U .nil)) (FIndexM sK hkn B3) Tryz.func57 U U (by simp) U ?_)
 rintro _ _ (⟨i13,u13,h13,hno13,rfl,rfl⟩|⟨hn13,rfl,rfl⟩)
 ·show At _ _ _ [N3,NS,NR,R] _
  have e13:i13=ia:=idx_same hi hno h13 hno13;subst e13
  refine bV U U (aI (s_2 (aH fun _ s_3=>aH fun _ s_4=>aB (bC U U (op_lss aN U U U (aI (s_4 (cD U (fun c15=>?_) (fun c15=>?_)))))))))
  ·omega
  refine cG (aS (s_3 (aH fun _ s_5=>aH fun _ s_6=>aB (bC U U (bH aN U U (aJ aN fl85_1 U U (aJ aN fl83_9 U U (aU aN sc80 U BS U dG U ?_))))))))
  refine dB aN se80 U U (op_subI aN U U (by omega) (by omega) U (bV U U (aI (s_6 (bX (dropAt0 (At.loop (fun fr_ hp_ ms_=> ∃(k:Nat) (q:Int) (NS NR:Heaplet),fr_= [(0,.pointer (some ⟨sp,0,none⟩)),(5,.int .i64 (i13:Int)),(6,.int .i64 q)]∧hp_= [NS,NR,R]∧k=ms_∧(k≤n)∧(u0≤k)∧(q=(k:Int)- 1)∧(P k NS NR)) ?_ aZ ⟨n,_,NS,NR,rfl,rfl,rfl,Nat.le_refl _,hu0,rfl,hP⟩ ?_)))))))
  ·repeat first|apply cW|exact .nil|exact lkI rfl (by omega)|rfl
  rintro _ _ _ ⟨k,q,NS,NR,rfl,rfl,rfl,hk,hk0,hq,hP⟩
  refine aH fun _ s_7=>aH fun _ s_8=>aB ?_
  obtain⟨ma,mt,mm,mw,md,ws,tr,og,rf,lg,tl,BS⟩:=hS _ _ _ hP
  refine bC U U (bC U U (bH aN U U (aJ aN fl85_1 U U (aJ aN fl83_10 U U (aU aN sc81 U BS U cO U ?_)))))
  refine bC U U (op_idxE aN se81 U U sK (show _=(((i13:Nat)):Int)from by omega) (by omega) U ?_)
  refine dA aN fl108_1 U (by first|rfl|assumption) U ?_
  refine op_loadE aN sc3 U sK (by first|exact get8 (by omega)|exact get64 (by omega)|exact get32 (by omega)|exact hmk) (by simp) U ?_
  refine op_geq aN U U U (aI (s_8 (cD U (fun c33=>?_) (fun c33=>?_))))
  ·obtain⟨f,caps,fn,hf1,hfn,hb,hne,hcc⟩:=hcl (k- 1) (by omega) (by omega)
   have hkk:k- 1+1=k:=by omega
   rw [hkk]at hcc
   refine cG (aS (s_7 (aH fun _ s_9=>bX (aB (bC U U (bH aN U U (aJ aN fl85_1 U U (aJ aN fl83_9 U U (aU aN sc80 U BS U cO U ?_)))))))))
   refine bC U U (op_idx1 aN se80 U U sU (show _=(((k- 1:Nat)):Int)from by omega) (by omega) U ?_)
   refine op_loadE aN sc1 U sU (by first|exact get8 (by omega)|exact get64 (by omega)|exact get32 (by omega)|exact hf1) (by simp) U ?_
   refine op_callVE U .nil (((hcc NS NR hP).x (Pan:=fun _ _=>False))) (F:= [R]) hfn hb hne (.refl _) (by simp) U ?_ ?_
   ·intro _ _ h_;exact h_.elim
   rintro _ _ ⟨NS2,NR2,rfl,hP2⟩
   show At _ _ _ [NS2,NR2,R] _
   refine cE (cJ (aS (s_9 (aB (bC U U (op_subI aN U U (by omega) (by omega) U (bV U U (aI (At.back ?_ aZ ⟨k- 1,q- 1,NS2,NR2,rfl,rfl,rfl,by omega,by omega,by omega,hP2⟩ ?_)))))))))
   ·repeat first|apply cW|exact .nil|exact lkI rfl (by omega)|rfl
   ·omega
  refine At.exit (bD (bD (dE (aS (s_5 (aH fun _ s_10=>?_))))))
  have hku:k=u0:=by omega
  rw [hku]at hP
  refine bF (cH (bF (cS [NS,R] [19] [] [0,1,2,3,4,5,6,7,8,9,10,11,12,13,14,15,16,17,18,19] (by kernel_rfl) (by kernel_rfl) (.cons _ (.refl _)) (aR (bB U U U) U U (aR (bB U U U) U U (bH (bB U U U) U U (aJ (bB U U U) fl85_1 U U (aJ (bB U U U) fl83_9 U U (aU (bB U U U) sc80 U BS U cO U ?_)))))))))
  refine aR (bB U U U) U U (bH (bB U U U) U U (aJ (bB U U U) fl85_1 U U (aJ (bB U U U) fl83_10 U U (aU (bB U U U) sc81 U BS U cO U ?_))))
  refine aR (bB U U U) U U (op_idxE (bB U U U) se81 U U sK (show _=(((i13:Nat)):Int)from by omega) (by omega) U ?_)
  refine dA (bB U U U) fl108_1 U (by first|rfl|assumption) U ?_
  refine op_loadE (bB U U U) sc3 U sK (by first|exact get8 (by omega)|exact get64 (by omega)|exact get32 (by omega)|exact hmk) (by simp) U ?_
  refine op_slice0 (bB U U U) se80 U (.some U (by first|rfl|exact(Int.toNat_of_nonneg (by omega)).symm)) .none (by omega) (by omega) (by simp) U ?_
  refine bH (bB U U U) U U (aJ (bB U U U) fl85_1 U U (aJ (bB U U U) fl83_9 U U ?_))
  have BS0:=BS
  refine bP (nxsl U U U U) sz80 U U U U U BS (by exact show 0+1+9+1≤13 by decide) sel1 (fun NS BS=>?_)
  rw [st_un]at BS
  refine dH (aS (s_10 (aH fun _ s_11=>aB (bC U U (bC U U (bH aN U U (aJ aN fl85_1 U U (aJ aN fl83_10 U U (aU aN sc81 U BS U cO U ?_)))))))))
  refine bC U U (dD aN U U (by omega) (by omega) U (op_slice0 aN se81 U (.some U (show _=(((i13+1:Nat)):Int)from by omega)) .none (by omega) (by omega) (by simp) U ?_))
  refine bH aN U U (aJ aN fl85_1 U U (aJ aN fl83_10 U U (bP nxQ sz81 U U U U U BS (by exact show 0+1+10+1≤13 by decide) sel0 (fun NS BS=>?_))))
  rw [st_mk]at BS
  refine aI (s_11 (aH fun _ s_12=>aB (bV U U (aI (s_12 (cK ((cF (L1:= [NS,NR]) U (.tmp U .nil) (.refl _) aZ ?_))))))))
  exact⟨_,NS,NR,ma,mt,mm,mw,md,ws,tr,og,rf,lg,tl,rfl,rfl,hP,BS0,BS⟩
 show At _ _ _ [N3,NS,NR,R] _
 refine bV U U (aI (s_2 (aH fun _ s_13=>aH fun _ s_14=>aB (bC U U (op_lss aN U U U (aI (s_14 (cD U (fun c15=>?_) (fun c15=>?_)))))))))
 ·exact absurd U (hn13 _ (List.mem_of_getElem? hi))
 ·omega
end
end Go.Proofs.YtalmjkcapecpiaaGreat
