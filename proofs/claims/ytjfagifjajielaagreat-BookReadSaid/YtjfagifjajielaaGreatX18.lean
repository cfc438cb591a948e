/- Several texts in one: see the remarks ahead of each part. No condition but those told there. -/
import Derived.Test.YtjfagifjajielaaGreatX1
import Derived.Test.YtjfagifjajielaaGreatX17
import Derived.Test.YtjfagifjajielaaGreatX16
import Derived.Test.YtjfagifjajielaaGreatX14
set_option linter.unusedSimpArgs false
set_option linter.unusedVariables false
namespace Go.Proofs.YtjfagifjajielaaGreat
open Go Go.RowKit
set_option maxRecDepth 100000
structure AccM where
 addr:List UInt8
 keys:List (List UInt8)
structure AV where
 addr:List UInt8
 ka:Option Addr
 kn:Nat
 kc:Nat
def AV.cells (x:AV):List Value:=u8s x.addr++ [.slice x.ka x.kn x.kc]
def accC (xs:List AV):List Value:=xs.flatMap AV.cells
def AccN (N:Heaplet) (g:AccM) (x:AV):Prop:=x.addr=g.addr∧g.addr.length=20∧x.kn=g.keys.length∧RSl N 32 x.ka x.kn x.kc (hashC g.keys)∧ ∀h∈g.keys,h.length=32
def AccsN (N:Heaplet) (gs:List AccM) (xs:List AV):Prop:=xs.length=gs.length∧ ∀(i:Nat) (g:AccM) (x:AV),gs[i]? =some g→xs[i]? =some x→AccN N g x
section
variable {N M : Heaplet} {g : AccM} {x : AV} {gs : List AccM} {xs : List AV}
theorem AccN.le (hl:N.le M) (h:AccN N g x):AccN M g x:=⟨h.1,h.2.1,h.2.2.1,h.2.2.2.1.le hl,h.2.2.2.2⟩
theorem AccsN.le (hl:N.le M) (h:AccsN N gs xs):AccsN M gs xs:=⟨h.1,fun i g x h1 h2=>(h.2 i g x h1 h2).le hl⟩
theorem AccsN.nil:AccsN N [] []:=⟨rfl,fun i g x h=>by simp at h⟩
theorem AccsN.snoc (h:AccsN N gs xs) (k:AccN N g x):AccsN N (gs++ [g]) (xs++ [x]):=by
 refine⟨by simp [h.1],fun i g' x' h1 h2=>?_⟩
 rcases Nat.lt_or_ge i gs.length with hi|hi
 ·rw [List.getElem?_append_left hi]at h1
  rw [List.getElem?_append_left (by rw [h.1];exact hi)]at h2
  exact h.2 i g' x' h1 h2
 ·rw [List.getElem?_append_right hi]at h1
  rw [List.getElem?_append_right (by rw [h.1];exact hi),h.1]at h2
  have h0:i- gs.length=0:=by
   obtain⟨h3,_⟩:=List.getElem?_eq_some_iff.1 h1
   simp at h3;omega
  rw [h0]at h1 h2
  simp at h1 h2
  subst h1;subst h2;exact k
theorem AccsN.at (h:AccsN N gs xs) {i:Nat} (hi:i<gs.length): ∃g x,gs[i]? =some g∧xs[i]? =some x∧AccN N g x:=by
 have hx:i<xs.length:=by rw [h.1];exact hi
 exact⟨gs[i],xs[i],List.getElem?_eq_getElem hi,List.getElem?_eq_getElem hx,h.2 i _ _ (List.getElem?_eq_getElem hi) (List.getElem?_eq_getElem hx)⟩
theorem AV.cells_len {x:AV} (h:x.addr.length=20):x.cells.length=21:=by rw [AV.cells,List.length_append,bL,h];rfl
theorem AV.cells_one (x:AV):x.cells.all (·.oneCell')=true:=by
 refine List.all_eq_true.2 fun u hu=>?_
 rcases List.mem_append.1 hu with hu|hu
 ·exact one_u8s _ u hu
 ·obtain rfl:=List.mem_singleton.1 hu;rfl
theorem accC_one (xs:List AV): ∀u∈accC xs,u.oneCell'=true:=fun u hu=>by
 obtain⟨x,_,hx⟩:=List.mem_flatMap.1 hu
 exact List.all_eq_true.1 (AV.cells_one x) u hx
end
theorem fill_acc {a:List UInt8} (ha:a.length=20) (ka:Option Addr) (kn kc:Nat) (cs:List Value) (hc:cs.length=21):
 fillL [(0,20),(20,1)] cs [(0,.agg (u8s a).toArray),(1,.slice ka kn kc)]=some (AV.cells ⟨a,ka,kn,kc⟩):=by
 have hu:(u8s a).length=20:=by rw [bL,ha]
 obtain⟨x,hx⟩: ∃x,cs.drop 20= [x]:=by
  have hl:(cs.drop 20).length=1:=by rw [List.length_drop];omega
  match h:cs.drop 20,hl with
  | [x],_=>exact⟨x,rfl⟩
 have e0:setL cs 0 (u8s a)=u8s a++ [x]:=by rw [setL_head (by omega),hu,hx]
 have e1:setL (u8s a++ [x]) 20 [.slice ka kn kc]=u8s a++ [.slice ka kn kc]:=by
  have:=setL_append [.slice ka kn kc] (u8s a) [x] [] rfl
  rw [hu]at this
  simpa using this
 have c0:(Value.agg (u8s a).toArray).cells.toList=u8s a:=rfl
 simp only [fillL,List.getElem?_cons_zero,List.getElem?_cons_succ,c0,hu,hc,e0]
 rw [if_pos (by decide),if_pos ⟨rfl,by rw [List.length_append,hu];show 20+1≤20+1;decide⟩]
 rw [show(Value.slice ka kn kc).cells.toList= [.slice ka kn kc]from rfl,e1]
 rfl
def accE (t:It):Except Nat AccM:=match listE t with
 |.error e=>.error e
 |.ok [x,y]=>match fixE 20 x with
  |.error e=>.error e
  |.ok a=>match hashesE y with
   |.error e=>.error e
   |.ok ks=>.ok ⟨a,ks⟩
 |.ok _=>.error 2
theorem accE_ne {t:It} {its:List It} (h:listE t=.ok its) (k:its.length∉ [2]):accE t=.error 2:=by
 simp only [accE,h]
 match its,k with
 | [],_=>rfl
 | [_],_=>rfl
 | [_,_],k=>exact absurd (by simp) k
 |_::_::_::_,_=>rfl
theorem two_of {its:List It} (k:its.length∈ [2]): ∃u y,its= [u,y]:=by
 match its,k with
 | [],k=>simp at k
 | [_],k=>simp at k
 | [u,y],_=>exact⟨u,y,rfl⟩
 |_::_::_::_,k=>simp at k
section
variable {Np NI Nl Na Nk : Heaplet} {bp bl m c : Nat} {a : Option Addr} {t : It} {ts : List It} {gs : List AccM} {xs : List AV} {z : IV} {zs : List IV}
theorem PartsN.two {u y:It} (h:PartsN Np NI bp zs [u,y]): ∃a b,zs= [a,b]:=by
 obtain⟨ao,n,cap,B,hs,x,ys,rfl,hx,x',ys',rfl,hx',e⟩:=h
 have e:ys'= []:=e
 subst e;exact⟨x,x',rfl⟩
def ItOK (B:Nat) (t:It):Prop:= ∀its,listE t=.ok its→its.length≤B∧ ∀y∈its, ∀l,listE y=.ok l→l.length≤B
set_option maxHeartbeats 2000000 in
theorem FAccess1_0 (h:PartsN Np NI bp (z::zs) (t::ts)) (B:Blk Nl bl 29 [.slice a m c]) (r:Row Na 117 21 a m c (accC xs)) (hk:AccsN Nk gs xs) (hm:m<1099511627776) (hI:ItOK 1099511627776 t):
 FnE Tryz.prog 142 #[.pointer (some ⟨bp,0,none⟩),.pointer (some ⟨bl,0,none⟩)] [Np,Nl,Na,Nk] [NI] (fun _ L=> ∃Np Nl Na Nk g x a c,L= [Np,Nl,Na,Nk]∧accE t=.ok g∧PartsN Np NI bp zs ts∧Blk Nl bl 29 [.slice a (m+1) c]∧Row Na 117 21 a (m+1) c (accC (xs++ [x]))∧AccsN Nk (gs++ [g]) (xs++ [x])) (fun v L=> ∃e:Nat,v=gaveV e∧L= []∧accE t=.error e):=by
 have h1:=FNext_p h
 refine FnE.enter (vs:= [.pointer (some ⟨bp,0,none⟩),.pointer (some ⟨bl,0,none⟩)]) Tryz.func142 U U U ?_
 intro E R hR
 have hNR:=hR NI (by simp)
 have h1:=h1.liftB hNR
 have Bl:=B
 change At _ _ E [Np,Nl,Na,Nk,R] _
 refine aC fun _ s_1=>aA (aH U U (cA cL (.cons U .nil) (h1) (F:= [Nl,Na,Nk,R]) Tryz.func52 U U aJ (by simp) U ?_))
 rintro _ _ ⟨Mp,rfl,rfl,hp,hx⟩
 show At _ _ _ [Mp,Nl,Na,Nk,R] _
 change At _ ((5,.agg #[.bool z.l,.slice z.ab z.nb z.cb,.slice z.ai z.ni z.ci])::_) _ _ _
 refine bM (.cons U .nil) ((FOpened_p hx).liftB hNR) (F:= [Mp,Nl,Na,Nk,R]) Tryz.func33 U U (.refl _) (by simp) U ?_ ?_
 ·rintro _ _ ⟨e,rfl,rfl,he⟩
  show At _ _ _ [Mp,Nl,Na,Nk,R] _
  refine aY ((bW (bJ (bH (cK (cP (L1:= []) (.refl _) aJ ?_))))))
  exact⟨e,rfl,rfl,by simp only [accE,he]⟩
 rintro _ _ ⟨Nq,bq,its,zq,rfl,rfl,he,hq,hzq⟩
 show At _ _ _ [Nq,Mp,Nl,Na,Nk,R] _
 refine aR U U (aB (s_1 (aC fun _ s_2=>aA (aH U U (op_lit bU Tryz.underlying162 ze3 sz3 (.cons U .nil) U U (by simp [Value.cells]) U U U (fun N8 a8 r8=>?_))))))
 simp only [flatV,List.flatMap_cons,List.flatMap_nil,Value.cells,List.append_nil,List.cons_append,List.nil_append]at r8
 have s8:=r8.rsl
 change Row N8 _ 1 a8 1 1 (intC [2])at r8
 refine bC (bC (bC (bC (bC (aG (bC (bM (.cons U (.cons U .nil)) (FJust_p hq r8.rsl (by decide)) (F:= [N8,Mp,Nl,Na,Nk,R]) Tryz.func51 U U (.refl _) (by simp) U ?_ ?_)))))))
 ·rintro _ _ ⟨rfl,rfl,hjm⟩
  show At _ _ _ [N8,Mp,Nl,Na,Nk,R] _
  refine aY ((dH (bW (bJ (bH (cK (cP (L1:= []) (.refl _) aJ ?_)))))))
  exact⟨2,rfl,rfl,accE_ne he hjm⟩
 rintro _ _ ⟨rfl,rfl,hjm⟩
 show At _ _ _ [Nq,N8,Mp,Nl,Na,Nk,R] _
 obtain⟨u,y,rfl⟩:=two_of hjm;obtain⟨z1,z2,rfl⟩:=hq.two;have hk2:=(hI _ he).2 y (by simp)
 refine aB (s_2 (bC (aL (bC (bC (bC (bC (bC (At.drawnR [Nl,R] [7,8] [3] [0,1,3,2,4,5,6,7,8] (by kernel_rfl) (by kernel_rfl) (.cons _ (.cons _ (.cons _ (.cons _ (.cons _ (.refl _)))))) (by repeat first|exact PanOK.body|apply PanOK.then|apply PanOK.inB) ?_)))))))))
 refine aK (nxrf U U U) sc29 U Bl U bI U ?_
 refine aP (nxrf U U U) U U (aP (nxrf U U U) U U (op_callR U (.cons U .nil) ((FAddr_p hq).liftB hNR) (F:= [N8,Mp,Na,Nk,Nl,R]) (Lst':= [Nl,R]) Tryz.func59 U U (.refl _) (by simp) U (.refl _) (.cons _ (.cons _ (.cons _ (.cons _ (.refl _))))) ?_ ?_))
 ·rintro _ _ ⟨e,rfl,rfl,hb⟩
  show At _ _ _ [N8,Mp,Na,Nk,Nl,R] _
  refine dH (bW (bJ (bH (cK (cP (L1:= []) (.refl _) aJ ?_)))))
  exact⟨e,rfl,rfl,by simp only [accE,he,hb]⟩
 rintro _ _ ⟨Mq,b,rfl,rfl,hb,hbl,hq2⟩
 show At _ _ _ [Mq,N8,Mp,Na,Nk,Nl,R] _
 refine op_callR U (.cons U .nil) ((FHashes_p hq2 hk2).liftB hNR) (F:= [N8,Mp,Na,Nk,Nl,R]) (Lst':= [Nl,R]) Tryz.func92 U U (.refl _) (by simp) U (.refl _) (.cons _ (.cons _ (.cons _ (.cons _ (.refl _))))) ?_ ?_
 ·rintro _ _ ⟨e,rfl,rfl,hks⟩
  show At _ _ _ [N8,Mp,Na,Nk,Nl,R] _
  refine dH (bW (bJ (bH (cK (cP (L1:= []) (.refl _) aJ ?_)))))
  exact⟨e,rfl,rfl,by simp only [accE,he,hb,hks]⟩
 rintro _ _ ⟨Mq,NK,ak,ck,ks,rfl,rfl,hks,hq3,rk,h32⟩
 show At _ _ _ [Mq,NK,N8,Mp,Na,Nk,Nl,R] _
 refine cM (out:=AV.cells ⟨b,ak,ks.length,ck⟩) (nxrf U U U) ze117 pl117 (.cons U (.cons U .nil)) (fill_acc hbl _ _ _ _ U) U ?_
 refine op_lit (Nx.agree (nxrm rfl rfl rfl)) Tryz.underlying29 ze117 sz117 (.cons rfl .nil) rfl rfl (by(intro p hp;rw [List.mem_singleton.1 hp];exact AV.cells_len (x:=⟨b,ak,ks.length,ck⟩) hbl)) rfl rfl rfl (fun N16 a16 r16=>?_)
 simp only [flatV,List.flatMap_cons,List.flatMap_nil,Value.cells,List.append_nil,List.cons_append,List.nil_append]at r16
 have s16:=r16.rsl
 refine bN (bN (aM (bN (bN (bN (bN (bN (bN (At.moreR (Lst:= [Nl,R]) (Lst':= [N16,Nl,R]) (.cons _ (.refl _)) (.cons _ (.cons _ (.cons _ (.cons _ (.cons _ (.cons _ (.refl _))))))) ?_)))))))))
 have s16:RSl N16 21 a16 1 1 (accC [⟨b,ak,ks.length,ck⟩]):=by
  have:=r16.rsl
  simp only [accC,List.flatMap_cons,List.flatMap_nil,List.append_nil]
  exact this
 refine op_append (nxrs U U U U) Tryz.underlying29 Tryz.underlying29 te117 U U r s16 (by simp) (accC_one _) (by omega) (by omega) sel4 U (fun N17 a17 p17 r17=>?_)
 have s17:=r17.rsl
 refine At.anyR (.refl _) ?_
 rw [accC,accC, ←List.flatMap_append]at r17
 change Row N17 _ 21 a17 (m+1) p17 (accC (xs++ [⟨b,ak,ks.length,ck⟩]))at r17
 refine aF (nxrl U U U U) sz29 U U U U U Bl (by simp) sel7 (fun Nl Bl=>?_)
 simp only [setL,List.set]at Bl
 refine At.rNil (At.norX (bN (bN (aZ (aZ (bC (bC (bC (aZ (bN (dI (fun J J1 J2=>dropAt6 (dH (bW (aL (bO (aN (aN (aL (At.retNE (L1:= [Mp,Nl,N17,J]) U .nil U (.refl _) aJ ?_))))))))))))))))))))
 exact⟨Mp,Nl,N17,J,⟨b,ks⟩,⟨b,ak,ks.length,ck⟩,a17,p17,rfl,by simp only [accE,he,hb,hks],hp,Bl,r17,(hk.le J1).snoc ⟨rfl,hbl,rfl,rk.rsl.le J2,h32⟩⟩
def AccV (b:Nat) (gs:List AccM) (N:Heaplet):Prop:= ∃Nl Na Nk a c xs,[Nl,Na,Nk].Pairwise Apart∧N=joinL [Nl,Na,Nk]∧Blk Nl b 29 [.slice a gs.length c]∧Row Na 117 21 a gs.length c (accC xs)∧AccsN Nk gs xs
theorem FAccess1_p {NO:Heaplet} (h:PartsN Np NI bp (z::zs) (t::ts)) (hV:AccV bl gs NO) (hm:gs.length<1099511627776) (hI:ItOK 1099511627776 t):
 FnE Tryz.prog 142 ([Value.pointer (some ⟨bp,0,none⟩)]++ [Value.pointer (some ⟨bl,0,none⟩)]).toArray [Np,NO] [NI] (fun _ L=> ∃Np NO g,L= [Np,NO]∧accE t=.ok g∧PartsN Np NI bp zs ts∧AccV bl (gs++ [g]) NO) (fun v L=> ∃e:Nat,v=gaveV e∧L= []∧accE t=.error e):=by
 obtain⟨Nl,Na,Nk,a,c,xs,hA,rfl,B,r,hk⟩:=hV
 refine FnE.packR hA (FAccess1_0 h B r hk hm hI) fun v L hp=>?_
 obtain⟨Mp,Ml,Ma,Mk,g,x,a',c',rfl,he,hq,B',r',hk'⟩:=hp
 refine⟨Mp,[Ml,Ma,Mk],rfl,fun hA'=>⟨Mp,_,g,rfl,he,hq,Ml,Ma,Mk,a',c',xs++ [x],hA',rfl,?_,?_,hk'⟩⟩
 ·rw [List.length_append];exact B'
 ·rw [List.length_append];exact r'
def accessE:It→Except Nat (List AccM):=eachE accE
theorem FAccess_p (h:PartsN Np NI bp (z::zs) (t::ts)) (hk: ∀its,listE t=.ok its→its.length≤1099511627776∧ ∀y∈its,ItOK 1099511627776 y):FnE Tryz.prog 91 #[.pointer (some ⟨bp,0,none⟩)] [Np] [NI] (fun v L=> ∃Np Na Nk a c gs xs,v=.slice a gs.length c∧L= [Np,Na,Nk]∧accessE t=.ok gs∧PartsN Np NI bp zs ts∧Row Na 117 21 a gs.length c (accC xs)∧AccsN Nk gs xs) (fun v L=> ∃e:Nat,v=gaveV e∧L= []∧accessE t=.error e):=by
 refine FnE.enter (vs:= [.pointer (some ⟨bp,0,none⟩)]) Tryz.func91 U U U ?_
 intro E R hR
 have hNR:=hR NI (by simp)
 change At _ _ E [Np,R] _
 refine aC fun _ s_1=>aA (aR U U (aB (s_1 (aC fun _ s_2=>aA (bK bU ze29 U (fun N3 b3 B3=>?_))))))
 change Blk N3 b3 _ [.slice none 0 0]at B3
 refine aB (s_2 (aC fun _ s_3=>aA (aH U U (op_mkF aE .nil (.cons U .nil) U (cV (cV (aL (aL (aM (aN (aL (At.pack (As:= [N3,nilH,nilH]) (fun hANO=>?_)))))))))))))
 obtain⟨NO,eNO⟩: ∃N,N=joinL [N3,nilH,nilH]:=⟨_,rfl⟩
 rw [←eNO]
 have hE:=FEach_p (g:=accE) (Inv:=fun _=>AccV b3) (f:=142) (caps:= [Value.pointer (some ⟨b3,0,none⟩)]) h (NO:=NO) ⟨N3,nilH,nilH,none,0,[],hANO,eNO,B3,Row.nil _ _ _,AccsN.nil⟩ (fun its hi=>(hk its hi).1) (El:=ItOK 1099511627776) (fun its hi=>(hk its hi).2) Tryz.func142 rfl rfl fun Nq NO bq z zs ys t ts l h1 h2 _ h3 h4=>FAccess1_p h1 h2 h3 h4
 refine aM (bO (aM (bM (.cons U (.cons U .nil)) (hE.liftB hNR) (F:= [R]) Tryz.func53 U U (.refl _) (by simp) U ?_ ?_)))
 ·rintro _ _ ⟨e,rfl,rfl,he⟩
  show At _ _ _ [R] _
  refine aY ((cP (L1:= []) (.refl _) aJ ?_))
  exact⟨e,rfl,rfl,he⟩
 rintro _ _ ⟨Mp,NV,gs,ys,rfl,rfl,he,hp,⟨N3,Na,Nk,a,c,xs,hA,eNV,B3,r,hg⟩,_⟩
 show At _ _ _ [Mp,NV,R] _
 refine aB (s_3 (aC fun _ s_4=>aA (aM (bO (aM ?_)))))
 try rw [eNV]
 refine At.unpack hA ?_
 show At _ _ _ [N3,Na,Nk,Mp,R] _
 refine aK aE sc29 U B3 U bI U ?_
 refine aR U U (aB (s_4 (a0 ((At.retX (cK (aN (aM (aM (aN (cI (L1:= [Mp,Na,Nk]) U (.tmp U .nil) (.refl _) aJ ?_)))))))))))
 exact⟨Mp,Na,Nk,a,c,gs,xs,rfl,rfl,he,hp,r,hg⟩
end
def Dne {α:Type} (r:Except Nat (List α)) (xs:List α) (E:Nat):Prop:=(E=0∧r=.ok xs)∨(E≠0∧r=.error E)
section
variable {α : Type} {g : It → Except Nat α}
def snE:Except Nat (List α)→Except Nat α→Except Nat (List α)
 |.error e,_=>.error e
 |.ok _,.error e=>.error e
 |.ok xs,.ok x=>.ok (xs++ [x])
theorem mapE_snoc (l:List It) (t:It):mapE g (l++ [t])=snE (mapE g l) (g t):=by
 induction l with
 |nil=>
  simp only [List.nil_append,mapE]
  cases g t<;>rfl
 |cons u l ih=>
  rw [List.cons_append,mapE,mapE,ih]
  cases g u with
  |error e=>rfl
  |ok a=>
   cases mapE g l with
   |error e=>rfl
   |ok xs=>
    cases g t<;>rfl
theorem Dne.step {l:List It} {t:It} {xs:List α} {x:α} {E E':Nat} (h:Dne (mapE g l) xs E) (hs:Stp E (g t) x E'):Dne (mapE g (l++ [t])) (xs++ [x]) E':=by
 rw [mapE_snoc]
 rcases h with ⟨rfl,h⟩|⟨h0,h⟩
 ·rw [h]
  rcases hs with ⟨h1,rfl⟩|⟨e,h1,h2,rfl⟩
  ·rw [h1];exact .inl ⟨rfl,rfl⟩
  ·rw [h1];exact .inr ⟨h2,rfl⟩
 ·rw [h]
  rcases hs with ⟨h1,rfl⟩|⟨e,h1,h2,rfl⟩
  ·exact .inr ⟨h0,rfl⟩
  ·rw [if_neg h0];exact .inr ⟨h0,rfl⟩
theorem stp_each {t:It} {its:List It} {xs:List α} {E E1 E2:Nat} (h:Stp E (listE t) its E1) (hd:Dne (mapE g its) xs E2):Stp E (eachE g t) xs (if E1=0 then E2 else E1):=by
 rcases h with ⟨h1,rfl⟩|⟨e,h1,h2,rfl⟩
 ·rcases hd with ⟨rfl,h3⟩|⟨h0,h3⟩
  ·refine .inl ⟨by simp only [eachE,h1,h3],?_⟩
   split
   ·rename_i h;exact h.symm
   ·rfl
  ·exact .inr ⟨E2,by simp only [eachE,h1,h3],h0,rfl⟩
 ·refine .inr ⟨e,by simp only [eachE,h1],h2,?_⟩
  by_cases hE:E=0
  ·rw [if_pos hE,if_neg h2]
  ·rw [if_neg hE,if_neg hE]
end
theorem take_nx {α:Type} {l:List α} {i:Nat} {x:α} (h:l[i]? =some x):l.take (i+1)=l.take i++ [x]:=by
 rw [List.take_add_one,h];rfl
theorem snoc32 {hs:List (List UInt8)} {b:List UInt8} (h: ∀x∈hs,x.length=32) (hb:b.length=32): ∀x∈hs++ [b],x.length=32:=fun x hx=>by
 rcases List.mem_append.1 hx with hx|hx
 ·exact h x hx
 ·rw [List.mem_singleton.1 hx];exact hb
section
variable {Np NI : Heaplet} {bp i E : Nat} {all : List It}
def RHashesP (NI:Heaplet) (bp:Nat) (all:List It) (i E:Nat) (v:Value) (L:List Heaplet):Prop:= ∃Np Na a c hs E',v=.slice a hs.length c∧L= [Np,Na]∧PartsQ Np NI bp all (i+1) E'∧Row Na 40 32 a hs.length c (hashC hs)∧(∀x∈hs,x.length=32)∧Stp E (hashesE (nxt all i)) hs E'
set_option maxHeartbeats 1000000 in
theorem RHashes (h:PartsQ Np NI bp all i E) (hi:i≤9000000000000000000) (hk:(nxt all i).items.length≤1099511627776):Fn Tryz.prog 44 #[.pointer (some ⟨bp,0,none⟩)] [Np] [NI] (RHashesP NI bp all i E):=by
 refine Fn.enter (vs:= [.pointer (some ⟨bp,0,none⟩)]) Tryz.func44 U U U ?_
 intro E R hR
 have hNR:=hR NI (by simp)
 change At _ _ E [Np,R] _
 refine aC fun _ s_1=>aA (aR U U (aB (s_1 (aC fun _ s_2=>aA (aH U U (cA cL (.cons U .nil) ((RListI h hi).liftB hNR) (F:= [R]) Tryz.func61 U U aJ (by simp) U ?_))))))
 rintro _ _ ⟨Np,E1,its,ao,n,cap,xs,rfl,rfl,hP,hs,hX,hst,hil⟩
 show At _ _ _ [Np,R] _
 have hsR:=hs.le hNR;have hXR:=hX.le hNR;have hxl:=hX.length;have hn:xs.length=n:=(by have:=hs.1;rw [length_cellsI]at this;omega);have hcap:=hs.cap63;rw [←hil]at hk
 refine cM (out:= [_,.int .i64 0,.int .i64 0]) aE ze105 pl105 (.cons rfl .nil) rfl rfl (op_box bU rfl rfl rfl (fun N8 b8 B8=>aR rfl rfl (aB (s_2 (aC fun _ s_3=>aA (aR rfl rfl (aB (s_3 (aC fun _ s_4=>bZ (cV (aN (aN (aM (aN (At.loop (fun fr_ hp_ ms_=> ∃(j E2:Nat) (hs2:List (List UInt8)) (a:Option Addr) (c:Nat) (Na Nq:Heaplet),fr_= [(0,.pointer (some ⟨bp,0,none⟩)),(3,.pointer (some ⟨b8,0,none⟩)),(4,.slice a j c)]∧hp_= [Nq,Na,Np,R]∧its.length- j=ms_∧(hs2.length=j∧j≤its.length)∧(PartsQ Nq R b8 its j E2)∧(Row Na 40 32 a j c (hashC hs2))∧(∀x∈hs2,x.length=32)∧(Dne (mapE (fixE 32) (its.take j)) hs2 E2)) ?_ aJ ⟨0,0,[],none,0,nilH,N8,rfl,rfl,rfl,⟨rfl,Nat.zero_le _⟩,⟨ao,n,cap,xs,B8,hsR,hXR⟩,Row.nil _ _ _,(fun x hx=>by cases hx),.inl ⟨rfl,rfl⟩⟩ ?_)))))))))))))))
 ·repeat first|apply cW|exact .nil|exact lkI rfl (by omega)|rfl
 rintro _ _ _ ⟨j,E2,hs2,a,c,Na,Nq,rfl,rfl,rfl,hj,hQ,ra,h32,hdn⟩
 obtain⟨aq,nq,cq,xq,Bq,hsq,hXq⟩:=id hQ
 have hxq:=hXq.length
 have hnq:xq.length=nq:=by have:=hsq.1;rw [length_cellsI]at this;omega
 refine aC fun _ s_5=>aC fun _ s_6=>aN (bO (aN (aN (At.drawnS [Nq,R] [] [] [0,1,2,3,4,5,6,7,8,9] (by kernel_rfl) (by kernel_rfl) (.cons _ (.cons _ (.refl _))) (aP (cD U U U) U U (aW (cD U U U) U U (aD (cD U U U) fl105_1 U U (aK (cD U U U) sc3 U Bq U bI U ?_))))))))
 refine aP (cD U U U) U U (aW (cD U U U) U U (aD (cD U U U) fl105_0 U U (aK (cD U U U) sc89 U Bq U bI U ?_)))
 refine cF (cD U U U) se89 U U (op_lss (cD U U U) U U U (At.sNil (aI (s_6 (aQ U (fun c18=>?_) (fun c18=>?_))))))
 ·obtain⟨t,htj⟩: ∃t,its[j]? =some t:=⟨_,List.getElem?_eq_getElem (by omega)⟩
  refine aT (aI (s_5 (bZ (aA (aH U U (aH U U (aN (aM (aM (aN (cA cL (.cons U .nil) (RHash hQ (by omega)) (F:= [Na,Np,R]) Tryz.func97 U U aJ (by simp) U ?_)))))))))))
  rintro _ _ ⟨Nq,b,E3,rfl,hb,rfl,hQ,hst3⟩
  show At _ _ _ [Nq,Na,Np,R] _
  refine op_lit bU Tryz.underlying30 ze40 sz40 (.cons rfl .nil) rfl rfl (by(intro p hp;rw [List.mem_singleton.1 hp];show(u8s b).length=32;rw [bL,hb])) rfl rfl rfl (fun N22 a22 r22=>?_)
  simp only [flatV,List.flatMap_cons,List.flatMap_nil,Value.cells,List.append_nil,List.cons_append,List.nil_append]at r22
  have s22:=r22.rsl
  change RSl N22 32 a22 1 1 (u8s b)at s22
  rw [show u8s b=hashC [b] by simp [hashC]]at s22
  refine op_append cL Tryz.underlying30 Tryz.underlying30 te40 U U ra (by assumption) (by simp) (hashC_one _) (by omega) (by omega) sel2 U (fun N23 a23 p23 r23=>?_)
  have s23:=r23.rsl
  rw [hashC,hashC, ←List.flatMap_append]at r23
  change Row N23 _ 32 a23 (j+1) p23 (hashC (hs2++ [b]))at r23
  refine aR U U (cX (cS (aI (bH (aN (aN (aM (aN ?_))))))))
  refine At.back ?_ aJ ⟨j+1,E3,hs2++ [b],a23,p23,N23,Nq,rfl,rfl,rfl,⟨by rw [List.length_append,hj.1];rfl,by omega⟩,hQ,r23,snoc32 h32 hb,by rw [take_nx htj, ←nxt_at htj];exact hdn.step hst3⟩ ?_
  ·repeat first|apply cW|exact .nil|exact lkI rfl (by omega)|rfl
  ·omega
 refine At.exit (bB (bB (dE (aI (s_4 (aC fun _ s_7=>aA (aH U U (aH U U (aN (aN (aM (aN (cA cL (.cons U (.cons U .nil)) (RWrong0 hP hQ) (F:= [Na,Nq,R]) Tryz.func63 U U aJ (by simp) U ?_)))))))))))))
 rintro _ _ ⟨Np,rfl,rfl,hP⟩
 show At _ _ _ [Np,Na,Nq,R] _
 refine aB (s_7 (aC fun _ s_8=>aA (aH U U (aR U U (aB (s_8 (a0 ((bJ (cI (L1:= [Np,Na]) U (.tmp U .nil) (.refl _) aJ ?_))))))))))
 rw [List.take_of_length_le (by omega)]at hdn
 obtain⟨rfl,_⟩:=hj
 exact⟨Np,Na,a,c,hs2,_,rfl,rfl,hP,ra,h32,stp_each hst hdn⟩
theorem acc_snoc {J Nk N37:Heaplet} {gs:List AccM} {xs:List AV} {b:List UInt8} {ak:Option Addr} {ck:Nat} {ks:List (List UInt8)} (hg:AccsN Nk gs xs) (h1:Nk.le J) (h2:N37.le J) (hb:b.length=20) (rk:Row N37 40 32 ak ks.length ck (hashC ks)) (h32: ∀x∈ks,x.length=32):AccsN J (gs++ [⟨b,ks⟩]) (xs++ [⟨b,ak,ks.length,ck⟩]):=
 (hg.le h1).snoc ⟨rfl,hb,rfl,rk.rsl.le h2,h32⟩
def Deep3 (t:It):Prop:=t.items.length≤1099511627776∧ ∀y∈t.items,y.items.length≤1099511627776∧ ∀u∈y.items,u.items.length≤1099511627776
theorem nxt_mem {l:List It} {k:Nat} {P:It→Prop} (h: ∀u∈l,P u) (h0:P (itS [])):P (nxt l k):=by
 rcases Nat.lt_or_ge k l.length with hk|hk
 ·rw [nxt_at (List.getElem?_eq_getElem hk)];exact h _ (List.getElem_mem hk)
 ·rw [nxt_no hk];exact h0
theorem fill_acc0 {a:List UInt8} (ha:a.length=20) (cs:List Value) (hc:cs.length=21) (hd:cs.drop 20= [.slice none 0 0]):
 fillL [(0,20),(20,1)] cs [(0,.agg (u8s a).toArray)]=some (AV.cells ⟨a,none,0,0⟩):=by
 have hu:(u8s a).length=20:=by rw [bL,ha]
 have e0:setL cs 0 (u8s a)=u8s a++ [.slice none 0 0]:=by rw [setL_head (by omega),hu,hd]
 have c0:(Value.agg (u8s a).toArray).cells.toList=u8s a:=rfl
 simp only [fillL,List.getElem?_cons_zero,c0,hu,hc,e0]
 rw [if_pos (by decide)]
 rfl
theorem acc_set {a:List UInt8} (ha:a.length=20) {k:Option Addr} {n c:Nat} :setL (AV.cells ⟨a,none,0,0⟩) 20 [.slice k n c]=AV.cells ⟨a,k,n,c⟩:=by
 have hu:(u8s a).length=20:=by rw [bL,ha]
 have:=setL_append [.slice k n c] (u8s a) [.slice none 0 0] [] rfl
 rw [hu]at this
 simpa [AV.cells]using this
theorem stp_acc {t:It} {its2:List It} {b:List UInt8} {ks:List (List UInt8)} {E2 E3 E4 F1 F2:Nat} (h:Stp E2 (listE t) its2 E3) (h4:E4=if its2.length≠2 then (if E3=0 then 2 else E3)else E3) (ha:Stp 0 (fixE 20 (nxt its2 0)) b F1) (hh:Stp F1 (hashesE (nxt its2 1)) ks F2):Stp E2 (accE t) ⟨b,ks⟩ (if E4=0 then F2 else E4):=by
 rcases h with ⟨h1,h3⟩|⟨e,h1,h2,h3⟩
 ·rw [h3]at h4
  by_cases hl:its2.length=2
  ·rw [if_neg (by omega)]at h4
   rw [h4]
   obtain⟨u,y,rfl⟩: ∃u y,its2= [u,y]:=by
    match its2,hl with
    | [u,y],_=>exact⟨u,y,rfl⟩
   have ha:Stp 0 (fixE 20 u) b F1:=ha
   have hh:Stp F1 (hashesE y) ks F2:=hh
   rcases ha with ⟨a1,rfl⟩|⟨e,a1,a2,rfl⟩
   ·rcases hh with ⟨b1,rfl⟩|⟨e,b1,b2,rfl⟩
    ·refine .inl ⟨by simp only [accE,h1,a1,b1],?_⟩
     split
     ·rename_i h;exact h.symm
     ·rfl
    ·exact .inr ⟨F2,by simp only [accE,h1,a1,b1],b2,rfl⟩
   ·have hF:F2=F1:=by
     rcases hh with ⟨_,b2⟩|⟨_,_,_,b2⟩
     ·exact b2
     ·rw [b2,if_neg a2]
    exact .inr ⟨F1,by simp only [accE,h1,a1],a2,by rw [hF]⟩
  ·rw [if_pos hl]at h4
   refine .inr ⟨2,accE_ne h1 (by simpa using hl),by decide,?_⟩
   rw [h4]
   by_cases hE:E2=0
   ·rw [if_pos hE,if_neg (by decide)]
   ·rw [if_neg hE,if_neg hE]
 ·have h30:E3≠0:=by
   rw [h3];split
   ·exact h2
   ·assumption
  have h44:E4=E3:=by
   by_cases hq:its2.length≠2
   ·rw [h4,if_pos hq,if_neg h30]
   ·rw [h4,if_neg hq]
  exact .inr ⟨e,by simp only [accE,h1],h2,by rw [h44,if_neg h30];exact h3⟩
def RAccessP (NI:Heaplet) (bp:Nat) (all:List It) (i E:Nat) (v:Value) (L:List Heaplet):Prop:= ∃Np Na Nk a c gs xs E',v=.slice a gs.length c∧L= [Np,Na,Nk]∧PartsQ Np NI bp all (i+1) E'∧Row Na 117 21 a gs.length c (accC xs)∧AccsN Nk gs xs∧Stp E (accessE (nxt all i)) gs E'
set_option maxHeartbeats 2000000 in
theorem RAccess (h:PartsQ Np NI bp all i E) (hi:i≤9000000000000000000) (hk:Deep3 (nxt all i)):Fn Tryz.prog 43 #[.pointer (some ⟨bp,0,none⟩)] [Np] [NI] (RAccessP NI bp all i E):=by
 refine Fn.enter (vs:= [.pointer (some ⟨bp,0,none⟩)]) Tryz.func43 U U U ?_
 intro E R hR
 have hNR:=hR NI (by simp)
 change At _ _ E [Np,R] _
 refine aC fun _ s_1=>aA (aR U U (aB (s_1 (aC fun _ s_2=>aA (aH U U (cA cL (.cons U .nil) ((RListI h hi).liftB hNR) (F:= [R]) Tryz.func61 U U aJ (by simp) U ?_))))))
 rintro _ _ ⟨Np,E1,its,ao,n,cap,xs0,rfl,rfl,hP,hs,hX,hst,hil⟩
 show At _ _ _ [Np,R] _
 have hsR:=hs.le hNR;have hXR:=hX.le hNR;have hxl:=hX.length;have hn:xs0.length=n:=(by have:=hs.1;rw [length_cellsI]at this;omega);have hcap:=hs.cap63;unfold Deep3 at hk;rw [←hil]at hk
 refine cM (out:= [_,.int .i64 0,.int .i64 0]) aE ze105 pl105 (.cons U .nil) U U (op_box bU U U U (fun N10 b10 B10=>aR U U (aB (s_2 (aC fun _ s_3=>aA (aR U U (aB (s_3 (aC fun _ s_4=>bZ (cV (cV (aL (aL (aM (aN (aL (At.loop (fun fr_ hp_ ms_=> ∃(j E2:Nat) (gs:List AccM) (xs:List AV) (a:Option Addr) (c:Nat) (Na Nk Nq:Heaplet),fr_= [(0,.pointer (some ⟨bp,0,none⟩)),(3,.pointer (some ⟨b10,0,none⟩)),(4,.slice a j c)]∧hp_= [Nq,Na,Nk,Np,R]∧its.length- j=ms_∧(gs.length=j∧j≤its.length)∧(PartsQ Nq R b10 its j E2)∧(Row Na 117 21 a j c (accC xs))∧(AccsN Nk gs xs)∧(Dne (mapE accE (its.take j)) gs E2)) ?_ aJ ⟨0,0,[],[],none,0,nilH,nilH,N10,rfl,rfl,rfl,⟨rfl,Nat.zero_le _⟩,⟨ao,n,cap,xs0,B10,hsR,hXR⟩,Row.nil _ _ _,AccsN.nil,.inl ⟨rfl,rfl⟩⟩ ?_)))))))))))))))))
 ·repeat first|apply cW|exact .nil|exact lkI rfl (by omega)|rfl
 rintro _ _ _ ⟨j,E2,gs,xs,a,c,Na,Nk,Nq,rfl,rfl,rfl,hj,hQ,ra,hg,hdn⟩
 obtain⟨aq,nq,cq,xq,Bq,hsq,hXq⟩:=id hQ
 have hxq:=hXq.length
 have hnq:xq.length=nq:=by have:=hsq.1;rw [length_cellsI]at this;omega
 refine aC fun _ s_5=>aC fun _ s_6=>aL (bO (aL (aL (aL (At.drawnS [Nq,R] [] [] [0,1,2,3,4,5,6,7,8,9] (by kernel_rfl) (by kernel_rfl) (.cons _ (.cons _ (.cons _ (.refl _)))) (aP (cD U U U) U U (aW (cD U U U) U U (aD (cD U U U) fl105_1 U U (aK (cD U U U) sc3 U Bq U bI U ?_)))))))))
 refine aP (cD U U U) U U (aW (cD U U U) U U (aD (cD U U U) fl105_0 U U (aK (cD U U U) sc89 U Bq U bI U ?_)))
 refine cF (cD U U U) se89 U U (op_lss (cD U U U) U U U (At.sNil (aI (s_6 (aQ U (fun c20=>?_) (fun c20=>?_))))))
 ·obtain⟨t,htj⟩: ∃t,its[j]? =some t:=⟨_,List.getElem?_eq_getElem (by omega)⟩
  have hk3:=hk.2 t (List.mem_of_getElem? htj)
  rw [←nxt_at htj]at hk3
  refine aT (aI (s_5 (bZ (aC fun _ s_7=>aA (aH U U (aL (aN (aN (aN (aL (cA cL (.cons U .nil) (RListI hQ (by omega)) (F:= [Na,Nk,Np,R]) Tryz.func61 U U aJ (by simp) U ?_)))))))))))
  rintro _ _ ⟨Nq,E3,its2,ar,nr,cr,xr,rfl,rfl,hQ,hsr,hXr,hst3,hil3⟩
  show At _ _ _ [Nq,Na,Nk,Np,R] _
  have hxr:=hXr.length;have hnr:xr.length=nr:=(by have:=hsr.1;rw [length_cellsI]at this;omega);have hcr:=hsr.cap63;rw [←hil3]at hk3
  refine cM (out:= [_,.int .i64 0,.int .i64 0]) aE ze105 pl105 (.cons U .nil) U U (op_box bU U U U (fun N24 b24 B24=>aR U U (aB (s_7 (aC fun _ s_8=>At.meet (fun fr_ hp_=> ∃(E4:Nat) (Nq:Heaplet),fr_= [(0,.pointer (some ⟨bp,0,none⟩)),(3,.pointer (some ⟨b10,0,none⟩)),(4,.slice a j c),(5,.pointer (some ⟨b24,0,none⟩))]∧hp_= [N24,Nq,Na,Nk,Np,R]∧(PartsQ Nq R b10 its (j+1) E4)∧(E4=if its2.length≠2 then (if E3=0 then 2 else E3)else E3)) ?_ (fun K8_ jk_8=>?_))))))
  rotate_left
  ·skip
   refine aC fun _ s_9=>aA (aH U U (aW aE U U (aD aE fl105_0 U U (aK aE sc89 U B24 U bI U ?_))))
   refine cF aE se89 U U (dG aE U U U (aB (s_9 (aQ U (fun c30=>?_) (fun c30=>?_)))))
   ·refine aA (aH U U (aG (aG (aG (aG (aL (aG (cA cL (.cons U (.cons U .nil)) (RWrong hQ 2) (F:= [N24,Na,Nk,Np,R]) Tryz.func62 U U aJ (by simp) U ?_))))))))
    rintro _ _ ⟨Nq,rfl,rfl,hQ⟩
    show At _ _ _ [Nq,N24,Na,Nk,Np,R] _
    refine cX (aG (aG (aG (aG (aL (aG (aI (jk_8 ?_ aJ ⟨_,Nq,rfl,rfl,hQ,(if_pos (show its2.length≠2 by omega)).symm⟩))))))))
    repeat first|apply cW|exact .nil|exact lkI rfl (by omega)|rfl
   refine aT (aI (jk_8 ?_ aJ ⟨_,Nq,rfl,rfl,hQ,(if_neg (show ¬its2.length≠2 by omega)).symm⟩))
   repeat first|apply cW|exact .nil|exact lkI rfl (by omega)|rfl
  rintro _ _ ⟨E4,Nq,rfl,rfl,hQ,hE4⟩
  refine s_8 (aC fun _ s_10=>aA (aH U U (cA cL (.cons U .nil) (RAddr (Np:=N24) (NI:=R) (bp:=b24) (all:=its2) (i:=0) (E:=0) ⟨ar,nr,cr,xr,B24,hsr,hXr⟩ (by omega)) (F:= [Nq,Na,Nk,Np,R]) Tryz.func41 U U aJ (by simp) U ?_)))
  rintro _ _ ⟨Mr,b,F1,rfl,hb,rfl,hQr,hstA⟩
  show At _ _ _ [Mr,Nq,Na,Nk,Np,R] _
  refine cM (out:=AV.cells ⟨b,none,0,0⟩) aE ze117 pl117 (.cons U .nil) (fill_acc0 hb _ U U) U (bK bU ze117 U (fun N6 b6 B6=>?_))
  change Blk N6 b6 _ [.int .u8 0,.int .u8 0,.int .u8 0,.int .u8 0,.int .u8 0,.int .u8 0,.int .u8 0,.int .u8 0,.int .u8 0,.int .u8 0,.int .u8 0,.int .u8 0,.int .u8 0,.int .u8 0,.int .u8 0,.int .u8 0,.int .u8 0,.int .u8 0,.int .u8 0,.int .u8 0,.slice none 0 0]at B6
  refine aF cL sz117 U U U (AV.cells_len (x:=⟨b,none,0,0⟩) hb) (AV.cells_one _) B6 (by rw [AV.cells_len (x:=⟨b,none,0,0⟩) hb];exact Nat.le_refl _) dB (fun N6 B6=>?_)
  rw [bG (by rw [AV.cells_len (x:=⟨b,none,0,0⟩) hb];rfl)]at B6
  refine aB (s_10 (aC fun _ s_11=>aA (aH U U (bC (bC (bC (bC (bC (aG (bC (cA cL (.cons U .nil) (RHashes hQr (by omega) (nxt_mem (fun u hu=>hk3.2 u hu) (Nat.zero_le _))) (F:= [N6,Nq,Na,Nk,Np,R]) Tryz.func44 U U aJ (by simp) U ?_)))))))))))
  rintro _ _ ⟨Mr,N37,ak,ck,ks,F2,rfl,rfl,hQr,rk,h32,hstH⟩
  show At _ _ _ [Mr,N37,N6,Nq,Na,Nk,Np,R] _
  refine aD aE fl117_1 U U ?_
  refine aF cL sz30 U U U U U B6 (by rw [AV.cells_len (x:=⟨b,none,0,0⟩) hb];exact Nat.le_refl _) sel2 (fun N6 B6=>?_)
  rw [acc_set hb]at B6
  refine aB (s_11 (aC fun _ s_12=>aA (aH U U (aH U U (aZ (aZ (aZ (aZ (bC (bC (bC (aZ (cA cL (.cons U (.cons U .nil)) (RWrong0 hQ hQr) (F:= [N6,Mr,N37,Na,Nk,Np,R]) Tryz.func63 U U aJ (by simp) U ?_)))))))))))))
  rintro _ _ ⟨Nq,rfl,rfl,hQ⟩
  show At _ _ _ [Nq,N6,Mr,N37,Na,Nk,Np,R] _
  refine aB (s_12 (aA (aH U U (aV (ds:=AV.cells ⟨b,ak,ks.length,ck⟩) aE ag117 U B6 (by exact bY (AV.cells_len (x:=⟨b,ak,ks.length,ck⟩) hb)) (by exact AV.cells_len (x:=⟨b,ak,ks.length,ck⟩) hb) mem1 U ?_))))
  refine op_lit bU Tryz.underlying29 ze117 sz117 (.cons rfl .nil) rfl rfl (by(intro p hp;rw [List.mem_singleton.1 hp];exact AV.cells_len (x:=⟨b,ak,ks.length,ck⟩) hb)) rfl rfl rfl (fun N44 a44 r44=>?_)
  simp only [flatV,List.flatMap_cons,List.flatMap_nil,Value.cells,List.append_nil,List.cons_append,List.nil_append]at r44
  have s44:=r44.rsl
  have hst4:Stp E2 (listE t) its2 E3:=by rw [nxt_at htj]at hst3;exact hst3
  have hst5:=stp_acc hst4 hE4 hstA hstH
  have hdn2:Dne (mapE accE (its.take (j+1))) (gs++ [⟨b,ks⟩]) (if E4=0 then F2 else E4):=by
   rw [take_nx htj]
   exact hdn.step hst5
  have s44:RSl N44 21 a44 1 1 (accC [⟨b,ak,ks.length,ck⟩]):=by
   have:=r44.rsl
   simp only [accC,List.flatMap_cons,List.flatMap_nil,List.append_nil]
   exact this
  refine op_append cL Tryz.underlying29 Tryz.underlying29 te117 U U ra s44 (by simp) (accC_one _) (by omega) (by omega) sel5 U (fun N45 a45 p45 r45=>?_)
  have s45:=r45.rsl
  rw [accC,accC, ←List.flatMap_append]at r45
  change Row N45 _ 21 a45 (j+1) p45 (accC (xs++ [⟨b,ak,ks.length,ck⟩]))at r45
  refine aR U U (cX (cS (aI (bN (bN (bC (bC (bC (bC (bC (aZ (bN (dI (fun J J1 J2=>dropAt5 (dH (bJ (aL (aL (aM (aN (aL ?_)))))))))))))))))))))
  refine At.back ?_ aJ ⟨j+1,(if E4=0 then F2 else E4),gs++ [⟨b,ks⟩],xs++ [⟨b,ak,ks.length,ck⟩],a45,p45,N45,J,Nq,rfl,rfl,rfl,⟨by rw [List.length_append,hj.1];rfl,by omega⟩,hQ,r45,acc_snoc hg J1 J2 hb rk h32,hdn2⟩ ?_
  ·repeat first|apply cW|exact .nil|exact lkI rfl (by omega)|rfl
  ·omega
 refine At.exit (bB (bB (dE (aI (s_4 (aC fun _ s_13=>aA (aH U U (aH U U (aL (aL (aN (aN (aL (cA cL (.cons U (.cons U .nil)) (RWrong0 hP hQ) (F:= [Na,Nk,Nq,R]) Tryz.func63 U U aJ (by simp) U ?_))))))))))))))
 rintro _ _ ⟨Np,rfl,rfl,hP⟩
 show At _ _ _ [Np,Na,Nk,Nq,R] _
 refine aB (s_13 (aC fun _ s_14=>aA (aH U U (aR U U (aB (s_14 (a0 ((bW (cI (L1:= [Np,Na,Nk]) U (.tmp U .nil) (.refl _) aJ ?_))))))))))
 rw [List.take_of_length_le (by omega)]at hdn
 obtain⟨rfl,_⟩:=hj
 exact⟨Np,Na,Nk,a,c,gs,xs,_,rfl,rfl,hP,ra,hg,stp_each hst hdn⟩
end
def txP (ki:Int) (ch nn pr tp ga:Nat) (mk:Bool) (to:List UInt8) (va:Nat) (d a:Value) (bf:Nat) (b:Value) (od:Bool) (r s:Nat):List (List Value):= [[.int .i64 ki],[.int .u64 (ch:Int)],[.int .u64 (nn:Int)],u64s (wl pr),u64s (wl tp),[.int .u64 (ga:Int)],[.bool mk],u8s to,u64s (wl va),[d],[a],u64s (wl bf),[b],[.bool od],u64s (wl r),u64s (wl s)]
def txLens:List Nat:= [1,1,1,4,4,1,1,20,4,1,1,4,1,1,4,4]
section
variable {ki : Int} {ch nn pr tp ga va bf r s : Nat} {mk od : Bool} {to : List UInt8} {d a b : Value}
theorem txP_lens (ht:to.length=20):(txP ki ch nn pr tp ga mk to va d a bf b od r s).map List.length=txLens:=by
 simp only [txP,List.map_cons,List.map_nil,bL,u64s_len,length_wl,ht]
 rfl
theorem aX (ht:to.length=20):(txP ki ch nn pr tp ga mk to va d a bf b od r s).flatten.length=53:=by
 rw [flatten_len,txP_lens ht];rfl
def zero20:List UInt8:=List.replicate 20 0
theorem part_copy {ps:List (List Value)} {ls:List Nat} {j o:Nat} {p q:List Value} (hl:ps.map List.length=ls) (hp:ps[j]? =some p) (ho:(ls.take j).sum=o) (hq:q.length=p.length):ps.flatten.take o++q++ps.flatten.drop (o+q.length)=(ps.set j q).flatten:=by
 have h1:=(part_len hl j).trans ho
 obtain⟨hj,_⟩:=List.getElem?_eq_some_iff.1 hp
 rw [part_cut hp,List.take_left' h1, ←List.drop_drop,List.drop_left' h1,List.drop_left' hq.symm,List.set_eq_take_append_cons_drop,if_pos hj,List.flatten_append,List.flatten_cons,List.append_assoc]
def toE (ki:Int) (t:It):Except Nat (Bool×List UInt8):=match strE t with
 |.error e=>.error e
 |.ok l=>if l.length=20 then .ok (false,l)else if l.length=0∧ki≠3 then .ok (true,zero20)else .error 2
theorem toE_20 {t:It} {l:List UInt8} (he:strE t=.ok l) (h:l.length=20):toE ki t=.ok (false,l):=by simp only [toE,he];rw [if_pos h]
theorem toE_0 {t:It} {l:List UInt8} (he:strE t=.ok l) (h:l.length=0) (k:ki≠3):toE ki t=.ok (true,zero20):=by simp only [toE,he];rw [if_neg (by omega),if_pos ⟨h,k⟩]
theorem toE_bad {t:It} {l:List UInt8} (he:strE t=.ok l) (h: ¬l.length=20) (k: ¬(l.length=0∧ki≠3)):toE ki t=.error 2:=by simp only [toE,he];rw [if_neg h,if_neg k]
theorem yes_no {P:Prop} (h:true=false):P:=by cases h
theorem no_yes {P:Prop} (h:false=true):P:=by cases h
end
section
variable {Np NI Nt : Heaplet} {bp bt : Nat} {t : It} {ts : List It} {z : IV} {zs : List IV} {ki : Int} {ch nn pr tp ga va bf r s : Nat} {mk od : Bool} {d a b : Value}
set_option maxHeartbeats 2000000 in
theorem FTo_p (h:PartsN Np NI bp (z::zs) (t::ts)) (B:Blk Nt bt 32 (txP ki ch nn pr tp ga mk zero20 va d a bf b od r s).flatten):
 FnE Tryz.prog 89 #[.pointer (some ⟨bp,0,none⟩),.pointer (some ⟨bt,0,none⟩)] [Np,Nt] [NI] (fun v L=> ∃Np Nt m l,v=.tuple #[]∧L= [Np,Nt]∧toE ki t=.ok (m,l)∧l.length=20∧PartsN Np NI bp zs ts∧Blk Nt bt 32 (txP ki ch nn pr tp ga m l va d a bf b od r s).flatten) (fun v L=> ∃(e:Nat) (Nt:Heaplet) (cs:List Value),v=gaveV e∧L= [Nt]∧toE ki t=.error e∧Blk Nt bt 32 cs∧cs.length=53):=by
 have h1:=FBytes_p h
 have hz:zero20.length=20:=List.length_replicate ..
 have hls:=fun(mk:Bool)=>txP_lens (ki:=ki) (ch:=ch) (nn:=nn) (pr:=pr) (tp:=tp) (ga:=ga) (mk:=mk) (va:=va) (d:=d) (a:=a) (bf:=bf) (b:=b) (od:=od) (r:=r) (s:=s) hz
 have hln:=fun(mk:Bool)=>aX (ki:=ki) (ch:=ch) (nn:=nn) (pr:=pr) (tp:=tp) (ga:=ga) (mk:=mk) (va:=va) (d:=d) (a:=a) (bf:=bf) (b:=b) (od:=od) (r:=r) (s:=s) hz
 refine FnE.enter (vs:= [.pointer (some ⟨bp,0,none⟩),.pointer (some ⟨bt,0,none⟩)]) Tryz.func89 U U U ?_
 intro E R hR
 have hNR:=hR NI (by simp)
 have h1:=h1.liftB hNR
 have Bt:=B
 change At _ _ E [Np,Nt,R] _
 refine aC fun _ s_1=>aA (aH U U (bM (.cons U .nil) (h1) (F:= [Nt,R]) Tryz.func90 U U (.refl _) (by simp) U ?_ ?_))
 ·rintro _ _ ⟨e,rfl,rfl,he⟩
  show At _ _ _ [Nt,R] _
  refine aY ((cP (L1:= [Nt]) (.refl _) aJ ?_))
  exact⟨e,Nt,_,rfl,rfl,by simp only [toE,he],Bt,hln mk⟩
 rintro _ _ ⟨Mp,pa,pc,l,rfl,rfl,he,hp,hr⟩
 show At _ _ _ [Mp,Nt,R] _
 have hrR:=hr.le hNR
 refine aR U U (aB (s_1 (aC fun _ s_2=>aA (aH U U (aH U U (cF aE se22 U U (dF aE U U U (aW aE U U (aD aE fl32_6 U U ?_)))))))))
 refine aF cL sz4 U U U U U Bt (by rw [hln];exact show 0+12+1≤53 by decide) sel1 (fun Nt Bt=>?_)
 rw [part_set (hls mk) (j:=6) (o:=0+12) (q:= [.bool (decide ((l.length:Int)=0))]) rfl rfl rfl]at Bt;change Blk Nt bt 32 (txP ki ch nn pr tp ga (decide ((l.length:Int)=0)) zero20 va d a bf b od r s).flatten at Bt
 refine aB (s_2 (aC fun _ s_3=>aA (aH U U (cF aE se22 U U (dF aE U U U (aH U U (cB (d:=16) U (fun g16=>?_) (fun g16=>?_))))))))
 ·refine aU U U U U U U U (aU U U U U U U U (aU U U U U U U U (aU U U U U U U U (aU U U U U U U U (op_skipU U U U U U U (op_skipU U U U U U U (op_skipU U U U U U U (op_skipU U U U U U U (op_skipU U U U U U U (aU U U U U U U U (cH aE U U U (bM (.cons U .nil) (FMust_any _) (F:= [Nt,Mp,R]) Tryz.func31 U U (.refl _) (by simp) U ?_ ?_))))))))))))
  ·rintro _ _ ⟨rfl,rfl,hb⟩
   show At _ _ _ [Nt,Mp,R] _
   refine aY ((bH (cP (L1:= [Nt]) (.refl _) aJ ?_)))
   first
    |exact yes_no hb
    |exact⟨2,Nt,_,rfl,rfl,toE_bad he (by omega) (fun k=>of_decide_eq_false hb k.2),Bt,hln _⟩
    |exact⟨2,Nt,_,rfl,rfl,toE_bad he (by omega) (fun k=>by omega),Bt,hln _⟩
  rintro _ _ ⟨rfl,rfl,hb⟩
  show At _ _ _ [Nt,Mp,R] _
  refine aB (s_3 (aA (aH U U (aW aE U U (aD aE fl32_7 U U (op_sliceA aE ae28 U .none .none .none (by omega) (by omega) (by omega) (by simp) U (aH U U ?_)))))))
  refine op_copyB cL se22 rfl rfl Bt hrR (by simp) (by first|exact one_u8s _|exact one_u64s _|exact one_u32s _|(intro u hu;simp at hu;subst hu;rfl)) (by rw [hln];omega) dB rfl (fun Nt Bt=>?_)
  skip
  refine cX (At.norX (aM (bO (aM (At.retNE (L1:= [Mp,Nt]) U .nil U (.refl _) aJ ?_)))))
  have h20:l.length=20:=by omega
  have e1:(u8s l).take (min l.length (20- 0))=u8s l:=List.take_of_length_le (by rw [bL];omega)
  have e2:min l.length (20- 0)=(u8s l).length:=by rw [bL];omega
  have e:=part_copy (q:=u8s l) (hls (decide ((l.length:Int)=0))) (j:=7) (o:=0+13+0*1) rfl rfl (by rw [bL,bL,h20,hz])
  rw [e1,e2,e]at Bt
  change Blk Nt bt 32 (txP ki ch nn pr tp ga (decide ((l.length:Int)=0)) l va d a bf b od r s).flatten at Bt
  rw [decide_eq_false (show ¬(l.length:Int)=0 by omega)]at Bt
  exact⟨Mp,Nt,false,l,rfl,rfl,toE_20 he h20,h20,hp,Bt⟩
 refine aP (bF U U U U) U U (aW (bF U U U U) U U (aD (bF U U U U) fl32_6 U U (aK (bF U U U U) sc4 U Bt U bI U ?_)))
 refine aP (bF U U U U) U U (cB (d:=21) U (fun g21=>?_) (fun g21=>?_))
 ·refine aP (bF U U U U) U U (aW (bF U U U U) U U (aD (bF U U U U) fl32_0 U U (aK (bF U U U U) sc3 U Bt U bI U ?_)))
  refine dG (bF U U U U) U U U (cH (bF U U U U) U U U (cE aE U U U (bM (.cons U .nil) (FMust_any _) (F:= [Nt,Mp,R]) Tryz.func31 U U (.refl _) (by simp) U ?_ ?_)))
  ·rintro _ _ ⟨rfl,rfl,hb⟩
   show At _ _ _ [Nt,Mp,R] _
   refine aY ((bH (cP (L1:= [Nt]) (.refl _) aJ ?_)))
   first
    |exact yes_no hb
    |exact⟨2,Nt,_,rfl,rfl,toE_bad he (by omega) (fun k=>of_decide_eq_false hb k.2),Bt,hln _⟩
    |exact⟨2,Nt,_,rfl,rfl,toE_bad he (by omega) (fun k=>by omega),Bt,hln _⟩
  rintro _ _ ⟨rfl,rfl,hb⟩
  show At _ _ _ [Nt,Mp,R] _
  refine aB (s_3 (aA (aH U U (aW aE U U (aD aE fl32_7 U U (op_sliceA aE ae28 U .none .none .none (by omega) (by omega) (by omega) (by simp) U (aH U U ?_)))))))
  refine op_copyB cL se22 rfl rfl Bt hrR (by simp) (by first|exact one_u8s _|exact one_u64s _|exact one_u32s _|(intro u hu;simp at hu;subst hu;rfl)) (by rw [hln];omega) dB rfl (fun Nt Bt=>?_)
  skip
  refine cX (At.norX (aM (bO (aM (At.retNE (L1:= [Mp,Nt]) U .nil U (.refl _) aJ ?_)))))
  have h0:l.length=0:=by omega
  have e2:min l.length (20- 0)=0:=by omega
  rw [e2,List.take_zero,List.append_nil,Nat.add_zero,List.take_append_drop]at Bt
  rw [decide_eq_true (show(l.length:Int)=0 by omega)]at Bt
  exact⟨Mp,Nt,true,zero20,rfl,rfl,toE_0 he h0 (of_decide_eq_true hb),hz,hp,Bt⟩
 refine aU U U U U U U U (aU U U U U U U U (aU U U U U U U U (aU U U U U U U U (aU U U U U U U U (cE (bF U U U U) U U U (cE aE U U U (bM (.cons U .nil) (FMust_any _) (F:= [Nt,Mp,R]) Tryz.func31 U U (.refl _) (by simp) U ?_ ?_)))))))
 ·rintro _ _ ⟨rfl,rfl,hb⟩
  show At _ _ _ [Nt,Mp,R] _
  refine aY ((bH (cP (L1:= [Nt]) (.refl _) aJ ?_)))
  first
   |exact yes_no hb
   |exact⟨2,Nt,_,rfl,rfl,toE_bad he (by omega) (fun k=>of_decide_eq_false hb k.2),Bt,hln _⟩
   |exact⟨2,Nt,_,rfl,rfl,toE_bad he (by omega) (fun k=>by omega),Bt,hln _⟩
 rintro _ _ ⟨rfl,rfl,hb⟩
 show At _ _ _ [Nt,Mp,R] _
 refine aB (s_3 (aA (aH U U (aW aE U U (aD aE fl32_7 U U (op_sliceA aE ae28 U .none .none .none (by omega) (by omega) (by omega) (by simp) U (aH U U ?_)))))))
 refine op_copyB cL se22 rfl rfl Bt hrR (by simp) (by first|exact one_u8s _|exact one_u64s _|exact one_u32s _|(intro u hu;simp at hu;subst hu;rfl)) (by rw [hln];omega) dB rfl (fun Nt Bt=>?_)
 skip
 refine cX (At.norX (aM (bO (aM (At.retNE (L1:= [Mp,Nt]) U .nil U (.refl _) aJ ?_)))))
 exact no_yes hb
end
def scmp (x y:Nat):Int:=if (negB x !=negB y)=true then (if negB x=true then-1 else 1)else cmpN x y
def amt (n:Nat):Nat:=if n<256 then n else 256
theorem amt_le (n:Nat):amt n≤256:=by unfold amt;split<;>omega
theorem amount_y {x:Nat} (hx:x<WW) (h:x<2^64):Fn Tryz.prog 170 #[wo x] [] [] (fun v L=>v=.int .i64 (amt x:Int)∧L= []):=by
 refine Fn.enter (vs:= [wo x]) Tryz.func170 U U U ?_
 intro E R hR
 change At _ _ E [R] _
 refine aC fun _ s_1=>aA (op_box bU U U U (fun N1 b1 B1=>?_))
 change Blk N1 b1 _ (u64s (wl x))at B1
 refine aR U U (aB (s_1 (aC fun _ s_2=>aC fun _ s_3=>aA ?_)))
 refine aV (ds:=u64s (wl x)) aE ag26 U B1 (by first|(rw [List.drop_zero,List.take_of_length_le (by first|(simp;done)|(simp;omega))];done)|rfl) (by first|(simp;done)|(simp;omega)) bI U ?_
 refine bD bU (.cons U .nil) (WSmall_f hx h) Tryz.func108 U U (by simp) U ?_
 rintro _ _ ⟨rfl,rfl⟩
 show At _ _ _ [N1,R] _
 refine aH U U (aO aE U U U (aO aE U U U (aR U U (aR U U (aB (s_3 (aC fun _ s_4=>aA (aH U U (aH U U (aP (bF U U U U) U U (op_lss (bF U U U U) U U U (cH aE U U U (aB (s_4 (aQ U (fun c14=>?_) (fun c14=>?_))))))))))))))))
 ·refine aC fun _ s_5=>aA (aH U U (op_convI aE (und_some Tryz.underlying24) Tryz.underlying3 U (by omega) (by omega) U (aR U U (aB (s_5 (a0 (aS ((cK (cI (L1:= []) U (.tmp U .nil) (.refl _) aJ ?_))))))))))
  exact⟨by rw [amt,if_pos (by omega)],rfl⟩
 refine aT (aI (s_2 (aC fun _ s_6=>aA (aR U U (aB (s_6 (a0 ((cK (cI (L1:= []) U (.tmp U .nil) (.refl _) aJ ?_))))))))))
 exact⟨by rw [amt,if_neg (by omega)];rfl,rfl⟩
theorem amount_no {x:Nat} (hx:x<WW) (h: ¬x<2^64):Fn Tryz.prog 170 #[wo x] [] [] (fun v L=>v=.int .i64 (amt x:Int)∧L= []):=by
 refine Fn.enter (vs:= [wo x]) Tryz.func170 U U U ?_
 intro E R hR
 change At _ _ E [R] _
 refine aC fun _ s_1=>aA (op_box bU U U U (fun N1 b1 B1=>?_))
 change Blk N1 b1 _ (u64s (wl x))at B1
 refine aR U U (aB (s_1 (aC fun _ s_2=>aC fun _ s_3=>aA ?_)))
 refine aV (ds:=u64s (wl x)) aE ag26 U B1 (by first|(rw [List.drop_zero,List.take_of_length_le (by first|(simp;done)|(simp;omega))];done)|rfl) (by first|(simp;done)|(simp;omega)) bI U ?_
 refine bD bU (.cons U .nil) (WSmall_no hx h) Tryz.func108 U U (by simp) U ?_
 rintro _ _ ⟨rfl,rfl⟩
 show At _ _ _ [N1,R] _
 refine aH U U (aO aE U U U (aO aE U U U (aR U U (aR U U (aB (s_3 (aC fun _ s_4=>aA (aH U U (aH U U (aU U U U U U U U (aU U U U U U U U (cE aE U U U (aB (s_4 (dA U (aT (aI (s_2 (aC fun _ s_5=>aA (aR U U (aB (s_5 (a0 ((cK (cI (L1:= []) U (.tmp U .nil) (.refl _) aJ ?_))))))))))))))))))))))))))
 exact⟨by rw [amt,if_neg (by omega)];rfl,rfl⟩
theorem amount_f {x:Nat} (hx:x<WW):Fn Tryz.prog 170 #[wo x] [] [] (fun v L=>v=.int .i64 (amt x:Int)∧L= []):=by
 by_cases h:x<2^64
 ·exact amount_y hx h
 ·exact amount_no hx h
def wSt (T i:Nat):List UInt64:=(wl T).take i++List.replicate (4- i) 0
theorem length_wSt {T i:Nat} (h:i≤4):(wSt T i).length=4:=by
 rw [wSt,List.length_append,List.length_take,List.length_replicate,length_wl];omega
theorem wSt_succ {T i:Nat} {z:UInt64} (h:i<4) (hz:(wl T).getD i 0=z):wSt T (i+1)=(wSt T i).set i z:=by
 subst hz
 have hl:((wl T).take i).length=i:=by rw [List.length_take,length_wl];omega
 have hT:i<(wl T).length:=by rw [length_wl];exact h
 rw [wSt,wSt,show 4- i=(4- (i+1))+1 by omega,List.replicate_succ,List.set_append_right _ _ (by omega),hl,Nat.sub_self,List.set_cons_zero,List.take_succ_eq_append_getElem hT,List.append_assoc,List.getD_eq_getElem?_getD,List.getElem?_eq_getElem hT]
 rfl
theorem getD_set_same {l:List UInt64} {i:Nat} {z:UInt64} (h:i<l.length):(l.set i z).getD i 0=z:=by
 rw [List.getD_eq_getElem?_getD,List.getElem?_eq_getElem (by rw [List.length_set];exact h),Option.getD_some,List.getElem_set_self]
theorem wl_getElem {T j:Nat} (h:j<4):(wl T)[j]'(by rw [length_wl];exact h)=UInt64.ofNat (T/2^(64*j)):=by
 have e0:(wl T).getD j 0=UInt64.ofNat (T/2^(64*j)):=getD_limbsN h
 rwa [List.getD_eq_getElem?_getD,List.getElem?_eq_getElem (by rw [length_wl];exact h),Option.getD_some]at e0
theorem wSt_end {T i:Nat} (h:i≤4) (hz: ∀j,i≤j→j<4→T/2^(64*j)=0):wSt T i=wl T:=by
 have e:(wl T).drop i=List.replicate (4- i) 0:=by
  apply List.ext_getElem
  ·rw [List.length_drop,List.length_replicate,length_wl]
  ·intro k h1 h2
   rw [List.length_replicate]at h2
   rw [List.getElem_drop,List.getElem_replicate,wl_getElem (by omega),hz (i+k) (by omega) (by omega)]
   rfl
 rw [wSt, ←e,List.take_append_drop]
theorem shr_limb {x s i:Nat} (hx:x<WW) (hi:i+s/64<4):
 (wl (x/2^s)).getD i 0=if i+s/64+1<4∧0<s % 64 then shr64 ((wl x).getD (i+s/64) 0) (s % 64)|||shl64 ((wl x).getD (i+s/64+1) 0) (64- s % 64)else shr64 ((wl x).getD (i+s/64) 0) (s % 64):=by
 have e0:(wl (x/2^s)).getD i 0=UInt64.ofNat (x/2^s/2^(64*i)):=getD_limbsN (by omega)
 have hr:s % 64<64:=Nat.mod_lt _ (by decide)
 have e1:x/2^s/2^(64*i)=v64 (wl x)/2^(64*(i+s/64)+s % 64):=by
  rw [v64_wl_lt hx,Nat.div_div_eq_div_mul, ←Nat.pow_add]
  congr 2
  omega
 have e2:UInt64.ofNat (v64 (wl x)/2^(64*(i+s/64)+s % 64))=shr64 ((wl x).getD (i+s/64) 0) (s % 64)|||shl64 ((wl x).getD (i+s/64+1) 0) (64- s % 64):=by
  apply UInt64.toNat_inj.1
  rw [UInt64.toNat_ofNat',mid_at (by omega)]
 rw [e0,e1,e2]
 split
 ·rfl
 ·rename_i h
  have hz:shl64 ((wl x).getD (i+s/64+1) 0) (64- s % 64)=0:=by
   apply UInt64.toNat_inj.1
   rcases Nat.lt_or_ge (i+s/64+1) 4 with h4|h4
   ·rw [shl64,UInt64.toNat_ofNat',show 64- s % 64=64 by omega,Nat.mul_mod_left];rfl
   ·rw [shl64,UInt64.toNat_ofNat',List.getD_eq_getElem?_getD,List.getElem?_eq_none (by rw [length_wl];exact h4),Option.getD_none,UInt64.toNat_zero,Nat.zero_mul]
  rw [hz,UInt64.or_zero]
theorem shr_end {x s j:Nat} (hx:x<WW) (h:256≤s+64*j):x/2^s/2^(64*j)=0:=by
 rw [Nat.div_div_eq_div_mul, ←Nat.pow_add]
 exact Nat.div_eq_of_lt (Nat.lt_of_lt_of_le hx (Nat.pow_le_pow_right (by decide) h))
set_option maxRecDepth 100000 in
theorem WShr_f {m x:Nat} (hm:m<WW) (hx:x<WW):Fn Tryz.prog 147 #[wo m,wo x] [] [] (fun v L=>v=wo (x/2^amt m)∧L= []):=by
 have hlx:=length_wl x
 have hs:=amt_le m
 obtain⟨s,hse⟩: ∃s,s=amt m:=⟨_,rfl⟩
 rw [←hse]at hs⊢
 refine Fn.enter (vs:= [wo m,wo x]) Tryz.func147 U U U ?_
 intro E R hR
 change At _ _ E [R] _
 refine aC fun _ s_1=>aA (op_box bU U U U (fun N2 b2 B2=>?_))
 change Blk N2 b2 _ (u64s (wl m))at B2
 refine op_box bU U U U (fun N3 b3 B3=>?_)
 change Blk N3 b3 _ (u64s (wl x))at B3
 refine bK bU ze26 U (fun N4 b4 B4=>?_)
 change Blk N4 b4 _ [.int .u64 0,.int .u64 0,.int .u64 0,.int .u64 0]at B4
 refine aB (s_1 (aC fun _ s_2=>aA (bK bU ze26 U (fun N5 b5 B5=>?_))))
 change Blk N5 b5 _ [.int .u64 0,.int .u64 0,.int .u64 0,.int .u64 0]at B5
 change Blk N5 b5 26 (u64s (wSt (x/2^s) 0))at B5
 refine aB (s_2 (aC fun _ s_3=>aA ?_))
 refine aV (ds:=u64s (wl m)) aE ag26 U B2 (by first|(rw [List.drop_zero,List.take_of_length_le (by first|(simp;done)|(simp;omega))];done)|rfl) (by first|(simp;done)|(simp;omega)) mem3 U ?_
 refine bD bU (.cons U .nil) (amount_f hm) Tryz.func170 U U (by simp) U ?_
 rintro _ _ ⟨rfl,rfl⟩
 show At _ _ _ [N5,N4,N3,N2,R] _
 rw [←hse]
 refine aR U U (aB (s_3 (aC fun _ s_4=>aC fun _ s_5=>aA (aR U U (aB (s_5 (bZ (bW (aN (bO (aM (aN (At.loop (fun fr_ hp_ ms_=> ∃(i:Nat) (N5:Heaplet),fr_= [(3,.pointer (some ⟨b3,0,none⟩)),(4,.pointer (some ⟨b4,0,none⟩)),(5,.pointer (some ⟨b5,0,none⟩)),(6,.int .i64 (s:Int)),(7,.int .i64 (i:Int))]∧hp_= [N3,N4,N5,R]∧4- i=ms_∧(i+s/64≤4)∧(Blk N5 b5 26 (u64s (wSt (x/2^s) i)))) ?_ aJ ⟨0,N5,rfl,rfl,rfl,by omega,B5⟩ ?_)))))))))))))
 ·repeat first|apply cW|exact .nil|exact lkI rfl (by omega)|rfl
 rintro _ _ _ ⟨i,N5,rfl,rfl,rfl,hi,B5⟩
 have hwl:=length_wSt (T:=x/2^s) (i:=i) (by omega)
 refine aC fun _ s_6=>aC fun _ s_7=>aA (aH U U (aH U U (op_quoI aE U U (by omega) (by omega) (by omega) U (cU aE U U (by omega) (by omega) U (op_lss aE U U U (aB (s_7 (aQ U (fun c14=>?_) (fun c14=>?_)))))))))
 ·refine aT (aI (s_6 (aC fun _ s_8=>bZ (aC fun _ s_9=>aA (aH U U (aH U U (aH U U (op_quoI aE U U (by omega) (by omega) (by omega) U (cU aE U U (by omega) (by omega) U (dD aE ae26 U U (show _=(((i+s/64:Nat)):Int)from by omega) (by omega) U ?_))))))))))
  refine aK aE sc24 U B3 (by first|exact get64A (by omega)|rfl) bI U ?_
  refine aH U U (op_rem aE U U (by omega) (by omega) U (op_shrU aE U U (show _=(((s % 64:Nat)):Int)from by omega) U ?_))
  refine dD aE ae26 U U (show _=(((i:Nat)):Int)from by omega) (by omega) U ?_
  refine aF cL sz24 U U U U U B5 (by simp<;>omega) sel2 (fun N5 B5=>?_)
  rw [set64A]at B5
  have hwl2:((wSt (x/2^s) i).set i (shr64 ((wl x).getD (i+s/64) 0) (s % 64))).length=4:=by rw [List.length_set];exact hwl
  refine aB (s_9 (aC fun _ s_10=>aA (aH U U (aH U U (op_quoI aE U U (by omega) (by omega) (by omega) U (cU aE U U (by omega) (by omega) U (cU aE U U (by omega) (by omega) U (op_lss aE U U U (aH U U (cB (d:=34) U (fun g34=>?_) (fun g34=>?_)))))))))))
  ·refine aP (bF U U U U) U U (op_rem (bF U U U U) U U (by omega) (by omega) U (op_gtr (bF U U U U) U U U (cH aE U U U (aB (s_10 (aQ U (fun c38=>?_) (fun c38=>?_)))))))
   ·refine aN (bO (aM (aN (At.drawnS [N3,N5,R] [16] [] [0,1,2,3,4,5,6,7,8,9,10,11,12,13,14,15,16] (by kernel_rfl) (by kernel_rfl) (.cons _ (.refl _)) (aP (cD U U U) U U (dD (cD U U U) ae26 U U (show _=(((i:Nat)):Int)from by omega) (by omega) U ?_))))))
    refine aK (cD U U U) sc24 U B5 (by first|exact get64A (by omega)|rfl) mem1 U ?_
    rw [getD_set_same (by omega)]
    refine aP (cD U U U) U U (aP (cD U U U) U U (op_quoI (cD U U U) U U (by omega) (by omega) (by omega) U (cU (cD U U U) U U (by omega) (by omega) U (cU (cD U U U) U U (by omega) (by omega) U (dD (cD U U U) ae26 U U (show _=(((i+s/64+1:Nat)):Int)from by omega) (by omega) U ?_)))))
    refine aK (cD U U U) sc24 U B3 (by first|exact get64A (by omega)|rfl) bI U ?_
    refine aP (cD U U U) U U (op_rem (cD U U U) U U (by omega) (by omega) U (op_subI (cD U U U) U U (by omega) (by omega) U (op_shlU (cD U U U) U U (show _=(((64- s % 64:Nat)):Int)from by omega) U ?_)))
    refine op_orU (cD U U U) U U U (dD (cD U U U) ae26 U U (show _=(((i:Nat)):Int)from by omega) (by omega) U ?_)
    refine aF (nxsl U U U U) sz24 U U U U U B5 (by simp<;>omega) sel2 (fun N5 B5=>?_)
    rw [set64A,List.set_set]at B5
    refine At.sNil (cS (aI (s_8 (aA (aH U U (cU aE U U (by omega) (by omega) U (aR U U (aB (aN (bO (aM (aN ?_))))))))))))
    refine At.back ?_ aJ ⟨i+1,N5,rfl,rfl,rfl,by omega,by rw [wSt_succ (by omega) ((shr_limb hx (by omega)).trans (if_pos ⟨by omega,by omega⟩))];exact B5⟩ ?_
    ·repeat first|apply cW|exact .nil|exact lkI rfl (by omega)|rfl
    ·omega
   refine aT (cS (aI (s_8 (aA (aH U U (cU aE U U (by omega) (by omega) U (aR U U (aB (aN (bO (aN (aN ?_))))))))))))
   refine At.back ?_ aJ ⟨i+1,N5,rfl,rfl,rfl,by omega,by rw [wSt_succ (by omega) ((shr_limb hx (by omega)).trans (if_neg (by omega)))];exact B5⟩ ?_
   ·repeat first|apply cW|exact .nil|exact lkI rfl (by omega)|rfl
   ·omega
  refine aU U U U U U U U (aU U U U U U U U (aU U U U U U U U (cE aE U U U (aB (s_10 (dA U (aT (cS (aI (s_8 (aA (aH U U (cU aE U U (by omega) (by omega) U (aR U U (aB (aN (bO (aN (aN ?_)))))))))))))))))))
  refine At.back ?_ aJ ⟨i+1,N5,rfl,rfl,rfl,by omega,by rw [wSt_succ (by omega) ((shr_limb hx (by omega)).trans (if_neg (by omega)))];exact B5⟩ ?_
  ·repeat first|apply cW|exact .nil|exact lkI rfl (by omega)|rfl
  ·omega
 refine At.exit (bB (bB (dE (aI (s_4 (aC fun _ s_11=>aA ?_))))))
 rw [wSt_end (by omega) (fun j h1 h2=>shr_end hx (by omega))]at B5
 refine aV (ds:=u64s (wl (x/2^s))) aE ag26 U B5 (by first|(rw [List.drop_zero,List.take_of_length_le (by first|(simp;done)|(simp;omega))];done)|rfl) (by first|(simp;done)|(simp;omega)) mem2 U ?_
 refine aF cL sz26 U U U U U B4 (by simp) sel1 (fun N4 B4=>?_)
 rw [bG (by simp)]at B4
 refine aB (s_11 (a0 ((bJ (bH ?_)))))
 refine cI (L1:= []) U (.cell U (bQ (ds:=u64s (wl (x/2^s))) ag26 B4 (by first|(rw [List.drop_zero,List.take_of_length_le (by first|(simp;done)|(simp;omega))];done)|rfl) (by first|(simp;done)|(simp;omega)) bI) .nil) (.cons _ (.refl _)) aJ ?_
 exact⟨rfl,rfl⟩
end Go.Proofs.YtjfagifjajielaaGreat
