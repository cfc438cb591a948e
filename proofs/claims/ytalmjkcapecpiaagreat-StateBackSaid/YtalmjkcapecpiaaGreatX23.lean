/- Several texts in one: see the remarks ahead of each part. No condition but those told there. -/
import Derived.Test.YtalmjkcapecpiaaGreatX1
import Derived.Test.YtalmjkcapecpiaaGreatX22
import Derived.Test.YtalmjkcapecpiaaGreatXA35
set_option linter.unusedSimpArgs false
set_option linter.unusedVariables false
namespace Go.Proofs.YtalmjkcapecpiaaGreat
open Go Go.RowKit
set_option maxRecDepth 100000
def fstF (p:List UInt8×Nat) (v:Nat) (lo:List UInt8×Nat→Option Nat):List UInt8×Nat→Option Nat:=if (lo p).isSome=true then lo else updF lo p (some v)
theorem JFirst {NS NO:Heaplet} {ma sp mt mm mw md ws tr og c:Nat} {rf:UInt64} {lg un mk:Value} {tl:Int} {DO:DataW Value} {lo:List UInt8×Nat→Option Nat} {k:List UInt8} {x v:Nat} (BS:Blk NS sp 85 (stK ma mt mm mw md ws tr og rf lg un mk tl)) (hM:MapV Tryz.prog 105 NO og c DO) (hA:MapF keyPP okPl wordV DO lo) (hk:okPl (k,x)) (hc:c≤1099511627776):
 Fn Tryz.prog 53 #[.pointer (some ⟨sp,0,none⟩),.agg (u8s k++u64s (wl x)).toArray,.agg (u64s (wl v)).toArray] [NO] [NS] (fun w L=> ∃(NO:Heaplet) (DO:DataW Value),w=.tuple #[]∧L= [NO]∧MapV Tryz.prog 105 NO og (c+1) DO∧MapF keyPP okPl wordV DO (fstF (k,x) v lo)):=by
 obtain⟨l,h1,h2⟩:=hA
 refine(FFirst (v:=v) BS hM h1 hk hc).mono fun w L ⟨NO,DO,e1,e2,h3,h4⟩=>⟨NO,DO,e1,e2,h3,_,h4,fun j=>?_⟩
 unfold firstA fstF
 rw [h2]
 split
 ·exact h2 j
 ·rw [getA_put,h2];rfl
def setSlA (kx y:Nat) (a:AcV):AcV:= { a with st:=updF a.st kx (if y=0 then none else some y) }
def slotV (V:Vw) (p:List UInt8×Nat):Option Nat:=(V.ac p.1).bind fun a=>a.st p.2
theorem slot_open {J:JS} {k:List UInt8} {xp:Nat} {o:Ob} {V:Vw} (ha:J.ac k=some xp) (ho:J.ob xp=some o) (hv:J.v=setV k id V) (kx:Nat):o.st kx=slotV V (k,kx):=by
 have h1:=at_v ha ho
 rw [hv]at h1
 have h2:(V.ac k).getD AcV.z=o.v:=Option.some.inj ((updF_at (f:=V.ac)).symm.trans h1)
 show(Ob.v o).st kx=(V.ac k).bind fun a=>a.st kx
 rw [←h2]
 cases V.ac k<;>rfl
def mkF (k:List UInt8) (st:Nat→Option Nat) (pre:List Nat) (lo:List UInt8×Nat→Option Nat):List UInt8×Nat→Option Nat:=fun p=>if p.1=k∧p.2∈pre∧lo p=none then st p.2 else lo p
def mkO (V:Vw) (k:List UInt8) (lo:List UInt8×Nat→Option Nat):List UInt8×Nat→Option Nat:=fun p=>if p.1=k∧lo p=none then slotV V p else lo p
theorem mkF_nil {k:List UInt8} {st:Nat→Option Nat} {lo:List UInt8×Nat→Option Nat} :mkF k st [] lo=lo:=funext fun p=>by
 unfold mkF
 rw [if_neg fun h=>List.not_mem_nil h.2.1]
theorem mkF_step {k:List UInt8} {st:Nat→Option Nat} {pre:List Nat} {lo:List UInt8×Nat→Option Nat} {q v:Nat} (hq:st q=some v) (hn:q∉pre):fstF (k,q) v (mkF k st pre lo)=mkF k st (pre++ [q]) lo:=funext fun p=>by
 have e0:mkF k st pre lo (k,q)=lo (k,q):=by
  unfold mkF
  rw [if_neg fun h=>hn h.2.1]
 unfold fstF
 rw [e0]
 by_cases hp:p=(k,q)
 ·subst hp
  cases hl:lo (k,q)with
  |none=>
   rw [if_neg (by decide),updF_at]
   unfold mkF
   rw [if_pos ⟨rfl,by simp,hl⟩,hq]
  |some w=>
   rw [show(some w:Option Nat).isSome=true from rfl,if_pos rfl,e0]
   unfold mkF
   rw [if_neg fun h=>by rw [hl]at h;cases h.2.2]
 ·have e1:mkF k st pre lo p=mkF k st (pre++ [q]) lo p:=by
   unfold mkF
   have:(p.1=k∧p.2∈pre∧lo p=none)↔(p.1=k∧p.2∈pre++ [q]∧lo p=none):=by
    constructor
    ·rintro⟨a,b,z⟩
     exact⟨a,List.mem_append_left _ b,z⟩
    ·rintro⟨a,b,z⟩
     refine⟨a,(List.mem_append.1 b).resolve_right fun h=>hp ?_,z⟩
     rw [←a, ←List.mem_singleton.1 h]
   simp only [this]
  split
  ·exact e1
  ·rw [updF_ne hp];exact e1
theorem mkF_fin {J:JS} {k:List UInt8} {xp:Nat} {o:Ob} {V:Vw} (ha:J.ac k=some xp) (ho:J.ob xp=some o) (hv:J.v=setV k id V) {pre:List Nat} (hp: ∀q,(o.st q).isSome=true→q∈pre) {lo:List UInt8×Nat→Option Nat} :mkF k o.st pre lo=mkO V k lo:=funext fun p=>by
 unfold mkF mkO
 by_cases h:p.1=k∧lo p=none
 ·have e:o.st p.2=slotV V p:=by
   rw [slot_open ha ho hv, ←h.1]
  rw [if_pos h, ←e]
  split
  ·rfl
  ·rename_i h2
   rw [h.2]
   cases hs:o.st p.2 with
   |none=>rfl
   |some v=>exact absurd ⟨h.1,hp _ (by rw [hs];rfl),h.2⟩ h2
 ·rw [if_neg h,if_neg fun h2=>h ⟨h2.1,h2.2.2⟩]
def madA (a:AcV):AcV:=⟨0,a.ba,[],fun _=>none⟩
def madV (k:List UInt8) (V:Vw):Vw:= { setV k madA V with lm:=updF V.lm k (some ()) }
section
variable {NS NU NT NF NB NJ NO : Heaplet} {x : FxP} {lg mk : Value} {tl : Int} {ua : Option Addr} {un uc : Nat} {us : List Value} {DT DF DO : DataW Value} {c oc : Nat} {k : List UInt8} {J : JS} {lo : List UInt8 × Nat → Option Nat}
set_option maxHeartbeats 16000000 in
theorem JSlot (BS:Blk NS x.sp 85 (stK x.ma x.mt x.mm x.mw x.md x.ws x.tr x.og J.rf lg (.slice ua un uc) mk tl)) (r:Row NU 1 1 ua un uc us) (hu:un≤1099511627760) (hF:MapV Tryz.prog 33 NF x.ma c DF) (aF:MapF keyA okAd ptrN DF J.ac) (hT:MapV Tryz.prog 33 NT x.mt c DT) (aT:MapF keyA okAd unitV DT J.lt) (hB:ObF NB NJ c J.ob) (hw:JWf J) (hO:MapV Tryz.prog 105 NO x.og oc DO) (aO:MapF keyPP okPl wordV DO lo) (hoc:oc≤1099511627760) {kx y:Nat} (hk:okPl (k,kx)) (hy:y<WW) (hc:c≤1099511627760):Fn Tryz.prog 14 #[.pointer (some ⟨x.sp,0,none⟩),.agg (u8s k).toArray,.agg (u64s (wl kx)).toArray,.agg (u64s (wl y)).toArray] [NS,NF,NT,NU,NB,NO] [] (fun v L=> ∃L0 NO DO,L=L0++ [NO]∧EndJ x NJ c J lg mk tl un us (setV k (setSlA kx y) J.v) v L0∧MapV Tryz.prog 105 NO x.og (oc+1) DO∧MapF keyPP okPl wordV DO (fstF (k,kx) ((slotV J.v (k,kx)).getD 0) lo)):=by
 have hul:=len_A hk.1
 refine Fn.enter (vs:= [.pointer (some ⟨x.sp,0,none⟩),.agg (u8s k).toArray,.agg (u64s (wl kx)).toArray,.agg (u64s (wl y)).toArray]) Tryz.func14 U U U ?_
 intro E R hR
 change At _ _ E [NS,NF,NT,NU,NB,NO,R] _
 refine aH fun _ s_1=>aB (cU bT U U U (fun N5 b5 B5=>cU bT U U U (fun N6 b6 B6=>cU bT U U U (fun N7 b7 B7=>aI (s_1 (aH fun _ s_2=>aB (bC U U (aK (ds:=u8s k) aN ag33 U B5 (by exact bJ hul) (by exact hul) mem2 U ?_))))))))
 refine bR (bR (bA (bA (bA (bR (bR (bR (bR (bR (cR nxQ (.cons U (.cons U .nil)) (JOpened BS r hu hF aF hT aT hB hw hk.1 (by omega)) (F:= [N7,N6,N5,NO,R]) Tryz.func50 U U aZ (by simp) U ?_))))))))))
 rintro _ _ ⟨NS2,NF2,NT2,NU2,NB2,NX1,a2,cu2,DF2,DT2,xp,o,J1,us1,rfl,rfl,BS2,r2,hF2,aF2,hT2,aT2,hB2,ho,hac,hl1,hw1,hE1,hcs⟩
 show At _ _ _ [NS2,NF2,NT2,NU2,NB2,NX1,N7,N6,N5,NO,R] _
 skip
 have hv1:=open_v hw hac ho hcs
 obtain⟨XB,RB,aXR,eNB,⟨NX,NM,DX,aX,eX,hX⟩,hRR⟩:=hB2.take ho
 have BX:=hX.B
 refine bV U U (aI (s_2 (aH fun _ s_3=>?_)))
 obtain⟨v0,hv0,hlk⟩: ∃v0,v0=(slotV J.v (k,kx)).getD 0∧DX.atKey (keyW kx) (.held (wordV 0))=.held (wordV v0):=by
  rw [hX.A.look hk.2,slot_open hac ho hv1]
  cases slotV J.v (k,kx)with
  |none=>exact⟨0,rfl,rfl⟩
  |some w=>exact⟨w,rfl,rfl⟩
 refine bO (bO (bO (bO (bO (bO (bR (bR (bR (bR (bO ?_))))))))))
 rw [eNB,eX];refine At.unjoin (by rw [←eX];exact aXR) ?_;refine At.unpack (As:= [NX,NM]) aX ?_
 refine bI (bR (bO (bA (bA (aV (aV (aV (aV (aV (aV (aV (aV (cS [NX,NM,N5,N6,NS2] [10] [0] [0,1,2,3,4,5,6,7,8,9,10] (by kernel_rfl) (by kernel_rfl) (.cons _ (.cons _ (.cons _ (.cons _ (.cons _ (.cons _ (.cons _ (.cons _ (.refl _))))))))) (aR (bB U U U) U U (aK (ds:=u8s k) (bB U U U) ag33 U B5 (by exact bJ hul) (by exact hul) mem2 U ?_)))))))))))))))
 refine aK (ds:=u64s (wl kx)) (bB U U U) ag36 U B6 (by exact bJ (bQ kx)) (by exact bQ kx) mem3 U ?_
 refine op_build (out:=u8s k++u64s (wl kx)) (bB U U U) ze105 pl105 (.cons U (.cons U .nil)) (fill_place hk.1 _ U) U (aR (bB U U U) U U (bH (bB U U U) U U (aJ (bB U U U) fl71_3 U U (aU (bB U U U) sc69 U BX U cO U ?_))))
 refine aK (ds:=u64s (wl kx)) (bB U U U) ag36 U B6 (by exact bJ (bQ kx)) (by exact bQ kx) mem3 U ?_
 refine op_lookupV1 (Nx.agree (nxsm U U U)) kd36 Tryz.underlying69 (fun _=>by first|rfl|kernel_rfl) U U hX.M (keyW_spec kx) (hlk) (by simp) U ?_
 refine At.moreS (Lst:= [NX,NM,N5,N6,NS2]) (Lst':= [NX,NM,N5,N6,NS2]) (.refl _) (.cons _ (.cons _ (.cons _ (.cons _ (.cons _ (.cons _ (.cons _ (.cons _ (.refl _))))))))) (aV (aV (aV (aV (aV (aV (bE (bE (bE (bE (bE (bE (aV (cR (nxsl U U U U) (.cons U (.cons U (.cons U .nil))) (JFirst (v:=v0) BS2 hO aO hk (by omega)) (F:= [RB,NF2,NT2,NU2,NX1,N7,R,NX,NM,N5,N6,NS2]) Tryz.func53 U U (.refl _) (by simp) U ?_))))))))))))))
 rintro _ _ ⟨NO3,DO3,rfl,rfl,hO3,aO3⟩
 show At _ _ _ [NO3,RB,NF2,NT2,NU2,NX1,N7,R,NX,NM,N5,N6,NS2] _
 skip
 refine dH (aS (s_3 (aH fun _ s_4=>aV (bM (aV (bO (aV (aV (aV (aV (aV (aV (aV (aV (aV (cS [NX,N6,N7,NS2] [7] [] [0,1,2,3,4,5,6,7] (by kernel_rfl) (by kernel_rfl) (.cons _ (.cons _ (.cons _ (.cons _ (.cons _ (.cons _ (.cons _ (.cons _ (.cons _ (.refl _)))))))))) (aR (bB U U U) U U (aR (bB U U U) U U (bH (bB U U U) U U (aJ (bB U U U) fl71_3 U U (aU (bB U U U) sc69 U BX U cO U ?_)))))))))))))))))))))
 refine aK (ds:=u64s (wl kx)) (bB U U U) ag36 U B6 (by exact bJ (bQ kx)) (by exact bQ kx) dG U ?_
 refine aK (ds:=u64s (wl y)) (bB U U U) ag36 U B7 (by exact bJ (bQ y)) (by exact bQ y) mem2 U ?_
 refine bE (bE (bE (bE (bO (bO (bR (bR (bR (bR (bO (bE (aV (cR (nxsl U U U U) (.cons U (.cons U (.cons U (.cons U .nil)))) (PutWW (k:=kx) y BS2 r2 (by omega) hX.M hX.A hk.2 (by omega)) (F:= [NO3,RB,NF2,NT2,NX1,R,N5,NX,N6,N7]) Tryz.func54 U U aZ (by simp) U ?_)))))))))))))
 rintro _ _ ⟨NS3,NM3,NU3,NX3,a3,c3,D3,bs3,rfl,rfl,BS3,r3,hM3,hA3,hC3⟩
 show At _ _ _ [NS3,NM3,NU3,NX3,NO3,RB,NF2,NT2,NX1,R,N5,NX,N6,N7] _
 skip
 refine dH (aS (s_4 (aH fun _ s_5=>aB (aK (ds:=u64s (wl y)) aN ag36 U B7 (by exact bJ (bQ y)) (by exact bQ y) mem13 U ?_))))
 refine op_buildA (out:= [.int .u64 0,.int .u64 0,.int .u64 0,.int .u64 0]) aN ze36 ae36 .nil U U (op_eqW (a:=wl y) (b:= [0,0,0,0]) aN ae36 Tryz.underlying34 (by kernel_rfl) U U U U U (aI (s_5 (cD U (fun c33=>?_) (fun c33=>?_)))))
 ·refine cH (aV (aV (dI (dI (dI (dI (dI (dI (dI (dI (dI (dI (dI (cS [NX,N6,NM3] [5] [] [0,1,2,3,4,5] (by kernel_rfl) (by kernel_rfl) (.cons _ (.cons _ (.cons _ (.cons _ (.cons _ (.cons _ (.cons _ (.cons _ (.cons _ (.cons _ (.cons _ (.refl _)))))))))))) (aR (bB U U U) U U (bH (bB U U U) U U (aJ (bB U U U) fl71_3 U U (aU (bB U U U) sc69 U BX U cO U ?_))))))))))))))))))
  refine aK (ds:=u64s (wl kx)) (bB U U U) ag36 U B6 (by exact bJ (bQ kx)) (by exact bQ kx) dG U ?_
  refine op_deleteV (nxsl U U U U) kd36 Tryz.underlying69 U U hM3 (keyW_spec kx) sel13 (fun NM3 hM3 hoB=>dH (dI (aV (aV (aV (aV (aV (aV (aV (aV (aV (aV (aV (aV (dI (At.pack (As:= [NX,NM3]) (fun hANPA=>?_)))))))))))))))))
  obtain⟨NPA,eNPA⟩: ∃N,N=joinL [NX,NM3]:=⟨_,rfl⟩
  rw [←eNPA]
  refine aV (aV (aV (aV (aV (aV (aV (bE (bE (bE (bE (aV (aV (At.merge (fun hap=>bE (bE (bE (bE (bO (bO (bO (bR (bR (bR (bO (bE (cV (fun Q Q1 Q2=>dropAt10 (dropAt9 (dropAt8 (bM (bS (bF (bI (bS (bM (bM (bM (cQ (L1:= [NS3,NF2,NT2,NU3,(join2 NPA RB),Q,NO3]) U .nil U (.refl _) aZ ?_))))))))))))))))))))))))))))))))))))))
  have hy0:y=0:=(wl_zero4 hy).1 c33
  have aA:MapF keyW okWd wordV (D3.del (keyW kx)) (updF o.st kx none):=by
   have:=hA3.del keE_W (k:=kx) hk.2
   rwa [updF_updF]at this
  have aXE:=hANPA
  subst eNPA
  have ho2:(obF J1 xp (fun z=> { z with st:=updF z.st kx none })).ob xp=some (((fun z=> { z with st:=updF z.st kx none })) o):=by show updF J1.ob xp ((J1.ob xp).map _) xp=_;rw [updF_at,ho];rfl
  have hob: ∀K,NJ.le K→Q.le K→ObF _ K (c+4) (obF J1 xp (fun z=> { z with st:=updF z.st kx none })).ob:=fun K h1 h2=>by
   show ObF _ K (c+4) (updF J1.ob xp ((J1.ob xp).map _))
   rw [ho]
   exact ObF.turn hap ⟨NX,NM3,(D3.del (keyW kx)),aXE,rfl,⟨BX,hM3.mono (by omega),aA,hX.C.le h1,hX.ln,hX.ba,fun j v hv=>st_run hX.st (fun w hw=>by cases hw) hv⟩⟩ (hRR.mono (by omega) h1)
  have hE2:Ext x NJ Q J1 [cloV 88 bs3] (obF J1 xp (fun z=> { z with st:=updF z.st kx none })):=Ext.one (e:=.sl xp o.mb kx (o.st kx)) ⟨rfl,hk.2,fun v hv=>hX.st kx v hv,hC3.le Q2⟩ ⟨_,ho2,rfl⟩ (obF_back ho (by show({ o with st:=updF (updF o.st kx none) kx (o.st kx) } :Ob)=o;rw [updF_back rfl])) hw1
  rw [List.append_assoc]at r3
  have hz:(setSlA kx y)=fun a=> { a with st:=updF a.st kx none } :=funext fun a=>by unfold setSlA;rw [if_pos hy0]
  refine⟨[NS3,NF2,NT2,NU3,_,Q],NO3,DO3,rfl,?_,hO3,by rw [hv0]at aO3;exact aO3⟩
  rw [hz]
  exact⟨NS3,NF2,NT2,NU3,_,Q,a3,c3,DF2,DT2,obF J1 xp (fun z=> { z with st:=updF z.st kx none }),us1++ [cloV 88 bs3],rfl,rfl,by rw [List.length_append, ←Nat.add_assoc];exact BS3,by rw [List.length_append, ←Nat.add_assoc];exact r3,hF2.mono (by omega),aF2,hT2.mono (by omega),aT2,hob,by rw [List.length_append];exact Nat.le_trans (Nat.add_le_add_right hl1 1) (by decide),wf_ob hw1 ho rfl,(hE1.le Q1).trans hE2,ob_v hw1 hac ho rfl hv1⟩
 refine cG (dI (dI (aV (aV (aV (aV (aV (aV (aV (aV (aV (bE (aV (dI (At.pack (As:= [NX,NM3]) (fun hANPA=>?_))))))))))))))))
 obtain⟨NPA,eNPA⟩: ∃N,N=joinL [NX,NM3]:=⟨_,rfl⟩
 rw [←eNPA]
 refine aV (aV (aV (aV (aV (aV (aV (bE (bE (bE (bE (aV (aV (At.merge (fun hap=>bE (bE (bE (bE (bO (bO (bO (bR (bR (bR (bO (bE (cV (fun Q Q1 Q2=>dropAt10 (dropAt9 (dropAt8 (bM (bS (bF (bI (bS (bM (bM (bM (cQ (L1:= [NS3,NF2,NT2,NU3,(join2 NPA RB),Q,NO3]) U .nil U (.refl _) aZ ?_))))))))))))))))))))))))))))))))))))))
 have hy0: ¬y=0:=fun h=>c33 ((wl_zero4 hy).2 h)
 have aXE:=hANPA
 subst eNPA
 have ho2:(obF J1 xp (fun z=> { z with st:=updF z.st kx (some y) })).ob xp=some (((fun z=> { z with st:=updF z.st kx (some y) })) o):=by show updF J1.ob xp ((J1.ob xp).map _) xp=_;rw [updF_at,ho];rfl
 have hob: ∀K,NJ.le K→Q.le K→ObF _ K (c+4) (obF J1 xp (fun z=> { z with st:=updF z.st kx (some y) })).ob:=fun K h1 h2=>by
  show ObF _ K (c+4) (updF J1.ob xp ((J1.ob xp).map _))
  rw [ho]
  exact ObF.turn hap ⟨NX,NM3,D3,aXE,rfl,⟨BX,hM3.mono (by omega),hA3,hX.C.le h1,hX.ln,hX.ba,fun j v hv=>st_run hX.st (fun w hw=>by cases hw;exact hy) hv⟩⟩ (hRR.mono (by omega) h1)
 have hE2:Ext x NJ Q J1 [cloV 88 bs3] (obF J1 xp (fun z=> { z with st:=updF z.st kx (some y) })):=Ext.one (e:=.sl xp o.mb kx (o.st kx)) ⟨rfl,hk.2,fun v hv=>hX.st kx v hv,hC3.le Q2⟩ ⟨_,ho2,rfl⟩ (obF_back ho (by show({ o with st:=updF (updF o.st kx (some y)) kx (o.st kx) } :Ob)=o;rw [updF_back rfl])) hw1
 rw [List.append_assoc]at r3
 have hz:(setSlA kx y)=fun a=> { a with st:=updF a.st kx (some y) } :=funext fun a=>by unfold setSlA;rw [if_neg hy0]
 refine⟨[NS3,NF2,NT2,NU3,_,Q],NO3,DO3,rfl,?_,hO3,by rw [hv0]at aO3;exact aO3⟩
 rw [hz]
 exact⟨NS3,NF2,NT2,NU3,_,Q,a3,c3,DF2,DT2,obF J1 xp (fun z=> { z with st:=updF z.st kx (some y) }),us1++ [cloV 88 bs3],rfl,rfl,by rw [List.length_append, ←Nat.add_assoc];exact BS3,by rw [List.length_append, ←Nat.add_assoc];exact r3,hF2.mono (by omega),aF2,hT2.mono (by omega),aT2,hob,by rw [List.length_append];exact Nat.le_trans (Nat.add_le_add_right hl1 1) (by decide),wf_ob hw1 ho rfl,(hE1.le Q1).trans hE2,ob_v hw1 hac ho rfl hv1⟩
set_option maxHeartbeats 16000000 in
theorem JMake {Nm:Heaplet} {Dm:DataW Value} (BS:Blk NS x.sp 85 (stK x.ma x.mt x.mm x.mw x.md x.ws x.tr x.og J.rf lg (.slice ua un uc) mk tl)) (r:Row NU 1 1 ua un uc us) (hu:un≤1099511627760) (hF:MapV Tryz.prog 33 NF x.ma c DF) (aF:MapF keyA okAd ptrN DF J.ac) (hT:MapV Tryz.prog 33 NT x.mt c DT) (aT:MapF keyA okAd unitV DT J.lt) (hB:ObF NB NJ c J.ob) (hw:JWf J) (hO:MapV Tryz.prog 105 NO x.og oc DO) (aO:MapF keyPP okPl wordV DO lo) (hoc:oc≤1099511627760) (hm:MapV Tryz.prog 33 Nm x.mm c Dm) (am:MapF keyA okAd unitV Dm J.lm) (hk:okAd k) (hc:c+oc≤1099511627760):Fn Tryz.prog 36 #[.pointer (some ⟨x.sp,0,none⟩),.agg (u8s k).toArray] [NS,NF,NT,NU,NB,NO,Nm] [] (fun v L=> ∃L0 NO Nm DO Dm,L=L0++ [NO,Nm]∧EndJ x NJ c J lg mk tl un us (madV k J.v) v L0∧MapV Tryz.prog 105 NO x.og (oc+c+4) DO∧MapF keyPP okPl wordV DO (mkO J.v k lo)∧MapV Tryz.prog 33 Nm x.mm (c+4) Dm∧MapF keyA okAd unitV Dm (updF J.lm k (some ()))):=by
 have hul:=len_A hk
 refine Fn.enter (vs:= [.pointer (some ⟨x.sp,0,none⟩),.agg (u8s k).toArray]) Tryz.func36 U U U ?_
 intro E R hR
 change At _ _ E [NS,NF,NT,NU,NB,NO,Nm,R] _
 refine aH fun _ s_1=>aB (cU bT U U U (fun N3 b3 B3=>aI (s_1 (aH fun _ s_2=>aB (bC U U (aK (ds:=u8s k) aN ag33 U B3 (by exact bJ hul) (by exact hul) cO U ?_))))))
 refine a6 (a6 (a6 (bI (a6 (a6 (a6 (a6 (a6 (cR nxQ (.cons U (.cons U .nil)) (JOpened BS r hu hF aF hT aT hB hw hk (by omega)) (F:= [N3,NO,Nm,R]) Tryz.func50 U U aZ (by simp) U ?_)))))))))
 rintro _ _ ⟨NS2,NF2,NT2,NU2,NB2,NX1,a2,cu2,DF2,DT2,xp,o,J1,us1,rfl,rfl,BS2,r2,hF2,aF2,hT2,aT2,hB2,ho,hac,hl1,hw1,hE1,hcs⟩
 show At _ _ _ [NS2,NF2,NT2,NU2,NB2,NX1,N3,NO,Nm,R] _
 skip
 have hv1:=open_v hw hac ho hcs
 have e1m:J1.lm=J.lm:=congrArg Vw.lm hv1
 obtain⟨NXo,NMo,DX,lX,lM,hX⟩:=hB2.see ho
 have BB2:Blk NB2 xp 71 (acK o.no o.ba o.ca o.co.length o.cc o.mb):=hX.B.le lX
 have hMX:=hX.M.le lM
 obtain⟨ls,aX,fX⟩:=hX.A
 refine bV U U (aI (s_2 (aH fun _ s_3=>aH fun _ s_4=>?_)))
 have hsz:ls.length≤c+1:=by rw [←aX.size];exact hX.M.size_le
 refine aB (bC U U (bH aN U U (aJ aN fl71_3 U U (aU aN sc69 U BB2 U mem4 U ?_))))
 refine op_range bT kd36 Tryz.underlying69 U hMX (by simp) U (fun N14 b14 g14=>aI (s_4 (bX (bO (bO (aY (aY (a6 (a6 (a6 (a6 (bR (bO (bO ?_))))))))))))))
 refine At.loop (fun fr_ hp_ ms_=> ∃(pre:List Nat) (left:Lit→Bool) (cnt:Nat) (NG NOi:Heaplet) (DOi:DataW Value),fr_= [(0,.pointer (some ⟨x.sp,0,none⟩)),(3,.pointer (some ⟨b3,0,none⟩)),(4,.pointer (some ⟨xp,0,none⟩)),(14,.pointer (some ⟨b14,0,none⟩))]∧hp_= [NG,NOi,N3,NS2,NF2,NB2,NX1,NT2,NU2,Nm,R]∧cnt=ms_∧(RngN Tryz.prog 36 NG b14 NB2 o.mb (c+1) DX left cnt)∧(KeysIn keyW okWd ls left pre)∧(MapV Tryz.prog 105 NOi x.og (oc+pre.length) DOi)∧(MapF keyPP okPl wordV DOi (mkF k o.st pre lo))) ?_ aZ ⟨[],_,_,N14,NO,DO,rfl,rfl,rfl,g14,KeysIn.start aX,hO,by rw [mkF_nil];exact aO⟩ ?_
 ·repeat first|apply cW|exact .nil|exact lkI rfl (by omega)|rfl
 rintro _ _ _ ⟨pre,left,cnt,NG,NOi,DOi,rfl,rfl,rfl,hg,hK,hOm,hOa⟩
 refine aH fun _ s_5=>aB (op_next nxQ kd36 U hg sel0 (by simp) U (fun z15 e15=>?_) (fun k15 v15 q15 N15 n15 ke15 lf15 at15 g15 lt15 en15=>?_))
 ·show At _ _ _ [NG,NOi,N3,NS2,NF2,NB2,NX1,NT2,NU2,Nm,R] _
  refine bW aN U U U (aI (s_5 (aH fun _ s_6=>At.condF U (At.exit (bD (bD (dE (aS (s_3 (aH fun _ s_7=>?_))))))))))
  have hpl:=hK.len aX.dis
  refine bI (bI (bS (bO (bO (bO (bO (bO (bO (bO (bO (cS [NB2,N3,NS2] [13] [0,1,6] [0,1,2,3,4,5,6,7,8,9,10,11,12,13] (by kernel_rfl) (by kernel_rfl) (.cons _ (.cons _ (.cons _ (.cons _ (.cons _ (.cons _ (.cons _ (.cons _ (.refl _))))))))) (aR (bB U U U) U U (aR (bB U U U) U U (bH (bB U U U) U U (aJ (bB U U U) fl85_0 U U (aU (bB U U U) sc74 U BS2 U mem2 U ?_))))))))))))))))
  refine aK (ds:=u8s k) (bB U U U) ag33 U B3 (by exact bJ hul) (by exact hul) dG U ?_
  refine aR (bB U U U) U U (bH (bB U U U) U U (aJ (bB U U U) fl71_1 U U (aK (ds:=u64s (wl o.ba)) (bB U U U) ag36 U BB2 (by rfl) (by rfl) cO U ?_)))
  refine op_makeMapV 36 (Nx.agree (nxsm U U U)) U (fun N36 b36 M36=>bE (bE (bE (bI (bE (bE (bE (bE (bE (bE (bE (bE (At.moreS (Lst:= [NB2,N3,NS2]) (Lst':= [N36,NB2,N3,NS2]) (.cons _ (.refl _)) (.cons _ (.cons _ (.cons _ (.cons _ (.cons _ (.cons _ (.cons _ (.cons _ (.refl _))))))))) (op_build (out:= [.int .u64 0,_,_,_,_,.slice none 0 0,_]) (bB U U U) ze71 pl71 (.cons U (.cons U .nil)) U U (cU (Nx.agree (nxsm U U U)) U U U (fun N38 b38 B38=>aV (aV (aV (aV (bA (aV (aV (aV (aV (aV (aV (aV (aV (At.moreS (Lst:= [N36,NB2,N3,NS2]) (Lst':= [N38,N36,NB2,N3,NS2]) (.cons _ (.refl _)) (.cons _ (.cons _ (.cons _ (.cons _ (.cons _ (.cons _ (.cons _ (.cons _ (.refl _))))))))) (bE (bE (bE (bE (bE (bE (bO (bO (bR (bR (bE ?_))))))))))))))))))))))))))))))))))))))))
  refine bE (aV (cR (nxsl U U U U) (.cons U (.cons U (.cons U (.cons U .nil)))) (PutAP b38 BS2 r2 (by omega) hF2 aF2 hk (by omega)) (F:= [NG,NOi,NX1,NT2,Nm,R,N38,N36,NB2,N3]) Tryz.func66 U U aZ (by simp) U ?_))
  rintro _ _ ⟨NS3,NF3,NU3,NX3,a3,c3,D3,bs3,rfl,rfl,BS3,r3,hF3,aF3,hC3⟩
  show At _ _ _ [NS3,NF3,NU3,NX3,NG,NOi,NX1,NT2,Nm,R,N38,N36,NB2,N3] _
  skip
  refine dH (aS (s_7 (dI (cH (dI (dI (dI (dI (dI (dI (dI (dI (dI (dI (dI (dI (cS [NS3,N3] [8] [] [0,1,2,3,4,5,6,7,8] (by kernel_rfl) (by kernel_rfl) (.cons _ (.cons _ (.cons _ (.cons _ (.cons _ (.cons _ (.cons _ (.cons _ (.cons _ (.cons _ (.cons _ (.cons _ (.refl _))))))))))))) (aR (bB U U U) U U (aR (bB U U U) U U (bH (bB U U U) U U (aJ (bB U U U) fl85_1 U U (aJ (bB U U U) fl83_1 U U (aU (bB U U U) sc76 U BS3 U cO U ?_)))))))))))))))))))))))
  refine aK (ds:=u8s k) (bB U U U) ag33 U B3 (by exact bJ hul) (by exact hul) dG U ?_
  refine op_build (out:= []) (bB U U U) ze115 pl115 .nil U U (dI (dI (dI (bE (bE (bE (bE (bE (bE (bE (bE (bE (dI (dI (At.pack (As:= [N38,N36]) (fun hANX=>?_))))))))))))))))
  obtain⟨NX,eNX⟩: ∃N,N=joinL [N38,N36]:=⟨_,rfl⟩
  rw [←eNX]
  refine aV (bE (bE (bO (bO (bO (bO (bO (bR (bR (bO (bE (aV (cR (nxsl U U U U) (.cons U (.cons U (.cons U (.cons U .nil)))) (PutAU () BS3 r3 (by omega) hm am hk (by omega)) (F:= [NX,NF3,NX3,NG,NOi,NX1,NT2,R,NB2,N3]) Tryz.func67 U U aZ (by simp) U ?_)))))))))))))
  rintro _ _ ⟨NS4,Nm4,NU4,NX4,a4,c4,D4,bs4,rfl,rfl,BS4,r4,hm4,am4,hC4⟩
  show At _ _ _ [NS4,Nm4,NU4,NX4,NX,NF3,NX3,NG,NOi,NX1,NT2,R,NB2,N3] _
  skip
  refine dH (dI (aV (aV (aV (aV (aV (aV (aV (bE (bE (bE (bE (dI (dI (At.merge (fun hap=>aV (aV (aV (bE (bE (bO (bO (bO (bO (bO (bO (bE (aV (cV (fun Qa Qa1 Qa2=>bE (bE (bE (bE (bE (bE (bO (bO (bO (bO (bE ?_))))))))))))))))))))))))))))))))))))))))
  refine bE (cV (fun Q Q1 Q2=>dropAt10 (dropAt6 (a6 (bA (bM (bI (bA (aY (a6 (a6 (a6 (cQ (L1:= [NS4,NF3,NT2,NU4,(join2 NX NB2),Q,NOi,Nm4]) U .nil U (.refl _) aZ ?_)))))))))))))
  have hbx:Blk NX b38 71 (acK 0 o.ba none 0 0 b36):=by rw [eNX];exact B38.le (le_joinL hANX (by simp))
  have hz:J1.ob b38=none:=hB2.fresh hap hbx
  have hb0:Blk N38 b38 71 (acK 0 o.ba none 0 0 b36):=B38
  have hbo: ∀K,NJ.le K→Q.le K→ObF (join2 NX NB2) K (c+4) (addOb b38 ⟨0,o.ba,none,0,[],b36,fun _=>none,k⟩ J1).ob:=fun K h1 _=>ObF.put hap ⟨N38,N36,.map [],hANX,eNX,⟨hb0,M36.mono (Nat.zero_le _),MapF.nil,(Row.nil K 0 1).rsl,Nat.zero_le _,hX.ba,fun _ _ h=>by cases h⟩⟩ (hB2.mono (by omega) h1) hz
  have hw2:JWf (addOb b38 ⟨0,o.ba,none,0,[],b36,fun _=>none,k⟩ J1):=hw1.add _ hz
  have hw3:JWf (pacJ k b38 (addOb b38 ⟨0,o.ba,none,0,[],b36,fun _=>none,k⟩ J1)):=hw1.pac hz rfl
  have hE2:Ext x NJ Q J1 [] (addOb b38 ⟨0,o.ba,none,0,[],b36,fun _=>none,k⟩ J1):=Ext.born hz hw1
  have hE3:Ext x NJ Q (addOb b38 ⟨0,o.ba,none,0,[],b36,fun _=>none,k⟩ J1) [cloV 91 bs3] (pacJ k b38 (addOb b38 ⟨0,o.ba,none,0,[],b36,fun _=>none,k⟩ J1)):=Ext.one (e:=.ac k (J1.ac k)) ⟨rfl,hk,hC3.le (Heaplet.le_trans Qa2 Q1)⟩ (fun p hp=>by
   obtain⟨q,hq,hqa⟩:=hw1 k p hp
   exact⟨q,(add_ob (fit_ne hz ⟨q,hq⟩)).trans hq,hqa⟩) (by show({ pacJ k b38 (addOb b38 _ J1)with ac:=updF (updF J1.ac k (some b38)) k (J1.ac k) } :JS)=_;rw [updF_back rfl];rfl) hw2
  have hE4:Ext x NJ Q (pacJ k b38 (addOb b38 ⟨0,o.ba,none,0,[],b36,fun _=>none,k⟩ J1)) [cloV 92 bs4] { pacJ k b38 (addOb b38 ⟨0,o.ba,none,0,[],b36,fun _=>none,k⟩ J1)with lm:=updF J1.lm k (some ()) } :=Ext.one (e:=.lm k (J1.lm k)) ⟨rfl,hk,by rw [e1m];exact hC4.le Q2⟩ trivial (by show({ pacJ k b38 (addOb b38 _ J1)with lm:=updF (updF J1.lm k (some ())) k (J1.lm k) } :JS)=_;rw [updF_back rfl];rfl) hw3
  have hlo:mkF k o.st pre lo=mkO J.v k lo:=mkF_fin hac ho hv1 fun q hq=>by
   have hp:=hK.fin aX.dis aX.key e15
   refine hp.symm.subset (mem_keys.2 ?_)
   rw [fX];exact hq
  rw [List.append_assoc,List.append_assoc]at r4
  refine⟨[NS4,NF3,NT2,NU4,_,Q],NOi,Nm4,DOi,D4,rfl,⟨NS4,NF3,NT2,NU4,_,Q,a4,c4,D3,DT2,{ pacJ k b38 (addOb b38 ⟨0,o.ba,none,0,[],b36,fun _=>none,k⟩ J1)with lm:=updF J1.lm k (some ()) },us1++([cloV 91 bs3]++ [cloV 92 bs4]),rfl,rfl,by rw [List.length_append, ←Nat.add_assoc];exact BS4,by rw [List.length_append, ←Nat.add_assoc];exact r4,hF3.mono (by omega),aF3,hT2.mono (by omega),aT2,hbo,by rw [List.length_append];exact Nat.add_le_add_right hl1 2,hw3,(hE1.le (Heaplet.le_trans Qa1 Q1)).trans (hE2.trans (hE3.trans hE4)),?_⟩,hOm.mono (by omega),by rw [←hlo];exact hOa,hm4.mono (by omega),am4⟩
  show({ (pacJ k b38 (addOb b38 ⟨0,o.ba,none,0,[],b36,fun _=>none,k⟩ J1)).v with lm:=updF J1.lm k (some ()) } :Vw)=_
  have h1:=at_v hac ho
  rw [hv1]at h1
  have h2:(J.v.ac k).getD AcV.z=o.v:=Option.some.inj ((updF_at (f:=J.v.ac)).symm.trans h1)
  rw [pac_v hw1 hz,hv1,e1m]
  unfold madV setV
  simp only [updF_updF,h2];rfl
 show At _ _ _ [N15,NOi,N3,NS2,NF2,NB2,NX1,NT2,NU2,Nm,R] _
 obtain⟨kk,hok,rfl,rfl⟩:=keyW_inv ke15
 obtain⟨hks,hnk⟩:=(hK.left kk hok).1 lf15
 obtain⟨v0,hgk⟩:=Option.isSome_iff_exists.1 hks
 have hsk:o.st kk=some v0:=(fX kk).symm.trans hgk
 obtain rfl:v15=.agg (u64s (wl v0)).toArray:=by
  have hat:=at15 (.held (wordV 0))
  rw [aX.look hok,hgk]at hat
  exact(DataW.held.inj hat).symm
 have hpl:=hK.len1 keE_W aX.dis hok lf15
 refine bW aN U U U (aI (s_5 (aH fun _ s_8=>At.condT U (cG (aS (s_8 (bX (aH fun _ s_9=>aB (op_entry aN U en15 (by simp) (by simp) U (bW aN U U U (bW aN U U U (bZ bT ze36 U (fun N5 b5 B5=>?_)))))))))))))
 change Blk N5 b5 _ [.int .u64 0,.int .u64 0,.int .u64 0,.int .u64 0]at B5
 refine bZ bT ze36 U (fun N6 b6 B6=>?_)
 change Blk N6 b6 _ [.int .u64 0,.int .u64 0,.int .u64 0,.int .u64 0]at B6
 refine bP nxQ sz36 U U U (bQ kk) (one_wl kk) B5 (by simp) sel1 (fun N5 B5=>?_)
 skip
 refine bP nxQ sz36 U U U (bQ v0) (one_wl v0) B6 (by simp) sel1 (fun N6 B6=>?_)
 skip
 refine aI (s_9 (aB (bC U U (aK (ds:=u8s k) aN ag33 U B3 (by exact bJ hul) (by exact hul) mem4 U ?_))))
 refine aK (ds:=u64s (wl kk)) aN ag36 U B5 (by exact bJ (bQ kk)) (by exact bQ kk) dG U ?_
 refine op_build (out:=u8s k++u64s (wl kk)) aN ze105 pl105 (.cons U (.cons U .nil)) (fill_place hk _ U) U (aK (ds:=u64s (wl v0)) aN ag36 U B6 (by exact bJ (bQ v0)) (by exact bQ v0) cO U ?_)
 refine aV (aV (aV (aV (aV (aV (aV (aV (aV (bE (bE (bE (aV (cR nxQ (.cons U (.cons U (.cons U .nil))) (JFirst (v:=v0) BS2 hOm hOa ⟨hk,hok⟩ (by omega)) (F:= [N6,N5,N15,N3,NS2,NF2,NB2,NX1,NT2,NU2,Nm,R]) Tryz.func53 U U aZ (by simp) U ?_)))))))))))))
 rintro _ _ ⟨NO3,DO3,rfl,rfl,hO3,hO3a⟩
 show At _ _ _ [NO3,N6,N5,N15,N3,NS2,NF2,NB2,NX1,NT2,NU2,Nm,R] _
 skip
 refine cE (cJ (aS (dropAt2 (cT (bO (bO (bO (bO (bO (bO (bO (bO (bO (bR (bO ?_)))))))))))))))
 refine At.back ?_ aZ ⟨pre++ [kk],_,n15,N15,NO3,DO3,rfl,rfl,rfl,g15,hK.step keE_W hok lf15,by rw [List.length_append];exact hO3,by rw [←mkF_step hsk hnk];exact hO3a⟩ ?_
 ·repeat first|apply cW|exact .nil|exact lkI rfl (by omega)|rfl
 ·omega
end
section
variable {P : Program} {f : FuncId} {args : Array Value} {L0 Lr As Rs Ps : List Heaplet} {Post Post' : Value → List Heaplet → Prop}
theorem Fn.onN (hap:Ps.Pairwise Apart) (h:Fn P f args As Lr Post) (Rs:List Heaplet) (hp:(As++Rs).Perm Ps) (ho: ∀v L,Post v L→ ∃Qs,(L++Rs).Perm Qs∧(Qs.Pairwise Apart→Post' v [joinL Qs])):Fn P f args [joinL Ps] Lr Post':=by
 have h1:Fn P f args (Ps++ []) Lr (fun v L=> ∃L1,L.Perm (L1++Rs)∧Post v L1):=by
  rw [List.append_nil]
  exact((h.frame Rs).permL hp).out fun v L ⟨L1,e,hq⟩=>⟨L,.refl L,L1,e▸.refl _,hq⟩
 have h2:Fn P f args (Ps++ []) Lr (fun v Qs=>Qs.Pairwise Apart→Post' v [joinL Qs]):=h1.out fun v L ⟨L1,e,hq⟩=>by
  obtain⟨Qs,h3,h4⟩:=ho v L1 hq
  exact⟨Qs,e.trans h3,h4⟩
 exact Fn.pack (L0:= []) hap h2 fun v L hq=>⟨L,[],(List.append_nil L).symm,hq⟩
theorem permN {α:Type} (L:List α) (d:α) {i j:List Nat} (h:i.Perm j):(i.map fun q=>L.getD q d).Perm (j.map fun q=>L.getD q d):=h.map _
end
structure QG where
 J:JS
 H:List (Value×JS)
 mu:List (Int×Nat)
 la:Option Addr
 lc:Nat
 ls:List Value
 ua:Option Addr
 uc:Nat
 ka:Option Addr
 kc:Nat
 DO:DataW Value
 DF:DataW Value
 DT:DataW Value
 DM:DataW Value
 DW:DataW Value
 DD:DataW Value
 DP:DataW Value
 DQ:DataW Value
def QG.u (g:QG):Value:=.slice g.ua g.H.length g.uc
def QG.k (g:QG):Value:=.slice g.ka g.mu.length g.kc
def QG.ms (g:QG):List (Int×Vw):=g.mu.map fun m=>(m.1,(lev g.H g.J m.2).v)
structure QO (x:FxP) (g:QG) (n c oc:Nat) (lo:List UInt8×Nat→Option Nat) (tl:Int) (NS NF NT NM NW ND NP NQ NO NL NU NK NB NJ:Heaplet):Prop where
 O:MemO x c g.J g.u g.k tl NS NF NT NM NW ND NP NQ NL NB NJ g.DF g.DT g.DM g.DW g.DD g.DP g.DQ g.la g.lc g.ls
 Uq:Row NU 1 1 g.ua g.H.length g.uc (g.H.map Prod.fst)
 K:Row NK 108 2 g.ka g.mu.length g.kc (g.mu.flatMap markC)
 G:MapV Tryz.prog 105 NO x.og oc g.DO
 aG:MapF keyPP okPl wordV g.DO lo
 h:Hst x NJ g.H g.J
 mu:(g.mu.map Prod.snd).Pairwise (· ≤ ·)
 mb: ∀m∈g.mu,m.2≤g.H.length
 bU:g.H.length≤n
 bN:n≤c
 bK:g.mu.length≤n
 bt:0≤tl∧tl≤n
def StQ (sp n c oc:Nat) (V:Vw) (lo:List UInt8×Nat→Option Nat) (ms:List (Int×Vw)) (tl:Int) (N:Heaplet):Prop:= ∃(x:FxP) (g:QG) (NS NF NT NM NW ND NP NQ NO NL NU NK NB NJ:Heaplet),N=joinL [NS,NF,NT,NM,NW,ND,NP,NQ,NO,NL,NU,NK,NB,NJ]∧ [NS,NF,NT,NM,NW,ND,NP,NQ,NO,NL,NU,NK,NB,NJ].Pairwise Apart∧QO x g n c oc lo tl NS NF NT NM NW ND NP NQ NO NL NU NK NB NJ∧x.sp=sp∧g.J.v=V∧g.ms=ms
def StQP (sp n c oc:Nat) (V:Vw) (lo:List UInt8×Nat→Option Nat) (ms:List (Int×Vw)) (tl:Int) (L:List Heaplet):Prop:= ∃N,L= [N]∧StQ sp n c oc V lo ms tl N
theorem QO.mono {x:FxP} {g:QG} {n c oc m d od:Nat} {lo:List UInt8×Nat→Option Nat} {tl:Int} {NS NF NT NM NW ND NP NQ NO NL NU NK NB NJ:Heaplet} (h:QO x g n c oc lo tl NS NF NT NM NW ND NP NQ NO NL NU NK NB NJ) (h0:n≤m) (h1:c≤d) (h2:oc≤od) (h3:m≤d):QO x g m d od lo tl NS NF NT NM NW ND NP NQ NO NL NU NK NB NJ:=⟨h.O.mono h1 (Heaplet.le_refl _),h.Uq,h.K,h.G.mono h2,h.aG,h.h,h.mu,h.mb,Nat.le_trans h.bU h0,h3,Nat.le_trans h.bK h0,h.bt.1,Int.le_trans h.bt.2 (Int.ofNat_le.2 h0)⟩
theorem StQ.mono {sp n c oc m d od:Nat} {V:Vw} {lo:List UInt8×Nat→Option Nat} {ms:List (Int×Vw)} {tl:Int} {N:Heaplet} (h:StQ sp n c oc V lo ms tl N) (h0:n≤m) (h1:c≤d) (h2:oc≤od) (h3:m≤d):StQ sp m d od V lo ms tl N:=by
 obtain⟨x,g,NS,NF,NT,NM,NW,ND,NP,NQ,NO,NL,NU,NK,NB,NJ,e,hap,q,r⟩:=h
 exact⟨x,g,NS,NF,NT,NM,NW,ND,NP,NQ,NO,NL,NU,NK,NB,NJ,e,hap,q.mono h0 h1 h2 h3,r⟩
theorem map_lev {H H2:List (Value×JS)} {J J2:JS} {mu:List (Int×Nat)} {n:Nat} (hb: ∀m∈mu,m.2≤n) (hv: ∀i,i≤n→(lev H2 J2 i).v=(lev H J i).v):(mu.map fun m=>(m.1,(lev H2 J2 m.2).v))=mu.map fun m=>(m.1,(lev H J m.2).v):=List.map_congr_left fun m hm=>by rw [hv m.2 (hb m hm)]
theorem StQ.step {x:FxP} {g:QG} {n c oc cu lc:Nat} {lo lo2:List UInt8×Nat→Option Nat} {tl:Int} {NS NF NT NM NW ND NP NQ NO NL NU NK NB NJ NX NS2 NF2 NT2 NM2 NW2 ND2 NP2 NQ2 NO2 NL2 NU2 NB2:Heaplet} {J2:JS} {us2:List Value} {a la:Option Addr} {ls:List Value} {DF2 DT2 DM2 DW2 DD2 DP2 DQ2 DO2:DataW Value} (q:QO x g n c oc lo tl NS NF NT NM NW ND NP NQ NO NL NU NK NB NJ) (hE:Ext x NJ NX g.J us2 J2) (hl:us2.length≤4) (hap: [NS2,NF2,NT2,NM2,NW2,ND2,NP2,NQ2,NO2,NL2,NU2,NK,NB2,NJ,NX].Pairwise Apart) (m:MemO x (c+4) J2 (.slice a (g.H.length+us2.length) cu) g.k tl NS2 NF2 NT2 NM2 NW2 ND2 NP2 NQ2 NL2 NB2 (join2 NJ NX) DF2 DT2 DM2 DW2 DD2 DP2 DQ2 la lc ls) (Uq:Row NU2 1 1 a (g.H.length+us2.length) cu (g.H.map Prod.fst++us2)) (G:MapV Tryz.prog 105 NO2 x.og (oc+c+4) DO2) (aG:MapF keyPP okPl wordV DO2 lo2):StQ x.sp (n+4) (c+4) (oc+c+4) J2.v lo2 g.ms tl (joinL [NS2,NF2,NT2,NM2,NW2,ND2,NP2,NQ2,NO2,NL2,NU2,NK,NB2,NJ,NX]):=by
 obtain⟨hjx,hap2⟩:=apart_fold (A:= [NS2,NF2,NT2,NM2,NW2,ND2,NP2,NQ2,NO2,NL2,NU2,NK,NB2]) (X:=NJ) (Y:=NX) (C:= []) hap
 obtain⟨H2,h1,h2,h3⟩:=hE NJ (join2 NJ NX) g.H join2_left join2_left (join2_right hjx) q.h
 have hlen:H2.length=g.H.length+us2.length:=by
  have:=congrArg List.length h2
  rw [List.length_map,List.length_append,List.length_map]at this
  exact this
 have bU:=q.bU
 have bN:=q.bN
 have bK:=q.bK
 have bt:=q.bt
 refine⟨x,⟨J2,H2,g.mu,la,lc,ls,a,cu,g.ka,g.kc,DO2,DF2,DT2,DM2,DW2,DD2,DP2,DQ2⟩,NS2,NF2,NT2,NM2,NW2,ND2,NP2,NQ2,NO2,NL2,NU2,NK,NB2,join2 NJ NX,?_,hap2,⟨by rw [QG.u,hlen];exact m,by rw [hlen,h2];exact Uq,q.K,G,aG,h1,q.mu,fun p hp=>by rw [hlen];exact Nat.le_trans (q.mb p hp) (Nat.le_add_right _ _),by rw [hlen];omega,by omega,Nat.le_trans bK (Nat.le_add_right n 4),bt.1,by omega⟩,rfl,rfl,map_lev q.mb h3⟩
 exact(joinL_flat (A:= [NS2,NF2,NT2,NM2,NW2,ND2,NP2,NQ2,NO2,NL2,NU2,NK,NB2]) (X:=NJ) (Y:=NX) (C:= [])).symm
theorem setV_split {J J2:JS} {k:List UInt8} {G:AcV→AcV} (h:J2.v=setV k G J.v): ∃lt ac ob,J2= { J with lt:=lt,ac:=ac,ob:=ob } :=by
 refine⟨J2.lt,J2.ac,J2.ob,?_⟩
 have e1:J2.lm=J.lm:=congrArg Vw.lm h
 have e2:J2.lw=J.lw:=congrArg Vw.lw h
 have e3:J2.ld=J.ld:=congrArg Vw.ld h
 have e4:J2.lp=J.lp:=congrArg Vw.lp h
 have e5:J2.lq=J.lq:=congrArg Vw.lq h
 have e6:J2.rf=J.rf:=congrArg Vw.rf h
 have e7:J2.lg=J.lg:=congrArg Vw.lg h
 rw [←e1, ←e2, ←e3, ←e4, ←e5, ←e6, ←e7]
theorem madV_split {J J2:JS} {k:List UInt8} (h:J2.v=madV k J.v): ∃lt ac ob,J2= { J with lt:=lt,lm:=updF J.lm k (some ()),ac:=ac,ob:=ob } :=by
 refine⟨J2.lt,J2.ac,J2.ob,?_⟩
 have e1:J2.lm=updF J.lm k (some ()):=congrArg Vw.lm h
 have e2:J2.lw=J.lw:=congrArg Vw.lw h
 have e3:J2.ld=J.ld:=congrArg Vw.ld h
 have e4:J2.lp=J.lp:=congrArg Vw.lp h
 have e5:J2.lq=J.lq:=congrArg Vw.lq h
 have e6:J2.rf=J.rf:=congrArg Vw.rf h
 have e7:J2.lg=J.lg:=congrArg Vw.lg h
 rw [←e1, ←e2, ←e3, ←e4, ←e5, ←e6, ←e7]
section
variable {N K : Heaplet} {sp n c oc : Nat} {V : Vw} {lo : List UInt8 × Nat → Option Nat} {ms : List (Int × Vw)} {tl : Int} {k : List UInt8} {x y : Nat}
theorem QTouch (h:StQ sp n c oc V lo ms tl N) (hk:okAd k) (hc:c+oc≤1000000000):Fn Tryz.prog 38 #[.pointer (some ⟨sp,0,none⟩),.agg (u8s k).toArray] [N] [] (fun v L=>v=.tuple #[]∧StQP sp (n+4) (c+4) (oc+c+4) ({ V with lt:=updF V.lt k (some ()) }) (lo) ms tl L):=by
 obtain⟨z,g,NS,NF,NT,NM,NW,ND,NP,NQ,NO,NL,NU,NK,NB,NJ,rfl,hap,q,rfl,rfl,rfl⟩:=h
 have bU:=q.bU
 have bN:=q.bN
 refine Fn.onN hap (JTouch q.O.S q.Uq (by omega) q.O.T q.O.aT hk (by omega)) [NF,NM,NW,ND,NP,NQ,NO,NL,NK,NB,NJ] (permN [NS,NF,NT,NM,NW,ND,NP,NQ,NO,NL,NU,NK,NB,NJ] nilH (by decide:([0,2,10,1,3,4,5,6,7,8,9,11,12,13]:List Nat).Perm [0,1,2,3,4,5,6,7,8,9,10,11,12,13])) fun v L hp=>?_
 obtain⟨NS2,NT2,NU2,NX,a,cu,D2,bs,e1,rfl,S2,r2,m2,a2,C2⟩:=hp
 refine⟨[NS2,NF,NT2,NM,NW,ND,NP,NQ,NO,NL,NU2,NK,NB,NJ,NX],permN [NS2,NT2,NU2,NX,NF,NM,NW,ND,NP,NQ,NO,NL,NK,NB,NJ] nilH (by decide:([0,1,2,3,4,5,6,7,8,9,10,11,12,13,14]:List Nat).Perm [0,4,1,5,6,7,8,9,10,11,2,12,13,14,3]),fun hs=>?_⟩
 have hjx:Apart NJ NX:=(apart_fold (A:= [NS2,NF,NT2,NM,NW,ND,NP,NQ,NO,NL,NU2,NK,NB]) (C:= []) hs).1
 have m:=q.O.mono (Nat.le_add_right c 4) (join2_left (A:=NJ) (B:=NX))
 exact⟨e1,_,rfl,StQ.step (J2:= { g.J with lt:=updF g.J.lt k (some ()) }) q (Ext.one (e:=.lt k (g.J.lt k)) ⟨rfl,hk,C2⟩ trivial (by show({ g.J with lt:=updF (updF g.J.lt k (some ())) k (g.J.lt k) } :JS)=g.J;rw [updF_back rfl]) q.O.wf) (by decide:1≤4) hs ⟨S2,m.F,m2.mono (by omega),m.M,m.W,m.D,m.P,m.Q,m.aF,a2,m.aM,m.aW,m.aD,m.aP,m.aQ,m.L,m.lg,m.B,m.wf,m.bL⟩ r2 (q.G.mono (by omega)) q.aG⟩
theorem QDestroy (h:StQ sp n c oc V lo ms tl N) (hk:okAd k) (hc:c+oc≤1000000000):Fn Tryz.prog 44 #[.pointer (some ⟨sp,0,none⟩),.agg (u8s k).toArray] [N] [] (fun v L=>v=.tuple #[]∧StQP sp (n+4) (c+4) (oc+c+4) ({ V with ld:=updF V.ld k (some ()) }) (lo) ms tl L):=by
 obtain⟨z,g,NS,NF,NT,NM,NW,ND,NP,NQ,NO,NL,NU,NK,NB,NJ,rfl,hap,q,rfl,rfl,rfl⟩:=h
 have bU:=q.bU
 have bN:=q.bN
 refine Fn.onN hap (JDestroy q.O.S q.Uq (by omega) q.O.D q.O.aD hk (by omega)) [NF,NT,NM,NW,NP,NQ,NO,NL,NK,NB,NJ] (permN [NS,NF,NT,NM,NW,ND,NP,NQ,NO,NL,NU,NK,NB,NJ] nilH (by decide:([0,5,10,1,2,3,4,6,7,8,9,11,12,13]:List Nat).Perm [0,1,2,3,4,5,6,7,8,9,10,11,12,13])) fun v L hp=>?_
 obtain⟨NS2,ND2,NU2,NX,a,cu,D2,bs,e1,rfl,S2,r2,m2,a2,C2⟩:=hp
 refine⟨[NS2,NF,NT,NM,NW,ND2,NP,NQ,NO,NL,NU2,NK,NB,NJ,NX],permN [NS2,ND2,NU2,NX,NF,NT,NM,NW,NP,NQ,NO,NL,NK,NB,NJ] nilH (by decide:([0,1,2,3,4,5,6,7,8,9,10,11,12,13,14]:List Nat).Perm [0,4,5,6,7,1,8,9,10,11,2,12,13,14,3]),fun hs=>?_⟩
 have hjx:Apart NJ NX:=(apart_fold (A:= [NS2,NF,NT,NM,NW,ND2,NP,NQ,NO,NL,NU2,NK,NB]) (C:= []) hs).1
 have m:=q.O.mono (Nat.le_add_right c 4) (join2_left (A:=NJ) (B:=NX))
 exact⟨e1,_,rfl,StQ.step (J2:= { g.J with ld:=updF g.J.ld k (some ()) }) q (Ext.one (e:=.ld k (g.J.ld k)) ⟨rfl,hk,C2⟩ trivial (by show({ g.J with ld:=updF (updF g.J.ld k (some ())) k (g.J.ld k) } :JS)=g.J;rw [updF_back rfl]) q.O.wf) (by decide:1≤4) hs ⟨S2,m.F,m.T,m.M,m.W,m2.mono (by omega),m.P,m.Q,m.aF,m.aT,m.aM,m.aW,a2,m.aP,m.aQ,m.L,m.lg,m.B,m.wf,m.bL⟩ r2 (q.G.mono (by omega)) q.aG⟩
theorem QHeat (h:StQ sp n c oc V lo ms tl N) (hk:okAd k) (hc:c+oc≤1000000000):Fn Tryz.prog 39 #[.pointer (some ⟨sp,0,none⟩),.agg (u8s k).toArray] [N] [] (fun v L=>v=.bool (V.lw k).isSome∧StQP sp (n+4) (c+4) (oc+c+4) ({ V with lw:=updF V.lw k (some ()) }) (lo) ms tl L):=by
 obtain⟨z,g,NS,NF,NT,NM,NW,ND,NP,NQ,NO,NL,NU,NK,NB,NJ,rfl,hap,q,rfl,rfl,rfl⟩:=h
 have bU:=q.bU
 have bN:=q.bN
 refine Fn.onN hap (JHeat q.O.S q.Uq (by omega) q.O.W q.O.aW hk (by omega)) [NF,NT,NM,ND,NP,NQ,NO,NL,NK,NB,NJ] (permN [NS,NF,NT,NM,NW,ND,NP,NQ,NO,NL,NU,NK,NB,NJ] nilH (by decide:([0,4,10,1,2,3,5,6,7,8,9,11,12,13]:List Nat).Perm [0,1,2,3,4,5,6,7,8,9,10,11,12,13])) fun v L hp=>?_
 obtain⟨NS2,NW2,NU2,NX,a,cu,D2,bs,e1,rfl,S2,r2,m2,a2,C2⟩:=hp
 refine⟨[NS2,NF,NT,NM,NW2,ND,NP,NQ,NO,NL,NU2,NK,NB,NJ,NX],permN [NS2,NW2,NU2,NX,NF,NT,NM,ND,NP,NQ,NO,NL,NK,NB,NJ] nilH (by decide:([0,1,2,3,4,5,6,7,8,9,10,11,12,13,14]:List Nat).Perm [0,4,5,6,1,7,8,9,10,11,2,12,13,14,3]),fun hs=>?_⟩
 have hjx:Apart NJ NX:=(apart_fold (A:= [NS2,NF,NT,NM,NW2,ND,NP,NQ,NO,NL,NU2,NK,NB]) (C:= []) hs).1
 have m:=q.O.mono (Nat.le_add_right c 4) (join2_left (A:=NJ) (B:=NX))
 exact⟨e1,_,rfl,StQ.step (J2:= { g.J with lw:=updF g.J.lw k (some ()) }) q (Ext.one (e:=.lw k (g.J.lw k)) ⟨rfl,hk,C2⟩ trivial (by show({ g.J with lw:=updF (updF g.J.lw k (some ())) k (g.J.lw k) } :JS)=g.J;rw [updF_back rfl]) q.O.wf) (by decide:1≤4) hs ⟨S2,m.F,m.T,m.M,m2.mono (by omega),m.D,m.P,m.Q,m.aF,m.aT,m.aM,a2,m.aD,m.aP,m.aQ,m.L,m.lg,m.B,m.wf,m.bL⟩ r2 (q.G.mono (by omega)) q.aG⟩
theorem QHSlot (h:StQ sp n c oc V lo ms tl N) (hk:okPl (k,x)) (hc:c+oc≤1000000000):Fn Tryz.prog 27 #[.pointer (some ⟨sp,0,none⟩),.agg (u8s k).toArray,.agg (u64s (wl x)).toArray] [N] [] (fun v L=>v=.bool (V.lp (k,x)).isSome∧StQP sp (n+4) (c+4) (oc+c+4) ({ V with lp:=updF V.lp (k,x) (some ()) }) (lo) ms tl L):=by
 obtain⟨z,g,NS,NF,NT,NM,NW,ND,NP,NQ,NO,NL,NU,NK,NB,NJ,rfl,hap,q,rfl,rfl,rfl⟩:=h
 have bU:=q.bU
 have bN:=q.bN
 refine Fn.onN hap (JHeatSlot q.O.S q.Uq (by omega) q.O.P q.O.aP hk (by omega)) [NF,NT,NM,NW,ND,NQ,NO,NL,NK,NB,NJ] (permN [NS,NF,NT,NM,NW,ND,NP,NQ,NO,NL,NU,NK,NB,NJ] nilH (by decide:([0,6,10,1,2,3,4,5,7,8,9,11,12,13]:List Nat).Perm [0,1,2,3,4,5,6,7,8,9,10,11,12,13])) fun v L hp=>?_
 obtain⟨NS2,NP2,NU2,NX,a,cu,D2,bs,e1,rfl,S2,r2,m2,a2,C2⟩:=hp
 refine⟨[NS2,NF,NT,NM,NW,ND,NP2,NQ,NO,NL,NU2,NK,NB,NJ,NX],permN [NS2,NP2,NU2,NX,NF,NT,NM,NW,ND,NQ,NO,NL,NK,NB,NJ] nilH (by decide:([0,1,2,3,4,5,6,7,8,9,10,11,12,13,14]:List Nat).Perm [0,4,5,6,7,8,1,9,10,11,2,12,13,14,3]),fun hs=>?_⟩
 have hjx:Apart NJ NX:=(apart_fold (A:= [NS2,NF,NT,NM,NW,ND,NP2,NQ,NO,NL,NU2,NK,NB]) (C:= []) hs).1
 have m:=q.O.mono (Nat.le_add_right c 4) (join2_left (A:=NJ) (B:=NX))
 exact⟨e1,_,rfl,StQ.step (J2:= { g.J with lp:=updF g.J.lp (k,x) (some ()) }) q (Ext.one (e:=.lp (k,x) (g.J.lp (k,x))) ⟨rfl,hk,C2⟩ trivial (by show({ g.J with lp:=updF (updF g.J.lp (k,x) (some ())) (k,x) (g.J.lp (k,x)) } :JS)=g.J;rw [updF_back rfl]) q.O.wf) (by decide:1≤4) hs ⟨S2,m.F,m.T,m.M,m.W,m.D,m2.mono (by omega),m.Q,m.aF,m.aT,m.aM,m.aW,m.aD,a2,m.aQ,m.L,m.lg,m.B,m.wf,m.bL⟩ r2 (q.G.mono (by omega)) q.aG⟩
theorem QTrans (h:StQ sp n c oc V lo ms tl N) (hk:okPl (k,x)) (hc:c+oc≤1000000000):Fn Tryz.prog 37 #[.pointer (some ⟨sp,0,none⟩),.agg (u8s k).toArray,.agg (u64s (wl x)).toArray,.agg (u64s (wl y)).toArray] [N] [] (fun v L=>v=.tuple #[]∧StQP sp (n+4) (c+4) (oc+c+4) ({ V with lq:=updF V.lq (k,x) (some y) }) (lo) ms tl L):=by
 obtain⟨z,g,NS,NF,NT,NM,NW,ND,NP,NQ,NO,NL,NU,NK,NB,NJ,rfl,hap,q,rfl,rfl,rfl⟩:=h
 have bU:=q.bU
 have bN:=q.bN
 refine Fn.onN hap (JTrans (y:=y) q.O.S q.Uq (by omega) q.O.Q q.O.aQ hk (by omega)) [NF,NT,NM,NW,ND,NP,NO,NL,NK,NB,NJ] (permN [NS,NF,NT,NM,NW,ND,NP,NQ,NO,NL,NU,NK,NB,NJ] nilH (by decide:([0,7,10,1,2,3,4,5,6,8,9,11,12,13]:List Nat).Perm [0,1,2,3,4,5,6,7,8,9,10,11,12,13])) fun v L hp=>?_
 obtain⟨NS2,NQ2,NU2,NX,a,cu,D2,bs,e1,rfl,S2,r2,m2,a2,C2⟩:=hp
 refine⟨[NS2,NF,NT,NM,NW,ND,NP,NQ2,NO,NL,NU2,NK,NB,NJ,NX],permN [NS2,NQ2,NU2,NX,NF,NT,NM,NW,ND,NP,NO,NL,NK,NB,NJ] nilH (by decide:([0,1,2,3,4,5,6,7,8,9,10,11,12,13,14]:List Nat).Perm [0,4,5,6,7,8,9,1,10,11,2,12,13,14,3]),fun hs=>?_⟩
 have hjx:Apart NJ NX:=(apart_fold (A:= [NS2,NF,NT,NM,NW,ND,NP,NQ2,NO,NL,NU2,NK,NB]) (C:= []) hs).1
 have m:=q.O.mono (Nat.le_add_right c 4) (join2_left (A:=NJ) (B:=NX))
 exact⟨e1,_,rfl,StQ.step (J2:= { g.J with lq:=updF g.J.lq (k,x) (some y) }) q (Ext.one (e:=.lq (k,x) (g.J.lq (k,x))) ⟨rfl,hk,C2⟩ trivial (by show({ g.J with lq:=updF (updF g.J.lq (k,x) (some y)) (k,x) (g.J.lq (k,x)) } :JS)=g.J;rw [updF_back rfl]) q.O.wf) (by decide:1≤4) hs ⟨S2,m.F,m.T,m.M,m.W,m.D,m.P,m2.mono (by omega),m.aF,m.aT,m.aM,m.aW,m.aD,m.aP,a2,m.L,m.lg,m.B,m.wf,m.bL⟩ r2 (q.G.mono (by omega)) q.aG⟩
theorem QAdd (h:StQ sp n c oc V lo ms tl N) {w:UInt64} (hc:c+oc≤1000000000):Fn Tryz.prog 40 #[.pointer (some ⟨sp,0,none⟩),.int .u64 (w.toNat:Int)] [N] [] (fun v L=>v=.tuple #[]∧StQP sp (n+4) (c+4) (oc+c+4) ({ V with rf:=addR V.rf w }) (lo) ms tl L):=by
 obtain⟨z,g,NS,NF,NT,NM,NW,ND,NP,NQ,NO,NL,NU,NK,NB,NJ,rfl,hap,q,rfl,rfl,rfl⟩:=h
 have bU:=q.bU
 have bN:=q.bN
 refine Fn.onN hap (JAdd (y:=w) q.O.S q.Uq (by omega)) [NF,NT,NM,NW,ND,NP,NQ,NO,NL,NK,NB,NJ] (permN [NS,NF,NT,NM,NW,ND,NP,NQ,NO,NL,NU,NK,NB,NJ] nilH (by decide:([0,10,1,2,3,4,5,6,7,8,9,11,12,13]:List Nat).Perm [0,1,2,3,4,5,6,7,8,9,10,11,12,13])) fun v L hp=>?_
 obtain⟨NS2,NU2,NX,a,cu,bs,e1,rfl,S2,r2,C2⟩:=hp
 refine⟨[NS2,NF,NT,NM,NW,ND,NP,NQ,NO,NL,NU2,NK,NB,NJ,NX],permN [NS2,NU2,NX,NF,NT,NM,NW,ND,NP,NQ,NO,NL,NK,NB,NJ] nilH (by decide:([0,1,2,3,4,5,6,7,8,9,10,11,12,13,14]:List Nat).Perm [0,3,4,5,6,7,8,9,10,11,1,12,13,14,2]),fun hs=>?_⟩
 have hjx:Apart NJ NX:=(apart_fold (A:= [NS2,NF,NT,NM,NW,ND,NP,NQ,NO,NL,NU2,NK,NB]) (C:= []) hs).1
 have m:=q.O.mono (Nat.le_add_right c 4) (join2_left (A:=NJ) (B:=NX))
 exact⟨e1,_,rfl,StQ.step (J2:= { g.J with rf:=addR g.J.rf w }) q (Ext.one (e:=.rf g.J.rf) ⟨rfl,C2⟩ trivial rfl q.O.wf) (by decide:1≤4) hs ⟨S2,m.F,m.T,m.M,m.W,m.D,m.P,m.Q,m.aF,m.aT,m.aM,m.aW,m.aD,m.aP,m.aQ,m.L,m.lg,m.B,m.wf,m.bL⟩ r2 (q.G.mono (by omega)) q.aG⟩
theorem QSub (h:StQ sp n c oc V lo ms tl N) {w:UInt64} (hc:c+oc≤1000000000):Fn Tryz.prog 41 #[.pointer (some ⟨sp,0,none⟩),.int .u64 (w.toNat:Int)] [N] [] (fun v L=>v=.tuple #[]∧StQP sp (n+4) (c+4) (oc+c+4) ({ V with rf:=V.rf- minV w V.rf }) (lo) ms tl L):=by
 obtain⟨z,g,NS,NF,NT,NM,NW,ND,NP,NQ,NO,NL,NU,NK,NB,NJ,rfl,hap,q,rfl,rfl,rfl⟩:=h
 have bU:=q.bU
 have bN:=q.bN
 refine Fn.onN hap (JSub (y:=w) q.O.S q.Uq (by omega)) [NF,NT,NM,NW,ND,NP,NQ,NO,NL,NK,NB,NJ] (permN [NS,NF,NT,NM,NW,ND,NP,NQ,NO,NL,NU,NK,NB,NJ] nilH (by decide:([0,10,1,2,3,4,5,6,7,8,9,11,12,13]:List Nat).Perm [0,1,2,3,4,5,6,7,8,9,10,11,12,13])) fun v L hp=>?_
 obtain⟨NS2,NU2,NX,a,cu,bs,e1,rfl,S2,r2,C2⟩:=hp
 refine⟨[NS2,NF,NT,NM,NW,ND,NP,NQ,NO,NL,NU2,NK,NB,NJ,NX],permN [NS2,NU2,NX,NF,NT,NM,NW,ND,NP,NQ,NO,NL,NK,NB,NJ] nilH (by decide:([0,1,2,3,4,5,6,7,8,9,10,11,12,13,14]:List Nat).Perm [0,3,4,5,6,7,8,9,10,11,1,12,13,14,2]),fun hs=>?_⟩
 have hjx:Apart NJ NX:=(apart_fold (A:= [NS2,NF,NT,NM,NW,ND,NP,NQ,NO,NL,NU2,NK,NB]) (C:= []) hs).1
 have m:=q.O.mono (Nat.le_add_right c 4) (join2_left (A:=NJ) (B:=NX))
 exact⟨e1,_,rfl,StQ.step (J2:= { g.J with rf:=g.J.rf- minV w g.J.rf }) q (Ext.one (e:=.rf g.J.rf) ⟨rfl,C2⟩ trivial rfl q.O.wf) (by decide:1≤4) hs ⟨S2,m.F,m.T,m.M,m.W,m.D,m.P,m.Q,m.aF,m.aT,m.aM,m.aW,m.aD,m.aP,m.aQ,m.L,m.lg,m.B,m.wf,m.bL⟩ r2 (q.G.mono (by omega)) q.aG⟩
theorem QLog (h:StQ sp n c oc V lo ms tl N) {w:LgM} {i:LgI} (hg:LogR K (w,i)) (hc:c+oc≤1000000000):Fn Tryz.prog 42 #[.pointer (some ⟨sp,0,none⟩),.agg (logF (w,i)).toArray] [N] [K] (fun v L=>v=.tuple #[]∧StQP sp (n+4) (c+4) (oc+c+4) { V with lg:=V.lg++ [w] } lo ms tl L):=by
 obtain⟨z,g,NS,NF,NT,NM,NW,ND,NP,NQ,NO,NL,NU,NK,NB,NJ,rfl,hap,q,rfl,rfl,rfl⟩:=h
 have bU:=q.bU
 have bN:=q.bN
 have bL:=q.O.bL
 refine Fn.onN hap (JLog q.O.S q.Uq (by omega) q.O.L q.O.lg.one (by omega) hg) [NF,NT,NM,NW,ND,NP,NQ,NO,NK,NB,NJ] (permN [NS,NF,NT,NM,NW,ND,NP,NQ,NO,NL,NU,NK,NB,NJ] nilH (by decide:([0,9,10,1,2,3,4,5,6,7,8,11,12,13]:List Nat).Perm [0,1,2,3,4,5,6,7,8,9,10,11,12,13])) fun v L hp=>?_
 obtain⟨NS2,NL2,NU2,NY,NG,a,la,cu,lc,bs,i2,e1,rfl,S2,r2,l2,C2,g2⟩:=hp
 refine⟨[NS2,NF,NT,NM,NW,ND,NP,NQ,NO,NL2,NU2,NK,NB,NJ,NY,NG],permN [NS2,NL2,NU2,NY,NG,NF,NT,NM,NW,ND,NP,NQ,NO,NK,NB,NJ] nilH (by decide:([0,1,2,3,4,5,6,7,8,9,10,11,12,13,14,15]:List Nat).Perm [0,5,6,7,8,9,10,11,12,1,2,13,14,15,3,4]),fun hs=>?_⟩
 obtain⟨hyg,hs2⟩:=apart_fold (A:= [NS2,NF,NT,NM,NW,ND,NP,NQ,NO,NL2,NU2,NK,NB,NJ]) (X:=NY) (Y:=NG) (C:= []) hs
 have hjx:Apart NJ (join2 NY NG):=(apart_fold (A:= [NS2,NF,NT,NM,NW,ND,NP,NQ,NO,NL2,NU2,NK,NB]) (C:= []) hs2).1
 have eJ:joinL [NS2,NF,NT,NM,NW,ND,NP,NQ,NO,NL2,NU2,NK,NB,NJ,NY,NG]=joinL [NS2,NF,NT,NM,NW,ND,NP,NQ,NO,NL2,NU2,NK,NB,NJ,join2 NY NG]:=(joinL_flat (A:= [NS2,NF,NT,NM,NW,ND,NP,NQ,NO,NL2,NU2,NK,NB,NJ]) (X:=NY) (Y:=NG) (C:= [])).symm
 rw [eJ]
 have m:=q.O.mono (Nat.le_add_right c 4) (join2_left (A:=NJ) (B:=join2 NY NG))
 exact⟨e1,_,rfl,StQ.step (J2:= { g.J with lg:=g.J.lg++ [w] }) q (Ext.one (e:=.lg g.J.lg.length) ⟨rfl,C2.le join2_left⟩ (by show g.J.lg.length≤(g.J.lg++ [w]).length;rw [List.length_append];exact Nat.le_add_right _ _) (by show({ g.J with lg:=(g.J.lg++ [w]).take g.J.lg.length } :JS)=g.J;rw [List.take_left' rfl]) q.O.wf) (by decide:1≤4) hs2 ⟨(by rw [List.length_append];exact S2),m.F,m.T,m.M,m.W,m.D,m.P,m.Q,m.aF,m.aT,m.aM,m.aW,m.aD,m.aP,m.aQ,(by rw [List.length_append];exact l2),(m.lg.snoc (g2.le (Heaplet.le_trans (join2_right hyg) (join2_right hjx)))),m.B,m.wf,(by rw [List.length_append];exact Nat.le_trans (Nat.add_le_add_right q.O.bL 1) (by show c+1≤c+4;omega))⟩ r2 (q.G.mono (by omega)) q.aG⟩
theorem QOpen (h:StQ sp n c oc V lo ms tl N) (hk:okAd k) (hc:c+oc≤1000000000):Fn Tryz.prog 35 #[.pointer (some ⟨sp,0,none⟩),.agg (u8s k).toArray] [N] [] (fun v L=>v=.tuple #[]∧StQP sp (n+4) (c+4) (oc+c+4) (setV k id V) (lo) ms tl L):=by
 obtain⟨z,g,NS,NF,NT,NM,NW,ND,NP,NQ,NO,NL,NU,NK,NB,NJ,rfl,hap,q,rfl,rfl,rfl⟩:=h
 have bU:=q.bU
 have bN:=q.bN
 refine Fn.onN hap (JOpen q.O.S q.Uq (by omega) q.O.F q.O.aF q.O.T q.O.aT q.O.B q.O.wf hk (by omega)) [NM,NW,ND,NP,NQ,NO,NL,NK,NJ] (permN [NS,NF,NT,NM,NW,ND,NP,NQ,NO,NL,NU,NK,NB,NJ] nilH (by decide:([0,1,2,10,12,3,4,5,6,7,8,9,11,13]:List Nat).Perm [0,1,2,3,4,5,6,7,8,9,10,11,12,13])) fun v L hp=>?_
 obtain⟨NS2,NF2,NT2,NU2,NB2,NX,a,cu,DF2,DT2,J2,us2,e1,e3,S2,r2,hF2,aF2,hT2,aT2,hB2,hl2,hw2,hE2,hv2⟩:=hp
 subst e3
 refine⟨[NS2,NF2,NT2,NM,NW,ND,NP,NQ,NO,NL,NU2,NK,NB2,NJ,NX],permN [NS2,NF2,NT2,NU2,NB2,NX,NM,NW,ND,NP,NQ,NO,NL,NK,NJ] nilH (by decide:([0,1,2,3,4,5,6,7,8,9,10,11,12,13,14]:List Nat).Perm [0,1,2,6,7,8,9,10,11,12,3,13,4,14,5]),fun hs=>?_⟩
 have hjx:Apart NJ NX:=(apart_fold (A:= [NS2,NF2,NT2,NM,NW,ND,NP,NQ,NO,NL,NU2,NK,NB2]) (C:= []) hs).1
 have m:=q.O.mono (Nat.le_add_right c 4) (join2_left (A:=NJ) (B:=NX))
 rw [←hv2]
 obtain⟨lt2,ac2,ob2,rfl⟩:=setV_split hv2
 exact⟨e1,_,rfl,StQ.step q hE2 hl2 hs ⟨S2,hF2,hT2,m.M,m.W,m.D,m.P,m.Q,aF2,aT2,m.aM,m.aW,m.aD,m.aP,m.aQ,m.L,m.lg,hB2 _ join2_left (join2_right hjx),hw2,m.bL⟩ r2 (q.G.mono (by omega)) q.aG⟩
theorem QNonce (h:StQ sp n c oc V lo ms tl N) (hk:okAd k) {w:UInt64} (hc:c+oc≤1000000000):Fn Tryz.prog 13 #[.pointer (some ⟨sp,0,none⟩),.agg (u8s k).toArray,.int .u64 (w.toNat:Int)] [N] [] (fun v L=>v=.tuple #[]∧StQP sp (n+4) (c+4) (oc+c+4) (setV k (fun a=> { a with no:=w }) V) (lo) ms tl L):=by
 obtain⟨z,g,NS,NF,NT,NM,NW,ND,NP,NQ,NO,NL,NU,NK,NB,NJ,rfl,hap,q,rfl,rfl,rfl⟩:=h
 have bU:=q.bU
 have bN:=q.bN
 refine Fn.onN hap (JNonce (y:=w) q.O.S q.Uq (by omega) q.O.F q.O.aF q.O.T q.O.aT q.O.B q.O.wf hk (by omega)) [NM,NW,ND,NP,NQ,NO,NL,NK,NJ] (permN [NS,NF,NT,NM,NW,ND,NP,NQ,NO,NL,NU,NK,NB,NJ] nilH (by decide:([0,1,2,10,12,3,4,5,6,7,8,9,11,13]:List Nat).Perm [0,1,2,3,4,5,6,7,8,9,10,11,12,13])) fun v L hp=>?_
 obtain⟨NS2,NF2,NT2,NU2,NB2,NX,a,cu,DF2,DT2,J2,us2,e1,e3,S2,r2,hF2,aF2,hT2,aT2,hB2,hl2,hw2,hE2,hv2⟩:=hp
 subst e3
 refine⟨[NS2,NF2,NT2,NM,NW,ND,NP,NQ,NO,NL,NU2,NK,NB2,NJ,NX],permN [NS2,NF2,NT2,NU2,NB2,NX,NM,NW,ND,NP,NQ,NO,NL,NK,NJ] nilH (by decide:([0,1,2,3,4,5,6,7,8,9,10,11,12,13,14]:List Nat).Perm [0,1,2,6,7,8,9,10,11,12,3,13,4,14,5]),fun hs=>?_⟩
 have hjx:Apart NJ NX:=(apart_fold (A:= [NS2,NF2,NT2,NM,NW,ND,NP,NQ,NO,NL,NU2,NK,NB2]) (C:= []) hs).1
 have m:=q.O.mono (Nat.le_add_right c 4) (join2_left (A:=NJ) (B:=NX))
 rw [←hv2]
 obtain⟨lt2,ac2,ob2,rfl⟩:=setV_split hv2
 exact⟨e1,_,rfl,StQ.step q hE2 hl2 hs ⟨S2,hF2,hT2,m.M,m.W,m.D,m.P,m.Q,aF2,aT2,m.aM,m.aW,m.aD,m.aP,m.aQ,m.L,m.lg,hB2 _ join2_left (join2_right hjx),hw2,m.bL⟩ r2 (q.G.mono (by omega)) q.aG⟩
theorem QBal (h:StQ sp n c oc V lo ms tl N) (hk:okAd k) (hy:y<WW) (hc:c+oc≤1000000000):Fn Tryz.prog 16 #[.pointer (some ⟨sp,0,none⟩),.agg (u8s k).toArray,.agg (u64s (wl y)).toArray] [N] [] (fun v L=>v=.tuple #[]∧StQP sp (n+4) (c+4) (oc+c+4) (setV k (fun a=> { a with ba:=y }) V) (lo) ms tl L):=by
 obtain⟨z,g,NS,NF,NT,NM,NW,ND,NP,NQ,NO,NL,NU,NK,NB,NJ,rfl,hap,q,rfl,rfl,rfl⟩:=h
 have bU:=q.bU
 have bN:=q.bN
 refine Fn.onN hap (JBalance q.O.S q.Uq (by omega) q.O.F q.O.aF q.O.T q.O.aT q.O.B q.O.wf hk (by omega) hy) [NM,NW,ND,NP,NQ,NO,NL,NK,NJ] (permN [NS,NF,NT,NM,NW,ND,NP,NQ,NO,NL,NU,NK,NB,NJ] nilH (by decide:([0,1,2,10,12,3,4,5,6,7,8,9,11,13]:List Nat).Perm [0,1,2,3,4,5,6,7,8,9,10,11,12,13])) fun v L hp=>?_
 obtain⟨NS2,NF2,NT2,NU2,NB2,NX,a,cu,DF2,DT2,J2,us2,e1,e3,S2,r2,hF2,aF2,hT2,aT2,hB2,hl2,hw2,hE2,hv2⟩:=hp
 subst e3
 refine⟨[NS2,NF2,NT2,NM,NW,ND,NP,NQ,NO,NL,NU2,NK,NB2,NJ,NX],permN [NS2,NF2,NT2,NU2,NB2,NX,NM,NW,ND,NP,NQ,NO,NL,NK,NJ] nilH (by decide:([0,1,2,3,4,5,6,7,8,9,10,11,12,13,14]:List Nat).Perm [0,1,2,6,7,8,9,10,11,12,3,13,4,14,5]),fun hs=>?_⟩
 have hjx:Apart NJ NX:=(apart_fold (A:= [NS2,NF2,NT2,NM,NW,ND,NP,NQ,NO,NL,NU2,NK,NB2]) (C:= []) hs).1
 have m:=q.O.mono (Nat.le_add_right c 4) (join2_left (A:=NJ) (B:=NX))
 rw [←hv2]
 obtain⟨lt2,ac2,ob2,rfl⟩:=setV_split hv2
 exact⟨e1,_,rfl,StQ.step q hE2 hl2 hs ⟨S2,hF2,hT2,m.M,m.W,m.D,m.P,m.Q,aF2,aT2,m.aM,m.aW,m.aD,m.aP,m.aQ,m.L,m.lg,hB2 _ join2_left (join2_right hjx),hw2,m.bL⟩ r2 (q.G.mono (by omega)) q.aG⟩
theorem QCode (h:StQ sp n c oc V lo ms tl N) {ao:Option Addr} {cap:Nat} {w:List UInt8} (hk:okAd k) (hz:RSl K 1 ao w.length cap (u8s w)) (hzl:w.length≤1099511627776) (hc:c+oc≤1000000000):Fn Tryz.prog 15 #[.pointer (some ⟨sp,0,none⟩),.agg (u8s k).toArray,.slice ao w.length cap] [N] [K] (fun v L=>v=.tuple #[]∧StQP sp (n+4) (c+4) (oc+c+4) (setV k (fun a=> { a with co:=w }) V) (lo) ms tl L):=by
 obtain⟨z,g,NS,NF,NT,NM,NW,ND,NP,NQ,NO,NL,NU,NK,NB,NJ,rfl,hap,q,rfl,rfl,rfl⟩:=h
 have bU:=q.bU
 have bN:=q.bN
 refine Fn.onN hap (JCode q.O.S q.Uq (by omega) q.O.F q.O.aF q.O.T q.O.aT q.O.B q.O.wf hk (by omega) hz U hzl) [NM,NW,ND,NP,NQ,NO,NL,NK,NJ] (permN [NS,NF,NT,NM,NW,ND,NP,NQ,NO,NL,NU,NK,NB,NJ] nilH (by decide:([0,1,2,10,12,3,4,5,6,7,8,9,11,13]:List Nat).Perm [0,1,2,3,4,5,6,7,8,9,10,11,12,13])) fun v L hp=>?_
 obtain⟨NS2,NF2,NT2,NU2,NB2,NX,a,cu,DF2,DT2,J2,us2,e1,e3,S2,r2,hF2,aF2,hT2,aT2,hB2,hl2,hw2,hE2,hv2⟩:=hp
 subst e3
 refine⟨[NS2,NF2,NT2,NM,NW,ND,NP,NQ,NO,NL,NU2,NK,NB2,NJ,NX],permN [NS2,NF2,NT2,NU2,NB2,NX,NM,NW,ND,NP,NQ,NO,NL,NK,NJ] nilH (by decide:([0,1,2,3,4,5,6,7,8,9,10,11,12,13,14]:List Nat).Perm [0,1,2,6,7,8,9,10,11,12,3,13,4,14,5]),fun hs=>?_⟩
 have hjx:Apart NJ NX:=(apart_fold (A:= [NS2,NF2,NT2,NM,NW,ND,NP,NQ,NO,NL,NU2,NK,NB2]) (C:= []) hs).1
 have m:=q.O.mono (Nat.le_add_right c 4) (join2_left (A:=NJ) (B:=NX))
 rw [←hv2]
 obtain⟨lt2,ac2,ob2,rfl⟩:=setV_split hv2
 exact⟨e1,_,rfl,StQ.step q hE2 hl2 hs ⟨S2,hF2,hT2,m.M,m.W,m.D,m.P,m.Q,aF2,aT2,m.aM,m.aW,m.aD,m.aP,m.aQ,m.L,m.lg,hB2 _ join2_left (join2_right hjx),hw2,m.bL⟩ r2 (q.G.mono (by omega)) q.aG⟩
theorem QSlot (h:StQ sp n c oc V lo ms tl N) (hk:okPl (k,x)) (hy:y<WW) (hc:c+oc≤1000000000):Fn Tryz.prog 14 #[.pointer (some ⟨sp,0,none⟩),.agg (u8s k).toArray,.agg (u64s (wl x)).toArray,.agg (u64s (wl y)).toArray] [N] [] (fun v L=>v=.tuple #[]∧StQP sp (n+4) (c+4) (oc+c+4) (setV k (setSlA x y) V) (fstF (k,x) ((slotV V (k,x)).getD 0) lo) ms tl L):=by
 obtain⟨z,g,NS,NF,NT,NM,NW,ND,NP,NQ,NO,NL,NU,NK,NB,NJ,rfl,hap,q,rfl,rfl,rfl⟩:=h
 have bU:=q.bU
 have bN:=q.bN
 refine Fn.onN hap (JSlot q.O.S q.Uq (by omega) q.O.F q.O.aF q.O.T q.O.aT q.O.B q.O.wf q.G q.aG (by omega) hk hy (by omega)) [NM,NW,ND,NP,NQ,NL,NK,NJ] (permN [NS,NF,NT,NM,NW,ND,NP,NQ,NO,NL,NU,NK,NB,NJ] nilH (by decide:([0,1,2,10,12,8,3,4,5,6,7,9,11,13]:List Nat).Perm [0,1,2,3,4,5,6,7,8,9,10,11,12,13])) fun v L hp=>?_
 obtain⟨L0,NO2,DO2,e2,hp,hO2,aO2⟩:=hp
 obtain⟨NS2,NF2,NT2,NU2,NB2,NX,a,cu,DF2,DT2,J2,us2,e1,e3,S2,r2,hF2,aF2,hT2,aT2,hB2,hl2,hw2,hE2,hv2⟩:=hp
 subst e3
 subst e2
 refine⟨[NS2,NF2,NT2,NM,NW,ND,NP,NQ,NO2,NL,NU2,NK,NB2,NJ,NX],permN [NS2,NF2,NT2,NU2,NB2,NX,NO2,NM,NW,ND,NP,NQ,NL,NK,NJ] nilH (by decide:([0,1,2,3,4,5,6,7,8,9,10,11,12,13,14]:List Nat).Perm [0,1,2,7,8,9,10,11,6,12,3,13,4,14,5]),fun hs=>?_⟩
 have hjx:Apart NJ NX:=(apart_fold (A:= [NS2,NF2,NT2,NM,NW,ND,NP,NQ,NO2,NL,NU2,NK,NB2]) (C:= []) hs).1
 have m:=q.O.mono (Nat.le_add_right c 4) (join2_left (A:=NJ) (B:=NX))
 rw [←hv2]
 obtain⟨lt2,ac2,ob2,rfl⟩:=setV_split hv2
 exact⟨e1,_,rfl,StQ.step q hE2 hl2 hs ⟨S2,hF2,hT2,m.M,m.W,m.D,m.P,m.Q,aF2,aT2,m.aM,m.aW,m.aD,m.aP,m.aQ,m.L,m.lg,hB2 _ join2_left (join2_right hjx),hw2,m.bL⟩ r2 (hO2.mono (by omega)) aO2⟩
theorem QMake (h:StQ sp n c oc V lo ms tl N) (hk:okAd k) (hc:c+oc≤1000000000):Fn Tryz.prog 36 #[.pointer (some ⟨sp,0,none⟩),.agg (u8s k).toArray] [N] [] (fun v L=>v=.tuple #[]∧StQP sp (n+4) (c+4) (oc+c+4) (madV k V) (mkO V k lo) ms tl L):=by
 obtain⟨z,g,NS,NF,NT,NM,NW,ND,NP,NQ,NO,NL,NU,NK,NB,NJ,rfl,hap,q,rfl,rfl,rfl⟩:=h
 have bU:=q.bU
 have bN:=q.bN
 refine Fn.onN hap (JMake q.O.S q.Uq (by omega) q.O.F q.O.aF q.O.T q.O.aT q.O.B q.O.wf q.G q.aG (by omega) q.O.M q.O.aM hk (by omega)) [NW,ND,NP,NQ,NL,NK,NJ] (permN [NS,NF,NT,NM,NW,ND,NP,NQ,NO,NL,NU,NK,NB,NJ] nilH (by decide:([0,1,2,10,12,8,3,4,5,6,7,9,11,13]:List Nat).Perm [0,1,2,3,4,5,6,7,8,9,10,11,12,13])) fun v L hp=>?_
 obtain⟨L0,NO2,NM2,DO2,DM2,e2,hp,hO2,aO2,hM2,aM2⟩:=hp
 obtain⟨NS2,NF2,NT2,NU2,NB2,NX,a,cu,DF2,DT2,J2,us2,e1,e3,S2,r2,hF2,aF2,hT2,aT2,hB2,hl2,hw2,hE2,hv2⟩:=hp
 subst e3
 subst e2
 refine⟨[NS2,NF2,NT2,NM2,NW,ND,NP,NQ,NO2,NL,NU2,NK,NB2,NJ,NX],permN [NS2,NF2,NT2,NU2,NB2,NX,NO2,NM2,NW,ND,NP,NQ,NL,NK,NJ] nilH (by decide:([0,1,2,3,4,5,6,7,8,9,10,11,12,13,14]:List Nat).Perm [0,1,2,7,8,9,10,11,6,12,3,13,4,14,5]),fun hs=>?_⟩
 have hjx:Apart NJ NX:=(apart_fold (A:= [NS2,NF2,NT2,NM2,NW,ND,NP,NQ,NO2,NL,NU2,NK,NB2]) (C:= []) hs).1
 have m:=q.O.mono (Nat.le_add_right c 4) (join2_left (A:=NJ) (B:=NX))
 rw [←hv2]
 obtain⟨lt2,ac2,ob2,rfl⟩:=madV_split hv2
 exact⟨e1,_,rfl,StQ.step q hE2 hl2 hs ⟨S2,hF2,hT2,hM2,m.W,m.D,m.P,m.Q,aF2,aT2,aM2,m.aW,m.aD,m.aP,m.aQ,m.L,m.lg,hB2 _ join2_left (join2_right hjx),hw2,m.bL⟩ r2 (hO2.mono (by omega)) aO2⟩
end
section
variable {P : Program} {f : FuncId} {args : Array Value} {L0 Lr As : List Heaplet} {Post Post' : Value → List Heaplet → Prop}
theorem Fn.unp (h:Fn P f args (joinL As::L0) Lr Post):Fn P f args (As++L0) Lr Post:=fun E w R hw hr=>h E w R (Hp.packL (L:=L0++ [R]) (by rw [←List.append_assoc];exact hw)) hr
theorem Fn.outU (h:Fn P f args L0 Lr Post) (hp: ∀v L,Post v L→ ∃Bs L1,L.Perm (joinL Bs::L1)∧Bs.Pairwise Apart∧Post' v (Bs++L1)):Fn P f args L0 Lr Post':=fun E w R hw hr=>by
 refine(h E w R hw hr).mono ?_
 rintro e w' ⟨v,L1,rfl,hP,hh⟩
 obtain⟨Bs,L2,h1,h2,h3⟩:=hp v L1 hP
 refine⟨v,Bs++L2,rfl,h3,?_⟩
 rw [List.append_assoc]
 exact(hh.perm (h1.append_right _)).unpackL h2
end
section
variable {N K : Heaplet} {sp n c oc : Nat} {V : Vw} {lo : List UInt8 × Nat → Option Nat} {ms : List (Int × Vw)} {tl num : Int}
theorem first_at: ∀ {ms:List (Int×Vw)} {m:Int×Vw},m∈ms→m.1=num→ ∃(i:Nat) (W:Vw),ms[i]? =some (num,W)∧ ∀p∈ms.take i,p.1≠num
 | [],_,h,_=>absurd h List.not_mem_nil
 |q::r,m,h,e=>by
  by_cases hq:q.1=num
  ·exact⟨0,q.2,by rw [←hq];rfl,fun p hp=>absurd hp List.not_mem_nil⟩
  ·obtain⟨i,W,h1,h2⟩:=first_at ((List.mem_cons.1 h).resolve_left fun e2=>hq (by rw [←e2];exact e)) e
   refine⟨i+1,W,h1,fun p hp=>?_⟩
   rcases List.mem_cons.1 hp with hp|hp
   ·rw [hp];exact hq
   ·exact h2 p hp
theorem QMark (h:StQ sp n c oc V lo ms tl N) (hc:c+oc≤1000000000):Fn Tryz.prog 17 #[.pointer (some ⟨sp,0,none⟩)] [N] [] (fun v L=>v=.int .i64 tl∧StQP sp (n+4) (c+4) oc V lo (ms++ [(tl,V)]) (tl+1) L):=by
 obtain⟨z,g,NS,NF,NT,NM,NW,ND,NP,NQ,NO,NL,NU,NK,NB,NJ,rfl,hap,q,rfl,rfl,rfl⟩:=h
 have bU:=q.bU
 have bN:=q.bN
 have bK:=q.bK
 have bt:=q.bt
 refine Fn.onN hap (FMarkX q.O.S q.K (by omega) ⟨bt.1,by omega⟩) [NF,NT,NM,NW,ND,NP,NQ,NO,NL,NU,NB,NJ] (permN [NS,NF,NT,NM,NW,ND,NP,NQ,NO,NL,NU,NK,NB,NJ] nilH (by decide:([0,11,1,2,3,4,5,6,7,8,9,10,12,13]:List Nat).Perm [0,1,2,3,4,5,6,7,8,9,10,11,12,13])) fun v L hp=>?_
 obtain⟨NS2,NK2,a,cu,e1,rfl,S2,K2⟩:=hp
 refine⟨[NS2,NF,NT,NM,NW,ND,NP,NQ,NO,NL,NU,NK2,NB,NJ],permN [NS2,NK2,NF,NT,NM,NW,ND,NP,NQ,NO,NL,NU,NB,NJ] nilH (by decide:([0,1,2,3,4,5,6,7,8,9,10,11,12,13]:List Nat).Perm [0,2,3,4,5,6,7,8,9,10,11,1,12,13]),fun hs=>?_⟩
 have m:=q.O
 have q2:QO z { g with mu:=g.mu++ [(tl,g.H.length)],ka:=a,kc:=cu } (n+1) (c+4) oc lo (tl+1) NS2 NF NT NM NW ND NP NQ NO NL NU NK2 NB NJ:=by
  have m:=q.O.mono (Nat.le_add_right c 4) (Heaplet.le_refl _)
  refine⟨⟨by rw [QG.k,List.length_append];exact S2,m.F,m.T,m.M,m.W,m.D,m.P,m.Q,m.aF,m.aT,m.aM,m.aW,m.aD,m.aP,m.aQ,m.L,m.lg,m.B,m.wf,m.bL⟩,q.Uq,by rw [List.length_append];exact K2,q.G,q.aG,q.h,?_,fun p hp=>?_,Nat.le_trans bU (Nat.le_succ n),by omega,by rw [List.length_append];exact Nat.succ_le_succ bK,by omega,by omega⟩
  ·rw [List.map_append,List.pairwise_append]
   refine⟨q.mu,by simp,fun a ha b hb=>?_⟩
   obtain⟨p,hp,rfl⟩:=List.mem_map.1 ha
   rw [show b=g.H.length by simpa using hb]
   exact q.mb p hp
  ·rcases List.mem_append.1 hp with hp|hp
   ·exact q.mb p hp
   ·rw [List.mem_singleton.1 hp];exact Nat.le_refl _
 refine⟨e1,_,rfl,z,_,NS2,NF,NT,NM,NW,ND,NP,NQ,NO,NL,NU,NK2,NB,NJ,rfl,hs,q2.mono (show n+1≤n+4 by omega) (Nat.le_refl _) (Nat.le_refl _) (by omega),rfl,rfl,?_⟩
 show(g.mu++ [(tl,g.H.length)]).map _=_
 rw [List.map_append,List.map_cons,List.map_nil,lev_end (Nat.le_refl _)];rfl
theorem Blk.same {N:Heaplet} {b:Nat} {e:TypeId} {cs cs':List Value} (h:Blk N b e cs) (h':Blk N b e cs'):cs=cs':=by
 rw [Blk]at h h'
 rw [h]at h'
 have:=Option.some.inj h'
 injection this with h1
 exact Array.toList_inj.2 h1 |>fun e=>by simpa using e
theorem lev_take {H:List (Value×JS)} {J:JS} {u i:Nat} (hi:i≤u) (hu:u≤H.length):lev (H.take u) (lev H J u) i=lev H J i:=by
 rcases Nat.lt_or_ge i u with h|h
 ·unfold lev
  rw [List.getElem?_take,if_pos h,List.getElem?_eq_getElem (by omega)];rfl
 ·have e:i=u:=by omega
  subst e
  exact lev_end (by rw [List.length_take];exact Nat.min_le_left _ _)
theorem QBackT (h:StQ sp n c oc V lo ms tl N) {ia:Nat} {W:Vw} (hi:ms[ia]? =some (num,W)) (hno: ∀m∈ms.take ia,m.1≠num) (hc:c+oc≤1000000000):Fn Tryz.prog 18 #[.pointer (some ⟨sp,0,none⟩),.int .i64 num] [N] [] (fun v L=>v=.bool true∧StQP sp n (c+n) oc W lo (ms.take (ia+1)) tl L):=by
 obtain⟨z,g,NS,NF,NT,NM,NW,ND,NP,NQ,NO,NL,NU,NK,NB,NJ,rfl,hap,q,rfl,rfl,rfl⟩:=h
 have bU:=q.bU
 have bN:=q.bN
 have bt:=q.bt
 obtain⟨⟨m0,u0⟩,hm,hmu⟩: ∃m,g.mu[ia]? =some m∧(m.1,(lev g.H g.J m.2).v)=(num,W):=by
  rw [QG.ms,List.getElem?_map]at hi
  cases hg:g.mu[ia]? with
  |none=>rw [hg]at hi;cases hi
  |some m=>rw [hg]at hi;exact⟨m,rfl,Option.some.inj hi⟩
 obtain⟨rfl,rfl⟩:=Prod.mk.inj hmu
 have hno2: ∀m∈g.mu.take ia,m.1≠m0:=fun m hm2=>by
  refine hno (m.1,(lev g.H g.J m.2).v) ?_
  rw [QG.ms, ←List.map_take]
  exact List.mem_map.2 ⟨m,hm2,rfl⟩
 have hu0:u0≤g.H.length:=q.mb _ (List.mem_of_getElem? hm)
 have hRa: [NF,NT,NM,NW,ND,NP,NQ,NL,NB,NJ].Pairwise Apart:=(List.pairwise_append.1 (((permN [NS,NF,NT,NM,NW,ND,NP,NQ,NO,NL,NU,NK,NB,NJ] nilH (by decide:([0,1,2,3,4,5,6,7,8,9,10,11,12,13]:List Nat).Perm [1,2,3,4,5,6,7,9,12,13,0,10,11,8]): [NS,NF,NT,NM,NW,ND,NP,NQ,NO,NL,NU,NK,NB,NJ].Perm ([NF,NT,NM,NW,ND,NP,NQ,NL,NB,NJ]++ [NS,NU,NK,NO])).pairwise_iff fun h=>h.symm).1 hap)).1
 have hP:MemP z (c+(g.H.length- g.H.length)) (lev g.H g.J g.H.length) NJ g.u g.k tl NS (joinL [NF,NT,NM,NW,ND,NP,NQ,NL,NB,NJ]):=by
  rw [Nat.sub_self,lev_end (Nat.le_refl _)]
  exact⟨NF,NT,NM,NW,ND,NP,NQ,NL,NB,g.DF,g.DT,g.DM,g.DW,g.DD,g.DP,g.DQ,g.la,g.lc,g.ls,rfl,hRa,q.O⟩
 have h1:=FBackT (sp:=z.sp) (n:=g.H.length) (P:=fun i NS NR=>MemP z (c+(g.H.length- i)) (lev g.H g.J i) NJ g.u g.k tl NS NR) hP (fun i NS NR hp=>by
  obtain⟨NF,NT,NM,NW,ND,NP,NQ,NL,NB,DF,DT,DM,DW,DD,DP,DQ,la,lc,ls,_,_,o⟩:=hp
  exact⟨_,_,_,_,_,_,_,_,_,_,_,o.S⟩) q.Uq.rsl q.K.rsl rfl (by rw [List.length_map]) hm hno2 hu0 (by omega) fun i hi1 hi2=>by
  obtain⟨f,bs,e,k1,k2,k3,k4⟩:=q.h.step i hi2
  obtain⟨fn,k5,k6,k7⟩:=k2.fn
  refine⟨f,capV bs,fn,k1,k5,k6,k7,fun NS NR hp=>?_⟩
  have hr:=undo_run k2 k3 hp (by omega)
  rw [k4,show c+(g.H.length- (i+1))+1=c+(g.H.length- i) by omega]at hr
  exact hr
 have h2:=(h1.frameR [NU,NK,NO] (by simp)).permL (L0':= [joinL [NF,NT,NM,NW,ND,NP,NQ,NL,NB,NJ],NS,NU,NK,NO]) (.swap _ _ _)
 have h3:=(h2.unp (As:= [NF,NT,NM,NW,ND,NP,NQ,NL,NB,NJ]) (L0:= [NS,NU,NK,NO])).permL (permN [NS,NF,NT,NM,NW,ND,NP,NQ,NO,NL,NU,NK,NB,NJ] nilH (by decide:([1,2,3,4,5,6,7,9,12,13,0,10,11,8]:List Nat).Perm [0,1,2,3,4,5,6,7,8,9,10,11,12,13]):([NF,NT,NM,NW,ND,NP,NQ,NL,NB,NJ]++ [NS,NU,NK,NO]).Perm ([NS,NF,NT,NM,NW,ND,NP,NQ,NO,NL,NU,NK,NB,NJ]++ []))
 have h4:=h3.outU (Post':=fun v L=> ∃NS2 NF2 NT2 NM2 NW2 ND2 NP2 NQ2 NL2 NB2,L= [NF2,NT2,NM2,NW2,ND2,NP2,NQ2,NL2,NB2,NJ]++ [NS2,NU,NK,NO]∧v=.bool true∧([NS2,NF2,NT2,NM2,NW2,ND2,NP2,NQ2,NO,NL2,NU,NK,NB2,NJ].Pairwise Apart→StQ z.sp n (c+n) oc (lev g.H g.J u0).v lo (g.ms.take (ia+1)) tl (joinL [NS2,NF2,NT2,NM2,NW2,ND2,NP2,NQ2,NO,NL2,NU,NK,NB2,NJ]))) fun v L hp=>by
  obtain⟨L1,rfl,NS0,NS2,NR2,ma,mt,mm,mw,md,ws,tr,og,rf,lg,tl2,e1,rfl,hM,B0,B2⟩:=hp
  obtain⟨NF2,NT2,NM2,NW2,ND2,NP2,NQ2,NL2,NB2,DF,DT,DM,DW,DD,DP,DQ,la,lc,ls,rfl,hap2,o⟩:=hM
  refine⟨[NF2,NT2,NM2,NW2,ND2,NP2,NQ2,NL2,NB2,NJ],[NS2,NU,NK,NO],.swap _ _ _,hap2,NS2,NF2,NT2,NM2,NW2,ND2,NP2,NQ2,NL2,NB2,rfl,e1,fun hs=>?_⟩
  have es:=Blk.same B0 o.S
  have et:=congrArg (fun l=>(l.set 10 (Value.slice g.ua u0 g.uc)).set 11 (Value.slice g.ka (ia+1) g.kc)) es
  have B3:Blk NS2 z.sp 85 (stK z.ma z.mt z.mm z.mw z.md z.ws z.tr z.og (lev g.H g.J u0).rf (.slice la (lev g.H g.J u0).lg.length lc) (.slice g.ua u0 g.uc) (.slice g.ka (ia+1) g.kc) tl):=by
   have e2:stK ma mt mm mw md ws tr og rf lg (.slice g.ua u0 g.uc) (.slice g.ka (ia+1) g.kc) tl2=stK z.ma z.mt z.mm z.mw z.md z.ws z.tr z.og (lev g.H g.J u0).rf (.slice la (lev g.H g.J u0).lg.length lc) (.slice g.ua u0 g.uc) (.slice g.ka (ia+1) g.kc) tl:=et
   rw [←e2];exact B2
  have hlen:(g.H.take u0).length=u0:=by rw [List.length_take];exact Nat.min_eq_left hu0
  have hia:ia<g.mu.length:=(List.getElem?_eq_some_iff.1 hm).1
  have hkl:(g.mu.take (ia+1)).length=ia+1:=by rw [List.length_take];exact Nat.min_eq_left hia
  have hpw: ∀m∈g.mu.take (ia+1),m.2≤u0:=fun m hm2=>by
   rw [List.take_add_one,hm]at hm2
   rcases List.mem_append.1 hm2 with hm2|hm2
   ·obtain⟨j,hj,ej⟩:=List.getElem_of_mem hm2
    rw [List.length_take]at hj
    have hji:j<ia:=by omega
    have:=List.pairwise_iff_getElem.1 q.mu j ia (by rw [List.length_map];omega) (by rw [List.length_map];exact hia) hji
    rw [List.getElem_map,List.getElem_map]at this
    rw [List.getElem_take]at ej
    rw [←ej]
    rw [(List.getElem?_eq_some_iff.1 hm).2]at this
    exact this
   ·rw [show m=(m0,u0) by simpa using hm2];exact Nat.le_refl _
  have m:=o.mono (show c+(g.H.length- u0)≤c+n by omega) (Heaplet.le_refl NJ)
  refine⟨z,⟨lev g.H g.J u0,g.H.take u0,g.mu.take (ia+1),la,lc,ls,g.ua,g.uc,g.ka,g.kc,g.DO,DF,DT,DM,DW,DD,DP,DQ⟩,NS2,NF2,NT2,NM2,NW2,ND2,NP2,NQ2,NO,NL2,NU,NK,NB2,NJ,rfl,hs,⟨⟨by rw [QG.u,QG.k,hlen,hkl];exact B3,m.F,m.T,m.M,m.W,m.D,m.P,m.Q,m.aF,m.aT,m.aM,m.aW,m.aD,m.aP,m.aQ,m.L,m.lg,m.B,m.wf,m.bL⟩,?_,?_,q.G,q.aG,q.h.take u0 hu0,?_,fun p hp=>by rw [hlen];exact hpw p hp,by rw [hlen];omega,by omega,by rw [hkl];have:=q.bK;omega,bt⟩,rfl,rfl,?_⟩
  ·rw [hlen]
   have:=q.Uq.take hu0
   rwa [Nat.mul_one, ←List.map_take]at this
  ·rw [hkl]
   have:=q.K.take hia
   rwa [flat_takeG (ia+1) fun m _=>markC_len m]at this
  ·rw [List.map_take]
   exact q.mu.sublist (List.take_sublist _ _)
  ·show(g.mu.take (ia+1)).map _=(g.mu.map _).take (ia+1)
   rw [←List.map_take]
   exact List.map_congr_left fun p hp=>by rw [lev_take (hpw p hp) hu0]
 have h5:=h4.out (Post':=fun v L=>v=.bool true∧(L.Pairwise Apart→StQ z.sp n (c+n) oc (lev g.H g.J u0).v lo (g.ms.take (ia+1)) tl (joinL L))) fun v L ⟨NS2,NF2,NT2,NM2,NW2,ND2,NP2,NQ2,NL2,NB2,e,e1,hq⟩=>⟨[NS2,NF2,NT2,NM2,NW2,ND2,NP2,NQ2,NO,NL2,NU,NK,NB2,NJ],by rw [e];exact permN [NS2,NF2,NT2,NM2,NW2,ND2,NP2,NQ2,NO,NL2,NU,NK,NB2,NJ] nilH (by decide:([1,2,3,4,5,6,7,9,12,13,0,10,11,8]:List Nat).Perm [0,1,2,3,4,5,6,7,8,9,10,11,12,13]),e1,hq⟩
 exact Fn.pack (L0:= []) hap h5 fun v L ⟨e1,hq⟩=>⟨L,[],(List.append_nil L).symm,fun hs=>⟨e1,_,rfl,hq hs⟩⟩
theorem StQ.blk (h:StQ sp n c oc V lo ms tl N): ∃ma mt mm mw md ws tr og rf lg u ka kn kc mu,Blk N sp 85 (stK ma mt mm mw md ws tr og rf lg u (.slice ka kn kc) tl)∧RSl N 2 ka kn kc ((mu:List (Int×Nat)).flatMap markC)∧mu.length=kn∧mu.map Prod.fst=ms.map Prod.fst:=by
 obtain⟨z,g,NS,NF,NT,NM,NW,ND,NP,NQ,NO,NL,NU,NK,NB,NJ,rfl,hap,q,rfl,rfl,rfl⟩:=h
 exact⟨_,_,_,_,_,_,_,_,_,_,_,g.ka,g.mu.length,g.kc,g.mu,q.O.S.le (le_joinL hap (by simp)),q.K.rsl.le (le_joinL hap (by simp)),rfl,by rw [QG.ms,List.map_map];rfl⟩
set_option maxHeartbeats 1000000 in
theorem QBackF (h:StQ sp n c oc V lo ms tl N) (hno: ∀m∈ms,m.1≠num):Fn Tryz.prog 18 #[.pointer (some ⟨sp,0,none⟩),.int .i64 num] [] [N] (fun v L=>v=.bool false∧L= []):=by
 obtain⟨ma,mt,mm,mw,md,ws,tr,og,rf,lg,u,ka,kn,kc,mu,BS,rK,hkn,hmu⟩:=h.blk
 have hno2: ∀m∈mu,m.1≠num:=fun m hm=>by
  obtain⟨p,hp,e⟩:=List.mem_map.1 (hmu▸List.mem_map.2 ⟨m,hm,rfl⟩:m.1∈ms.map Prod.fst)
  exact e▸hno p hp
 refine Fn.enter (vs:= [.pointer (some ⟨sp,0,none⟩),.int .i64 num]) Tryz.func18 U U U ?_
 intro E R hR
 have hle:=hR N (by simp)
 have BR:=BS.le hle
 have sK:=rK.le hle
 change At _ _ E [R] _
 refine aH fun _ s_1=>aB (cU bT U U U (fun N3 b3 B3=>bV U U (aI (s_1 (aH fun _ s_2=>aB (bC U U (bH aN U U (aJ aN fl85_1 U U (aJ aN fl83_10 U U (aU aN sc81 U BR U dG U ?_))))))))))
 refine op_mkF aN .nil (.cons U .nil) U (bG bT (.cons U (.cons U .nil)) (FIndexM sK hkn B3) Tryz.func57 U U (by simp) U ?_)
 rintro _ _ (⟨i13,u13,h13,hno13,rfl,rfl⟩|⟨hn13,rfl,rfl⟩)
 ·show At _ _ _ [N3,R] _
  refine bV U U (aI (s_2 (aH fun _ s_3=>aH fun _ s_4=>aB (bC U U (op_lss aN U U U (aI (s_4 (cD U (fun c15=>?_) (fun c15=>?_)))))))))
  ·omega
  ·exact absurd U (hno2 _ (List.mem_of_getElem? h13))
 show At _ _ _ [N3,R] _
 refine bV U U (aI (s_2 (aH fun _ s_5=>aH fun _ s_6=>aB (bC U U (op_lss aN U U U (aI (s_6 (cD U (fun c15=>?_) (fun c15=>?_)))))))))
 rotate_left
 ·omega
 refine aH fun _ s_7=>aB (bV U U (aI (s_7 (cK (dC ((dropAt0 (cF (L1:= []) U (.tmp U .nil) (.refl _) aZ ?_))))))))
 exact⟨rfl,rfl⟩
theorem QBack (h:StQ sp n c oc V lo ms tl N) (hc:c+oc≤1000000000) (num:Int):Fn Tryz.prog 18 #[.pointer (some ⟨sp,0,none⟩),.int .i64 num] [N] [] (fun v L=>(∃ia W,ms[ia]? =some (num,W)∧v=.bool true∧StQP sp n (c+n) oc W lo (ms.take (ia+1)) tl L)∨((∀m∈ms,m.1≠num)∧v=.bool false∧StQP sp n (c+n) oc V lo ms tl L)):=by
 have hn:n≤c:=by
  obtain⟨z,g,NS,NF,NT,NM,NW,ND,NP,NQ,NO,NL,NU,NK,NB,NJ,rfl,hap,q,rfl,rfl,rfl⟩:=h
  exact q.bN
 by_cases hx: ∃ia, ∃W,ms[ia]? =some (num,W)∧ ∀m∈ms.take ia,m.1≠num
 ·obtain⟨ia,W,h1,h2⟩:=hx
  exact(QBackT h h1 h2 hc).mono fun v L ⟨a,b⟩=>.inl ⟨ia,W,h1,a,b⟩
 ·have hno: ∀m∈ms,m.1≠num:=fun m hm e=>hx (by
   obtain⟨i,W,k1,k2⟩:=first_at hm e
   exact⟨i,W,k1,k2⟩)
  exact(((QBackF h hno).frameR [N] (by simp)).mono fun v L ⟨L1,e,e1,e2⟩=>.inr ⟨hno,e1,N,by rw [e,e2];rfl,h.mono (Nat.le_refl _) (by omega) (Nat.le_refl _) (by omega)⟩)
end
end Go.Proofs.YtalmjkcapecpiaaGreat
