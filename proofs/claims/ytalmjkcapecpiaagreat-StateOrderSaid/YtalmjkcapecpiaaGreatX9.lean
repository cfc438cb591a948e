/- Several texts in one: see the remarks ahead of each part. No condition but those told there. -/
import Derived.Test.YtalmjkcapecpiaaGreatX1
import Derived.Test.YtalmjkcapecpiaaGreatX8
import Derived.Test.YtalmjkcapecpiaaGreatX5
import Derived.Stop.BytesEq
import Derived.Test.YtalmjkcapecpiaaGreatX6
import Derived.Maps.Range
import Derived.RangeFuncLeaves
import Derived.RangeFuncSeq
import Derived.OwnWalkIn
import Derived.TacticsIn
set_option linter.unusedSimpArgs false
set_option linter.unusedVariables false
namespace Go.Proofs.YtalmjkcapecpiaaGreat
open Go Go.RowKit
set_option maxRecDepth 100000
theorem At.unjoin {n:Nat} {l:List (Nat×Value)} {E:World} {L:List Heaplet} {K:Act→World→Prop} {A B:Heaplet} (hA:Apart A B) (h:At n l E (A::B::L) K):At n l E (join2 A B::L) K:=fun a w hf hw=>h a w hf (by
 have hs:=List.pairwise_cons.1 hw.sep
 refine⟨hw.os,hw.tape,hw.output,fun N hN=>?_,?_⟩
 ·rcases List.mem_cons.1 hN with rfl|hN
  ·exact Heaplet.le_trans join2_left (hw.sub _ (List.mem_cons_self ..))
  ·rcases List.mem_cons.1 hN with rfl|hN
   ·exact Heaplet.le_trans (join2_right hA) (hw.sub _ (List.mem_cons_self ..))
   ·exact hw.sub N (List.mem_cons_of_mem _ hN)
 ·refine List.pairwise_cons.2 ⟨fun C hC=>?_,List.pairwise_cons.2 ⟨fun C hC=>?_,hs.2⟩⟩
  ·rcases List.mem_cons.1 hC with rfl|hC
   ·exact hA
   ·exact(hs.1 C hC).le join2_left (fun _ _ h=>h)
  ·exact(hs.1 C hC).le (join2_right hA) (fun _ _ h=>h))
theorem delA_rep {α β:Type} [DecidableEq α] {k:α} {v:β} {l:List (α×β)} :delA k ((k,v)::delA k l)=delA k l:=by
 simp [delA,List.filter_filter]
section
variable {NS NF NA NT NM NW ND NP NQ NO NL NU NK : Heaplet} {t : SJ} {sp ma c : Nat} {DF : DataW Value} {l : AcR} {k : List UInt8}
theorem StO.S' (h:StO t NS NF NA NT NM NW ND NP NQ NO NL NU NK sp ma c DF l):Blk NS sp 85 (stK ma t.mt t.mm t.mw t.md t.ws t.tr t.og t.ab.rf (.slice t.la t.ln t.lc) (.slice t.ua t.un t.uc) (.slice t.ka t.kn t.kc) t.ab.tl):=h.J.S
theorem FExistsB (h:StO t NS NF NA NT NM NW ND NP NQ NO NL NU NK sp ma c DF l) (hk:okAd k) {b:Bool} (hb:(getA k l).isSome=b):Fn Tryz.prog 29 #[.pointer (some ⟨sp,0,none⟩),.agg (u8s k).toArray] [] [NS,NF] (fun v L=>v=.bool b∧L= []):=by
 have:=FExists h.S' h.F h.A hk
 rw [hb]at this;exact this
def OpnP (ab:SAb) (l:AcR) (k:List UInt8) (sp c:Nat) (v:Value) (L:List Heaplet):Prop:= ∃(t:SJ) (ma:Nat) (DF:DataW Value) (l':AcR) (xp:Nat) (x:AcS) (NS NF NA NT NM NW ND NP NQ NO NL NU NK:Heaplet),v=.pointer (some ⟨xp,0,none⟩)∧L= [NS,NF,NA,NT,NM,NW,ND,NP,NQ,NO,NL,NU,NK]∧StO t NS NF NA NT NM NW ND NP NQ NO NL NU NK sp ma (c+2) DF l'∧t.ab= { ab with lt:=putA k () ab.lt } ∧getA k l'=some (xp,x)∧delA k l'=delA k l∧x=((getA k l).map Prod.snd).getD AcS.z
set_option maxHeartbeats 8000000 in
theorem FOpenedT (h:StO t NS NF NA NT NM NW ND NP NQ NO NL NU NK sp ma c DF l) (hk:okAd k) (hc:c+4≤1099511627776) {xp:Nat} {x:AcS} (hg:getA k l=some (xp,x)):Fn Tryz.prog 50 #[.pointer (some ⟨sp,0,none⟩),.agg (u8s k).toArray] [NS,NF,NA,NT,NM,NW,ND,NP,NQ,NO,NL,NU,NK] [] (OpnP t.ab l k sp c):=by
 have hul:(u8s k).length=20:=by rw [cF,hk]
 have hlk:=ptr_look h.A hk
 rw [hg]at hlk
 refine Fn.enter (vs:= [.pointer (some ⟨sp,0,none⟩),.agg (u8s k).toArray]) Tryz.func50 U U U ?_
 intro E R hR
 change At _ _ E [NS,NF,NA,NT,NM,NW,ND,NP,NQ,NO,NL,NU,NK,R] _
 refine aB fun _ s_1=>aA (cU bQ U U U (fun N3 b3 B3=>bP U U (aC (s_1 (aB fun _ s_2=>aA (bA U U (aJ (ds:=u8s k) aI ag33 U B3 (by exact bV hul) (by exact hul) cT U ?_)))))))
 refine aK (bD (bD (bE (aK (aK (aK (aK (aK (aK (aK (aK (aK (aK (aK (cL nxQ (.cons U (.cons U .nil)) (FTouch h.J hk (by omega)) (F:= [N3,NF,NA,R]) Tryz.func38 U U aV (by simp) U ?_)))))))))))))))
 rintro _ _ ⟨t2,NS2,NT2,NM2,NW2,ND2,NP2,NQ2,NO2,NL2,NU2,NK2,rfl,rfl,h2,e2⟩
 show At _ _ _ [NS2,NT2,NM2,NW2,ND2,NP2,NQ2,NO2,NL2,NU2,NK2,N3,NF,NA,R] _
 skip
 have BS2:=h2.S'
 have hO:StO t2 NS2 NF NA NT2 NM2 NW2 ND2 NP2 NQ2 NO2 NL2 NU2 NK2 sp ma (c+1) DF l:=⟨h2,h.F.mono (Nat.le_succ _),h.A,h.N.mono (Nat.le_succ _)⟩
 refine aC (s_2 (aB fun _ s_3=>aB fun _ s_4=>aA (bA U U (aJ (ds:=u8s k) aI ag33 U B3 (by exact bV hul) (by exact hul) mem11 U ?_))))
 refine bM bQ (.cons U (.cons U .nil)) (FExistsB hO hk (b:=true) (by rw [hg];rfl)) Tryz.func29 U U (by simp) U ?_
 rintro _ _ ⟨rfl,rfl⟩
 show At _ _ _ [NS2,NT2,NM2,NW2,ND2,NP2,NQ2,NO2,NL2,NU2,NK2,N3,NF,NA,R] _
 refine op_not aI U U (aC (s_4 (At.condF U (bY (aS (s_3 (aB fun _ s_5=>aZ (bN (bF (aK (aK (aK (aK (aK (aK (aK (aK (aK (aK (aK (aK (cO [NS2,NF,N3] [5] [] [0,1,2,3,4,5,6] (by kernel_rfl) (by kernel_rfl) (.cons _ (.cons _ (.cons _ (.cons _ (.cons _ (.cons _ (.cons _ (.cons _ (.cons _ (.cons _ (.cons _ (.cons _ (.refl _))))))))))))) (aN (aY U U U) U U (bI (aY U U U) U U (aG (aY U U U) fl85_0 U U (a6 (aY U U U) sc74 U BS2 U cT U ?_))))))))))))))))))))))))))
 refine aJ (ds:=u8s k) (aY U U U) ag33 U B3 (by exact bV hul) (by exact hul) mem2 U ?_
 refine op_lookupV1 (Nx.agree (nxss U U U U)) kd33 Tryz.underlying74 (fun _=>by first|rfl|kernel_rfl) U U h.F (keyA_spec hk) (hlk) (by simp) U ?_
 refine At.anyS (.refl _) (cW (aY U U U) U U (At.sNil (aS (s_5 (cI ((dropAt14 (aZ (cJ (cJ (cJ (cJ (cJ (cJ (cJ (cJ (cJ (cJ (aZ (bG (bG (cC (L1:= [NS2,NF,NA,NT2,NM2,NW2,ND2,NP2,NQ2,NO2,NL2,NU2,NK2]) U (.tmp U .nil) (.refl _) aV ?_))))))))))))))))))))))
 exact⟨t2,ma,DF,l,xp,x,NS2,NF,NA,NT2,NM2,NW2,ND2,NP2,NQ2,NO2,NL2,NU2,NK2,rfl,rfl,hO.mono (by omega),e2,hg,rfl,by rw [hg];rfl⟩
set_option maxHeartbeats 8000000 in
theorem FOpenedF (h:StO t NS NF NA NT NM NW ND NP NQ NO NL NU NK sp ma c DF l) (hk:okAd k) (hc:c+4≤1099511627776) (hg:getA k l=none):Fn Tryz.prog 50 #[.pointer (some ⟨sp,0,none⟩),.agg (u8s k).toArray] [NS,NF,NA,NT,NM,NW,ND,NP,NQ,NO,NL,NU,NK] [] (OpnP t.ab l k sp c):=by
 have hul:(u8s k).length=20:=by rw [cF,hk]
 refine Fn.enter (vs:= [.pointer (some ⟨sp,0,none⟩),.agg (u8s k).toArray]) Tryz.func50 U U U ?_
 intro E R hR
 change At _ _ E [NS,NF,NA,NT,NM,NW,ND,NP,NQ,NO,NL,NU,NK,R] _
 refine aB fun _ s_1=>aA (cU bQ U U U (fun N3 b3 B3=>bP U U (aC (s_1 (aB fun _ s_2=>aA (bA U U (aJ (ds:=u8s k) aI ag33 U B3 (by exact bV hul) (by exact hul) cT U ?_)))))))
 refine aK (bD (bD (bE (aK (aK (aK (aK (aK (aK (aK (aK (aK (aK (aK (cL nxQ (.cons U (.cons U .nil)) (FTouch h.J hk (by omega)) (F:= [N3,NF,NA,R]) Tryz.func38 U U aV (by simp) U ?_)))))))))))))))
 rintro _ _ ⟨t2,NS2,NT2,NM2,NW2,ND2,NP2,NQ2,NO2,NL2,NU2,NK2,rfl,rfl,h2,e2⟩
 show At _ _ _ [NS2,NT2,NM2,NW2,ND2,NP2,NQ2,NO2,NL2,NU2,NK2,N3,NF,NA,R] _
 skip
 have BS2:=h2.S'
 have bU2:=h2.bU
 have hO:StO t2 NS2 NF NA NT2 NM2 NW2 ND2 NP2 NQ2 NO2 NL2 NU2 NK2 sp ma (c+1) DF l:=⟨h2,h.F.mono (Nat.le_succ _),h.A,h.N.mono (Nat.le_succ _)⟩
 refine aC (s_2 (aB fun _ s_3=>aB fun _ s_4=>aA (bA U U (aJ (ds:=u8s k) aI ag33 U B3 (by exact bV hul) (by exact hul) mem11 U ?_))))
 refine bM bQ (.cons U (.cons U .nil)) (FExistsB hO hk (b:=false) (by rw [hg];rfl)) Tryz.func29 U U (by simp) U ?_
 rintro _ _ ⟨rfl,rfl⟩
 show At _ _ _ [NS2,NT2,NM2,NW2,ND2,NP2,NQ2,NO2,NL2,NU2,NK2,N3,NF,NA,R] _
 refine op_not aI U U (aC (s_4 (At.condT U (aZ (cK (aK (aK (aK (aK (aK (aK (aK (aK (aK (aK (aK (aK (aK (cO [NS2,N3] [9] [0,1] [0,1,2,3,4,5,6,7,8,9] (by kernel_rfl) (by kernel_rfl) (.cons _ (.cons _ (.cons _ (.cons _ (.cons _ (.cons _ (.cons _ (.cons _ (.cons _ (.cons _ (.cons _ (.cons _ (.cons _ (.refl _)))))))))))))) (aN (aY U U U) U U (aN (aY U U U) U U (bI (aY U U U) U U (aG (aY U U U) fl85_0 U U (a6 (aY U U U) sc74 U BS2 U cT U ?_))))))))))))))))))))))))
 refine aJ (ds:=u8s k) (aY U U U) ag33 U B3 (by exact bV hul) (by exact hul) mem1 U ?_
 refine op_makeMapV 36 (Nx.agree (nxsm U U U)) U (fun N18 b18 M18=>bC (bC (bF (bC (bC (bC (bC (bC (bC (bC (bC (bC (bC (bC (bC (bC (At.moreS (Lst:= [NS2,N3]) (Lst':= [N18,NS2,N3]) (.cons _ (.refl _)) (.cons _ (.cons _ (.cons _ (.cons _ (.cons _ (.cons _ (.cons _ (.cons _ (.cons _ (.cons _ (.cons _ (.cons _ (.cons _ (.refl _)))))))))))))) (op_build (out:= [.int .u64 0,.int .u64 0,.int .u64 0,.int .u64 0,.int .u64 0,.slice none 0 0,_]) (aY U U U) ze71 pl71 (.cons U .nil) U U (cU (Nx.agree (nxsm U U U)) U U U (fun N20 b20 B20=>aH (aH (aH (bE (aH (aH (aH (aH (aH (aH (aH (aH (aH (aH (aH (aH (aH (At.moreS (Lst:= [N18,NS2,N3]) (Lst':= [N20,N18,NS2,N3]) (.cons _ (.refl _)) (.cons _ (.cons _ (.cons _ (.cons _ (.cons _ (.cons _ (.cons _ (.cons _ (.cons _ (.cons _ (.cons _ (.cons _ (.cons _ (.refl _)))))))))))))) (aH (bC (bC ?_))))))))))))))))))))))))))))))))))))))))
 refine bC (bC (aK (bG (bG (bG (bG (bG (bG (bG (bG (aK (bC (aH (cL (nxsl U U U U) (.cons U (.cons U (.cons U (.cons U .nil)))) (FPutAP (b20,AcS.z) BS2 h2.Uq (by omega) h.F h.A hk (by omega)) (F:= [NT2,NM2,NW2,ND2,NP2,NQ2,NO2,NL2,NK2,NA,R,N20,N18,N3]) Tryz.func66 U U aV (by simp) U ?_))))))))))))))
 rintro _ _ ⟨NS3,NF3,NU3,a3,c3,us3,D3,rfl,rfl,BS3,r3,hM3,hA3⟩
 show At _ _ _ [NS3,NF3,NU3,NT2,NM2,NW2,ND2,NP2,NQ2,NO2,NL2,NK2,NA,R,N20,N18,N3] _
 skip
 have hlk:D3.atKey (keyA k) (.held (.pointer none))=.held (.pointer (some ⟨b20,0,none⟩)):=by
  rw [ptr_look hA3 hk,getA_putS];rfl
 have hO3:t2.On NS2 NT2 NM2 NW2 ND2 NP2 NQ2 NO2 NL2 NU2 NK2 sp ma (c+2):=h2.mono (Nat.le_succ _)
 obtain⟨_,gT,gM,gW,gD,gP,gQ,gO,aT,aM,aW,aD,aP,aQ,aO,gL,_,gK,oL,bL,bU,bK⟩:=hO3
 refine At.sNil (aS (s_3 (aB fun _ s_5=>aH (bF (bF (aH (aH (aH (aH (aH (aH (aH (aH (aH (aH (aH (aH (aH (aH (cO [NS3,NF3,N3] [5] [] [0,1,2,3,4,5,6] (by kernel_rfl) (by kernel_rfl) (.cons _ (.cons _ (.cons _ (.cons _ (.cons _ (.cons _ (.cons _ (.cons _ (.cons _ (.cons _ (.cons _ (.cons _ (.cons _ (.cons _ (.refl _))))))))))))))) (aN (aY U U U) U U (bI (aY U U U) U U (aG (aY U U U) fl85_0 U U (a6 (aY U U U) sc74 U BS3 U cT U ?_))))))))))))))))))))))))
 refine aJ (ds:=u8s k) (aY U U U) ag33 U B3 (by exact bV hul) (by exact hul) mem2 U ?_
 refine At.empty (aU (aU (aU (bC (bC (bC (bC (bC (bC (bC (bC (bC (bC (bC (bC (bC (aU (aU (At.pack (As:= [N20,N18,nilH]) (fun hANX=>?_))))))))))))))))))))
 obtain⟨NX,eNX⟩: ∃N,N=joinL [N20,N18,nilH]:=⟨_,rfl⟩
 rw [←eNX]
 refine op_lookupV1 (Nx.agree (nxss U U U U)) kd33 Tryz.underlying74 (fun _=>by first|rfl|kernel_rfl) U U hM3 (keyA_spec hk) (hlk) (by simp) U ?_
 refine At.anyS (.refl _) (cW (aY U U U) U U (At.sNil (aS (s_5 (cI ((bC (bC (bC (bC (aK (aK (aK (aK (aK (aK (aK (aK (aK (aK (bC (bC (At.merge (fun hap=>dropAt14 (aZ (aZ (bE (aZ (aZ (aZ (aZ (aZ (aZ (aZ (aZ (aZ (bG (bG (cC (L1:= [NS3,NF3,(join2 NX NA),NT2,NM2,NW2,ND2,NP2,NQ2,NO2,NL2,NU3,NK2]) U (.tmp U .nil) (.refl _) aV ?_)))))))))))))))))))))))))))))))))))))))
 have hA4:=hA3.rep (v':=(b20,AcS.z)) getA_putS rfl
 rw [delA_put]at hA4
 have hX:AccO N20 N18 nilH (c+2) b20 b18 none 0 (.map []) AcS.z:=⟨B20,M18.mono (by omega),MapA.nil,(Row.nil nilH 0 1).rsl,by decide,by decide,fun p hp=>absurd hp List.not_mem_nil⟩
 subst eNX
 exact⟨{ t2 with ua:=a3,un:=t2.un+1,uc:=c3,us:=us3 },ma,D3,(k,(b20,AcS.z))::delA k l,b20,AcS.z,NS3,NF3,_,NT2,NM2,NW2,ND2,NP2,NQ2,NO2,NL2,NU3,NK2,rfl,rfl,⟨⟨BS3,gT,gM,gW,gD,gP,gQ,gO,aT,aM,aW,aD,aP,aQ,aO,gL,r3,gK,oL,bL,by show t2.un+1≤c+2;omega,bK⟩,hM3.mono (by omega),hA4,AccsN.put hANX hap hX (by rw [delA_none hg];exact h.N.mono (by omega))⟩,e2,by rw [getA,if_pos rfl],delA_rep,by rw [hg];rfl⟩
theorem FOpened (h:StO t NS NF NA NT NM NW ND NP NQ NO NL NU NK sp ma c DF l) (hk:okAd k) (hc:c+4≤1099511627776):Fn Tryz.prog 50 #[.pointer (some ⟨sp,0,none⟩),.agg (u8s k).toArray] [NS,NF,NA,NT,NM,NW,ND,NP,NQ,NO,NL,NU,NK] [] (OpnP t.ab l k sp c):=by
 cases hg:getA k l with
 |none=>exact FOpenedF h hk hc hg
 |some v=>exact FOpenedT h hk hc (xp:=v.1) (x:=v.2) hg
end
theorem FBClone {N:Heaplet} {ao:Option Addr} {n cap:Nat} {l:List UInt8} (h:RSl N 1 ao n cap (u8s l)) (hl:l.length=n) (hn:n≤1099511627776):Fn Tryz.prog 30 #[.slice ao n cap] [] [N] (fun v L=> ∃M a c,v=.slice a n c∧L= [M]∧RSl M 1 a n c (u8s l)):=by
 have hcp:=h.cap63
 refine Fn.enter (vs:= [.slice ao n cap]) Tryz.func30 U U U ?_
 intro E R hR
 have s0:=h.le (hR N (by simp))
 change At _ _ E [R] _
 refine aB fun _ s_1=>aA (bP U U (aC (s_1 (aB fun _ s_2=>aB fun _ s_3=>aA (bA U U (op_eqSl aI Tryz.underlying37 U U (aC (s_3 (At.condB U (fun c4=>?_) (fun c4=>?_))))))))))
 ·have hao:ao=none:=by simpa using c4
  have hn0:n=0:=by
   rcases Nat.eq_zero_or_pos n with h0|h0
   ·exact h0
   ·obtain⟨b,off,e,_⟩:=h.2.2.2 h0
    rw [hao]at e;cases e
  have hl0:l= []:=List.eq_nil_of_length_eq_zero (by omega)
  refine aB fun _ s_4=>aA (bP U U (aC (s_4 (cI (cX ((At.empty (cC (L1:= [nilH]) U (.tmp U .nil) (.refl _) aV ?_))))))))
  subst hn0
  subst hl0
  exact⟨nilH,none,0,rfl,rfl,(Row.nil nilH 0 1).rsl⟩
 refine bY (aS (s_2 (aB fun _ s_5=>aA (op_lit bQ Tryz.underlying37 ze5 sz5 .nil U U (by simp [Value.cells]) U U U (fun N5 a5 r5=>?_)))))
 simp only [flatV,List.flatMap_cons,List.flatMap_nil,Value.cells,List.append_nil,List.cons_append,List.nil_append]at r5
 have s5:=r5.rsl
 refine bA U U ?_
 refine op_append nxQ Tryz.underlying37 Tryz.underlying37 te5 rfl rfl r5 s0 (by simp) (by first|exact one_u8s _|exact one_u64s _|exact one_u32s _|(intro u hu;simp at hu;subst hu;rfl)) (by omega) (by omega) sel0 rfl (fun N7 a7 p7 r7=>?_)
 have s7:=r7.rsl
 refine bP U U (aC (s_5 (cI ((cC (L1:= [N7]) U (.tmp U .nil) (.refl _) aV ?_)))))
 exact⟨N7,a7,p7,by rw [Nat.zero_add],rfl,by
  have:=r7.rsl
  rw [Nat.zero_add]at this
  simpa using this⟩
section
variable {NS NF NA NT NM NW ND NP NQ NO NL NU NK : Heaplet} {t : SJ} {sp ma c : Nat} {DF : DataW Value} {l : AcR} {M : AcL} {k : List UInt8}
set_option maxHeartbeats 16000000 in
theorem FSetNonce (h:StO t NS NF NA NT NM NW ND NP NQ NO NL NU NK sp ma c DF l) (hM:MdEq l M) (hk:okAd k) (hc:c+4≤1099511627776) {y:UInt64} :Fn Tryz.prog 13 #[.pointer (some ⟨sp,0,none⟩),.agg (u8s k).toArray,.int .u64 (y.toNat:Int)] [NS,NF,NA,NT,NM,NW,ND,NP,NQ,NO,NL,NU,NK] [] (StP (.tuple #[]) { t.ab with lt:=putA k () t.ab.lt } (turnA k (AcS.setNo y) M) sp (c+4)):=by
 have hul:(u8s k).length=20:=by rw [cF,hk]
 refine Fn.enter (vs:= [.pointer (some ⟨sp,0,none⟩),.agg (u8s k).toArray,.int .u64 (y.toNat:Int)]) Tryz.func13 U U U ?_
 intro E R hR
 change At _ _ E [NS,NF,NA,NT,NM,NW,ND,NP,NQ,NO,NL,NU,NK,R] _
 refine aB fun _ s_1=>aA (cU bQ U U U (fun N4 b4 B4=>aC (s_1 (aB fun _ s_2=>aA (bA U U (aJ (ds:=u8s k) aI ag33 U B4 (by exact bV hul) (by exact hul) cT U ?_))))))
 refine aK (cK (aK (aK (aK (aK (aK (aK (aK (aK (aK (aK (aK (aK (aK (cL nxQ (.cons U (.cons U .nil)) (FOpened h hk hc) (F:= [N4,R]) Tryz.func50 U U aV (by simp) U ?_)))))))))))))))
 rintro _ _ ⟨t2,ma2,D2,l2,xp,x,NS2,NF2,NA2,NT2,NM2,NW2,ND2,NP2,NQ2,NO2,NL2,NU2,NK2,rfl,rfl,h2,e2,g2,dl2,hx2⟩
 show At _ _ _ [NS2,NF2,NA2,NT2,NM2,NW2,ND2,NP2,NQ2,NO2,NL2,NU2,NK2,N4,R] _
 skip
 obtain⟨NAX,NR,aXR,eNA,⟨NX,NB,NC,mb,ca,cc,DX,aX,eX,hX⟩,hRR⟩:=h2.N.take h2.A.dis g2
 have BX:=hX.B
 have BS2:=h2.S'
 have bU2:=h2.J.bU
 rw [dl2]at hRR
 refine bW bQ ze67 U (fun N6 b6 B6=>?_)
 change Blk N6 b6 _ [.pointer none]at B6
 refine bJ nxQ sz67 U U U U U B6 (by simp) sel0 (fun N6 B6=>?_)
 simp only [setL,List.set]at B6
 refine aC (s_2 (aB fun _ s_3=>bC (bC (bC (bC (bC (bC (bC (bC (bC (bC (bC (bC (aK (aK (aK (bC ?_)))))))))))))))))
 rw [eNA,eX];refine At.unjoin (by rw [←eX];exact aXR) ?_;refine At.unpack (As:= [NX,NB,NC]) aX ?_
 refine aA (a6 aI sc67 U B6 U mem4 U ?_)
 refine bI aI U U (aG aI fl71_0 U U (a6 aI sc34 U BX U cT U ?_))
 refine bW bQ ze34 U (fun N7 b7 B7=>?_)
 change Blk N7 b7 _ [.int .u64 0]at B7
 refine bJ nxQ sz34 U U U U U B7 (by simp) sel0 (fun N7 B7=>?_)
 simp only [setL,List.set]at B7
 refine aC (s_3 (aB fun _ s_4=>aA (a6 aI sc67 U B6 U mem5 U ?_)))
 refine bA U U (bI aI U U (aG aI fl71_0 U U (bJ nxQ sz34 U U U U U BX (by exact show 0+0+1≤7 by decide) sel1 (fun NX BX=>?_))))
 change Blk NX xp _ (acK y x.ba ca x.co.length cc mb)at BX
 refine aC (s_4 (aA (bA U U (op_mkF aI .nil (.cons U (.cons U .nil)) U (aL (aL (aL (aL (aL (aL (aL (aL (aL (aL (aL (aL (aL (aL (aL (aL (aU (aL (aL (aL (At.pack (As:= [NX,NB,NC]) (fun hANPA=>?_))))))))))))))))))))))))))
 obtain⟨NPA,eNPA⟩: ∃N,N=joinL [NX,NB,NC]:=⟨_,rfl⟩
 rw [←eNPA]
 refine aU (aU (aU (aH (aH (aH (aH (aH (aH (aH (aH (aH (bC (bC (bC (bC (aU (aU (cL nxQ (.cons U (.cons U .nil)) (FUndoable BS2 h2.J.Uq (by omega)) (F:= [NPA,N7,NR,N6,NF2,NT2,NM2,NW2,ND2,NP2,NQ2,NO2,NL2,NK2,N4,R]) Tryz.func51 U U aV (by simp) U ?_))))))))))))))))))
 rintro _ _ ⟨NS3,NU3,a3,c3,us3,rfl,rfl,BS3,r3⟩
 show At _ _ _ [NS3,NU3,NPA,N7,NR,N6,NF2,NT2,NM2,NW2,ND2,NP2,NQ2,NO2,NL2,NK2,N4,R] _
 skip
 refine bZ (aU (aU (aU (aU (aU (aU (aU (aU (aU (aU (aU (aU (aU (aH (bC (bC (aU (aU (At.merge (fun hap=>dropAt15 (dropAt4 (dropAt3 (bG (bG (bD (bG (bG (bG (bG (bG (bG (bG (bG (aZ (bG (bG (cR (L1:= [NS3,NF2,(join2 NPA NR),NT2,NM2,NW2,ND2,NP2,NQ2,NO2,NL2,NU3,NK2]) U .nil U (.refl _) aV ?_)))))))))))))))))))))))))))))))))))))
 have aXE:=hANPA
 subst eNPA
 obtain⟨gS,gT,gM,gW,gD,gP,gQ,gO,aT,aM,aW,aD,aP,aQ,aO,gL,gU,gK,oL,bL,bU,bK⟩:=h2.J.mono (show c+2≤c+4 by omega)
 exact⟨{ t2 with ua:=a3,un:=t2.un+1,uc:=c3,us:=us3 },ma2,D2,(k,(xp,x.setNo y))::delA k l2,NS3,NF2,_,NT2,NM2,NW2,ND2,NP2,NQ2,NO2,NL2,NU3,NK2,rfl,rfl,⟨⟨BS3,gT,gM,gW,gD,gP,gQ,gO,aT,aM,aW,aD,aP,aQ,aO,gL,r3,gK,oL,bL,by show t2.un+1≤c+4;omega,bK⟩,h2.F.mono (by omega),h2.A.rep g2 rfl,by
  rw [dl2]
  exact AccsN.put aXE hap ⟨BX,hX.M.mono (by omega),hX.A,hX.C,hX.ln,hX.ba,hX.st⟩ (hRR.mono (by omega))⟩,e2,by rw [dl2];exact hM.turn (f:=AcS.setNo y) hx2⟩
set_option maxHeartbeats 16000000 in
theorem FSetBalance (h:StO t NS NF NA NT NM NW ND NP NQ NO NL NU NK sp ma c DF l) (hM:MdEq l M) (hk:okAd k) (hc:c+4≤1099511627776) {y:Nat} (hy:y<WW):Fn Tryz.prog 16 #[.pointer (some ⟨sp,0,none⟩),.agg (u8s k).toArray,.agg (u64s (wl y)).toArray] [NS,NF,NA,NT,NM,NW,ND,NP,NQ,NO,NL,NU,NK] [] (StP (.tuple #[]) { t.ab with lt:=putA k () t.ab.lt } (turnA k (AcS.setBa y) M) sp (c+4)):=by
 have hul:(u8s k).length=20:=by rw [cF,hk]
 refine Fn.enter (vs:= [.pointer (some ⟨sp,0,none⟩),.agg (u8s k).toArray,.agg (u64s (wl y)).toArray]) Tryz.func16 U U U ?_
 intro E R hR
 change At _ _ E [NS,NF,NA,NT,NM,NW,ND,NP,NQ,NO,NL,NU,NK,R] _
 refine aB fun _ s_1=>aA (cU bQ U U U (fun N4 b4 B4=>cU bQ U U U (fun N5 b5 B5=>aC (s_1 (aB fun _ s_2=>aA (bA U U (aJ (ds:=u8s k) aI ag33 U B4 (by exact bV hul) (by exact hul) mem1 U ?_)))))))
 refine bC (bF (bF (bC (bC (bC (bC (bC (bC (bC (bC (bC (bC (bC (bC (bC (cL nxQ (.cons U (.cons U .nil)) (FOpened h hk hc) (F:= [N5,N4,R]) Tryz.func50 U U aV (by simp) U ?_))))))))))))))))
 rintro _ _ ⟨t2,ma2,D2,l2,xp,x,NS2,NF2,NA2,NT2,NM2,NW2,ND2,NP2,NQ2,NO2,NL2,NU2,NK2,rfl,rfl,h2,e2,g2,dl2,hx2⟩
 show At _ _ _ [NS2,NF2,NA2,NT2,NM2,NW2,ND2,NP2,NQ2,NO2,NL2,NU2,NK2,N5,N4,R] _
 skip
 obtain⟨NAX,NR,aXR,eNA,⟨NX,NB,NC,mb,ca,cc,DX,aX,eX,hX⟩,hRR⟩:=h2.N.take h2.A.dis g2
 have BX:=hX.B
 have BS2:=h2.S'
 have bU2:=h2.J.bU
 rw [dl2]at hRR
 refine bW bQ ze67 U (fun N6 b6 B6=>?_)
 change Blk N6 b6 _ [.pointer none]at B6
 refine bJ nxQ sz67 U U U U U B6 (by simp) sel0 (fun N6 B6=>?_)
 simp only [setL,List.set]at B6
 refine aC (s_2 (aB fun _ s_3=>aH (aH (aH (aH (aH (aH (aH (aH (aH (aH (aH (aH (aH (bC (bC (bC (aH ?_))))))))))))))))))
 rw [eNA,eX];refine At.unjoin (by rw [←eX];exact aXR) ?_;refine At.unpack (As:= [NX,NB,NC]) aX ?_
 refine aA (a6 aI sc67 U B6 U mem4 U ?_)
 refine bI aI U U (aG aI fl71_1 U U (aJ (ds:=u64s (wl x.ba)) aI ag36 U BX (by rfl) (by rfl) cT U ?_))
 refine bW bQ ze36 U (fun N7 b7 B7=>?_)
 change Blk N7 b7 _ [.int .u64 0,.int .u64 0,.int .u64 0,.int .u64 0]at B7
 refine bJ nxQ sz36 U U U (cD x.ba) (one_wl x.ba) B7 (by simp) sel0 (fun N7 B7=>?_)
 skip
 refine aC (s_3 (aB fun _ s_4=>aA (a6 aI sc67 U B6 U mem5 U ?_)))
 refine aJ (ds:=u64s (wl y)) aI ag36 U B5 (by exact bV (cD y)) (by exact cD y) mem18 U ?_
 refine bI aI U U (aG aI fl71_1 U U (bJ nxQ sz36 U U U (cD y) (one_wl y) BX (by exact show 0+1+4≤7 by decide) sel1 (fun NX BX=>?_)))
 change Blk NX xp _ (acK x.no y ca x.co.length cc mb)at BX
 refine aC (s_4 (aA (bA U U (op_mkF aI .nil (.cons U (.cons U .nil)) U (bH (bH (bH (bH (bH (bH (bH (bH (bH (bH (bH (bH (bH (bH (bH (bH (bH (aR (bH (bH (bH (At.pack (As:= [NX,NB,NC]) (fun hANPA=>?_)))))))))))))))))))))))))))
 obtain⟨NPA,eNPA⟩: ∃N,N=joinL [NX,NB,NC]:=⟨_,rfl⟩
 rw [←eNPA]
 refine aR (aR (aR (aR (aU (aU (aU (aU (aU (aU (aU (aU (aU (aH (aH (aH (aH (aR (aR (cL nxQ (.cons U (.cons U .nil)) (FUndoable BS2 h2.J.Uq (by omega)) (F:= [NPA,N7,NR,N6,NF2,NT2,NM2,NW2,ND2,NP2,NQ2,NO2,NL2,NK2,N5,N4,R]) Tryz.func51 U U aV (by simp) U ?_)))))))))))))))))))
 rintro _ _ ⟨NS3,NU3,a3,c3,us3,rfl,rfl,BS3,r3⟩
 show At _ _ _ [NS3,NU3,NPA,N7,NR,N6,NF2,NT2,NM2,NW2,ND2,NP2,NQ2,NO2,NL2,NK2,N5,N4,R] _
 skip
 refine bZ (aR (aR (aR (aR (aR (aR (aR (aR (aR (aR (aR (aR (aR (aR (aU (aH (aH (aR (aR (At.merge (fun hap=>dropAt16 (dropAt15 (dropAt4 (dropAt3 (bG (bG (bD (bG (bG (bG (bG (bG (bG (bG (bG (aZ (bG (bG (cR (L1:= [NS3,NF2,(join2 NPA NR),NT2,NM2,NW2,ND2,NP2,NQ2,NO2,NL2,NU3,NK2]) U .nil U (.refl _) aV ?_)))))))))))))))))))))))))))))))))))))))
 have aXE:=hANPA
 subst eNPA
 obtain⟨gS,gT,gM,gW,gD,gP,gQ,gO,aT,aM,aW,aD,aP,aQ,aO,gL,gU,gK,oL,bL,bU,bK⟩:=h2.J.mono (show c+2≤c+4 by omega)
 exact⟨{ t2 with ua:=a3,un:=t2.un+1,uc:=c3,us:=us3 },ma2,D2,(k,(xp,x.setBa y))::delA k l2,NS3,NF2,_,NT2,NM2,NW2,ND2,NP2,NQ2,NO2,NL2,NU3,NK2,rfl,rfl,⟨⟨BS3,gT,gM,gW,gD,gP,gQ,gO,aT,aM,aW,aD,aP,aQ,aO,gL,r3,gK,oL,bL,by show t2.un+1≤c+4;omega,bK⟩,h2.F.mono (by omega),h2.A.rep g2 rfl,by
  rw [dl2]
  exact AccsN.put aXE hap ⟨BX,hX.M.mono (by omega),hX.A,hX.C,hX.ln,hy,hX.st⟩ (hRR.mono (by omega))⟩,e2,by rw [dl2];exact hM.turn (f:=AcS.setBa y) hx2⟩
set_option maxHeartbeats 16000000 in
theorem FSetCode (h:StO t NS NF NA NT NM NW ND NP NQ NO NL NU NK sp ma c DF l) (hM:MdEq l M) (hk:okAd k) (hc:c+4≤1099511627776) {NI:Heaplet} {ao:Option Addr} {n cap:Nat} {y:List UInt8} (hy:RSl NI 1 ao n cap (u8s y)) (hyl:y.length=n) (hyn:n≤1099511627776):Fn Tryz.prog 15 #[.pointer (some ⟨sp,0,none⟩),.agg (u8s k).toArray,.slice ao n cap] [NS,NF,NA,NT,NM,NW,ND,NP,NQ,NO,NL,NU,NK] [NI] (StP (.tuple #[]) { t.ab with lt:=putA k () t.ab.lt } (turnA k (AcS.setCo y) M) sp (c+4)):=by
 have hul:(u8s k).length=20:=by rw [cF,hk]
 refine Fn.enter (vs:= [.pointer (some ⟨sp,0,none⟩),.agg (u8s k).toArray,.slice ao n cap]) Tryz.func15 U U U ?_
 intro E R hR
 have hyR:=hy.le (hR NI (by simp))
 change At _ _ E [NS,NF,NA,NT,NM,NW,ND,NP,NQ,NO,NL,NU,NK,R] _
 refine aB fun _ s_1=>aA (cU bQ U U U (fun N4 b4 B4=>aC (s_1 (aB fun _ s_2=>aA (bA U U (aJ (ds:=u8s k) aI ag33 U B4 (by exact bV hul) (by exact hul) cT U ?_))))))
 refine aK (cK (aK (aK (aK (aK (aK (aK (aK (aK (aK (aK (aK (aK (aK (cL nxQ (.cons U (.cons U .nil)) (FOpened h hk hc) (F:= [N4,R]) Tryz.func50 U U aV (by simp) U ?_)))))))))))))))
 rintro _ _ ⟨t2,ma2,D2,l2,xp,x,NS2,NF2,NA2,NT2,NM2,NW2,ND2,NP2,NQ2,NO2,NL2,NU2,NK2,rfl,rfl,h2,e2,g2,dl2,hx2⟩
 show At _ _ _ [NS2,NF2,NA2,NT2,NM2,NW2,ND2,NP2,NQ2,NO2,NL2,NU2,NK2,N4,R] _
 skip
 obtain⟨NAX,NR,aXR,eNA,⟨NX,NB,NC,mb,ca,cc,DX,aX,eX,hX⟩,hRR⟩:=h2.N.take h2.A.dis g2
 have BX:=hX.B
 have BS2:=h2.S'
 have bU2:=h2.J.bU
 rw [dl2]at hRR
 refine bW bQ ze67 U (fun N6 b6 B6=>?_)
 change Blk N6 b6 _ [.pointer none]at B6
 refine bJ nxQ sz67 U U U U U B6 (by simp) sel0 (fun N6 B6=>?_)
 simp only [setL,List.set]at B6
 refine aC (s_2 (aB fun _ s_3=>bC (bC (bC (bC (bC (bC (bC (bC (bC (bC (bC (bC (aK (aK (aK (bC ?_)))))))))))))))))
 rw [eNA,eX];refine At.unjoin (by rw [←eX];exact aXR) ?_;refine At.unpack (As:= [NX,NB,NC]) aX ?_
 refine aA (a6 aI sc67 U B6 U mem4 U ?_)
 refine bI aI U U (aG aI fl71_2 U U (a6 aI sc37 U BX U cT U ?_))
 refine bW bQ ze37 U (fun N7 b7 B7=>?_)
 change Blk N7 b7 _ [.slice none 0 0]at B7
 refine bJ nxQ sz37 U U U U U B7 (by simp) sel0 (fun N7 B7=>?_)
 simp only [setL,List.set]at B7
 refine aC (s_3 (aB fun _ s_4=>bO (bO (bE (aL (aL (aL (aL (aL (aL (aL (aL (aL (aL (aL (aL (aL (aL (aL (aL (aL (cO [NX,N6,NS2] [5] [] [0,1,2,3,4,5] (by kernel_rfl) (by kernel_rfl) (.cons _ (.cons _ (.cons _ (.cons _ (.cons _ (.cons _ (.cons _ (.cons _ (.cons _ (.cons _ (.cons _ (.cons _ (.cons _ (.cons _ (.cons _ (.cons _ (.cons _ (.refl _)))))))))))))))))) (a6 (aY U U U) sc67 U B6 U mem1 U ?_)))))))))))))))))))))))
 refine aN (aY U U U) U U (bM (Nx.agree (nxsm U U U)) (.cons U .nil) ((FBClone hyR hyl hyn)) Tryz.func30 U U (by simp) U ?_)
 rintro _ _ ⟨NI2,a17,c17,rfl,rfl,hI2⟩
 show At _ _ _ [NI2,N7,NB,NC,NR,NF2,NT2,NM2,NW2,ND2,NP2,NQ2,NO2,NL2,NU2,NK2,N4,R,NX,N6,NS2] _
 refine bH (bH (bH (bE (bH (bH (bH (bH (bH (bH (bH (bH (bH (bH (bH (bH (bH (bH (bH (bH (bH (At.moreS (Lst:= [NX,N6,NS2]) (Lst':= [NI2,NX,N6,NS2]) (.cons _ (.refl _)) (.cons _ (.cons _ (.cons _ (.cons _ (.cons _ (.cons _ (.cons _ (.cons _ (.cons _ (.cons _ (.cons _ (.cons _ (.cons _ (.cons _ (.cons _ (.cons _ (.cons _ (.refl _)))))))))))))))))) (bI (aY U U U) U U (aG (aY U U U) fl71_2 U U (bJ (nxsl U U U U) sz37 U U U U U BX (by exact show 0+5+1≤7 by decide) sel18 (fun NX BX=>?_)))))))))))))))))))))))))
 change Blk NX xp _ (acK x.no x.ba a17 n c17 mb)at BX;rw [←hyl]at BX hI2
 refine At.sNil (aS (s_4 (aA (bA U U (op_mkF aI .nil (.cons U (.cons U .nil)) U (bH (bH (aL (aL (aL (aL (aL (aL (aL (aL (aL (aL (aL (aL (aL (aL (aL (aR (bH (bH (bH (At.pack (As:= [NX,NB,NI2]) (fun hANPA=>?_))))))))))))))))))))))))))))
 obtain⟨NPA,eNPA⟩: ∃N,N=joinL [NX,NB,NI2]:=⟨_,rfl⟩
 rw [←eNPA]
 refine aU (aU (aU (aU (aH (aH (aH (aH (aH (aH (aH (aH (aH (aH (aH (aH (aH (aU (aR (cL nxQ (.cons U (.cons U .nil)) (FUndoable BS2 h2.J.Uq (by omega)) (F:= [NPA,N7,NC,NR,NF2,NT2,NM2,NW2,ND2,NP2,NQ2,NO2,NL2,NK2,N4,R,N6]) Tryz.func51 U U aV (by simp) U ?_)))))))))))))))))))
 rintro _ _ ⟨NS3,NU3,a3,c3,us3,rfl,rfl,BS3,r3⟩
 show At _ _ _ [NS3,NU3,NPA,N7,NC,NR,NF2,NT2,NM2,NW2,ND2,NP2,NQ2,NO2,NL2,NK2,N4,R,N6] _
 skip
 refine bZ (aR (aR (aR (aR (aR (aR (aR (aR (aR (aR (aR (aR (aR (aU (aU (aH (aH (aR (aR (At.merge (fun hap=>dropAt17 (dropAt15 (dropAt4 (dropAt3 (bG (bG (bD (bG (bG (bG (bG (bG (bG (bG (bG (aZ (bG (bG (cR (L1:= [NS3,NF2,(join2 NPA NR),NT2,NM2,NW2,ND2,NP2,NQ2,NO2,NL2,NU3,NK2]) U .nil U (.refl _) aV ?_)))))))))))))))))))))))))))))))))))))))
 have aXE:=hANPA
 subst eNPA
 obtain⟨gS,gT,gM,gW,gD,gP,gQ,gO,aT,aM,aW,aD,aP,aQ,aO,gL,gU,gK,oL,bL,bU,bK⟩:=h2.J.mono (show c+2≤c+4 by omega)
 exact⟨{ t2 with ua:=a3,un:=t2.un+1,uc:=c3,us:=us3 },ma2,D2,(k,(xp,x.setCo y))::delA k l2,NS3,NF2,_,NT2,NM2,NW2,ND2,NP2,NQ2,NO2,NL2,NU3,NK2,rfl,rfl,⟨⟨BS3,gT,gM,gW,gD,gP,gQ,gO,aT,aM,aW,aD,aP,aQ,aO,gL,r3,gK,oL,bL,by show t2.un+1≤c+4;omega,bK⟩,h2.F.mono (by omega),h2.A.rep g2 rfl,by
  rw [dl2]
  exact AccsN.put aXE hap ⟨BX,hX.M.mono (by omega),hX.A,hI2,by rw [show(x.setCo y).co=y from rfl,hyl];exact hyn,hX.ba,hX.st⟩ (hRR.mono (by omega))⟩,e2,by rw [dl2];exact hM.turn (f:=AcS.setCo y) hx2⟩
end
theorem all_range64: ∀(xs ys:List UInt64),xs.length=ys.length→((List.range xs.length).all fun i=>xs.getD i 0==ys.getD i 0)=(xs==ys)
 | [],[],_=>rfl
 |x::xs,y::ys,h=>by
  have ih:=all_range64 xs ys (by simpa using h)
  rw [List.length_cons,List.range_succ_eq_map,List.all_cons,List.all_map]
  simp only [List.getD_cons_zero,Function.comp_def,List.getD_cons_succ,ih]
  simp [List.cons_beq_cons]
 | [],_::_,h=>by simp at h
 |_::_,[],h=>by simp at h
section
variable {P : Program}
theorem run_equalIn_words (w:World) (d:Nat) (t e:TypeId) (n:Nat) (ht:P.underlying t=some (.array n e)) (he:P.underlying e=some (.int .u64)) (hsz: ∀w,(sizeOf e).run P w=.ok 1 w)
 (xs ys:List UInt64) (hx:xs.length=n) (hy:ys.length=n):
 (Op.equalIn (d+2) t (.agg (u64s xs).toArray) (.agg (u64s ys).toArray)).run P w=.ok (xs==ys) w:=by
 rw [←all_range64 xs ys (hx.trans hy.symm),hx,List.range_eq_range',Op.equalIn]
 simp only [Sem.run_bind,Go.run_underlying ht,Result.andThen_ok,hsz,Std.Legacy.Range.forIn_eq_forIn_range',Std.Legacy.Range.size,Nat.sub_zero,Nat.add_sub_cancel,Nat.div_one]
 have hl: ∀i∈List.range' 0 n 1,i<n:=fun i hi=>by simpa using (List.mem_range'_1.1 hi).2
 generalize List.range' 0 n 1=l at hl⊢
 induction l with
 |nil=>simp
 |cons i l ih=>
  have hi:i<n:=hl i (by simp)
  have px:(part e (u64s xs).toArray (i*1)).run P w=.ok (.int .u64 ((xs.getD i 0).toNat:Int)) w:=by
   simp [part,isAgg,Go.run_underlying he,u64s,vl,List.getD,List.getElem?_eq_getElem (show i<xs.length by omega)]
  have py:(part e (u64s ys).toArray (i*1)).run P w=.ok (.int .u64 ((ys.getD i 0).toNat:Int)) w:=by
   simp [part,isAgg,Go.run_underlying he,u64s,vl,List.getD,List.getElem?_eq_getElem (show i<ys.length by omega)]
  have pe:(Op.equalIn (d+1) e (.int .u64 ((xs.getD i 0).toNat:Int)) (.int .u64 ((ys.getD i 0).toNat:Int))).run P w=.ok (xs.getD i 0==ys.getD i 0) w:=by
   rw [run_equalIn_int w d e .u64 .u64 _ _ he]
   congr 1
   rw [Bool.eq_iff_iff]
   simp [←UInt64.toNat_inj]
   omega
  simp only [List.forIn_cons,Sem.run_bind,px,py,pe,Result.andThen_ok,List.all_cons]
  cases hb:(xs.getD i 0==ys.getD i 0)
  ·simp
  ·simp only [Bool.not_true,Bool.false_eq_true,if_false,Sem.run_pure,Result.andThen_ok,Bool.true_and]
   exact ih fun j hj=>hl j (by simp [hj])
theorem eqGuard_agg {op:BinOp} {t:TypeId} {x y:Operand} {a b:Array Value} (h:P.eqGuardType P.depth t=false) (w:World):(eqGuard op t x y (.agg a) (.agg b)).run P w=.ok () w:=by
 unfold eqGuard
 by_cases ho:(!(op matches .eql|.neq))=true<;>simp [ho,h]
variable {n : Nat} {l : List (Nat × Value)} {E : World} {L Ls : List Heaplet} {X Y : Act → World → Prop} {d : Nat} {t t' ty e : TypeId} {x y : Operand}
theorem op_eqW {a b:List UInt64} {k:Nat} {pos:_} {aft:_} {g:_} (s:NxF P n l E L Ls ⟨some d,.binOp .eql t x y t',ty,pos,aft,g⟩ X Y) (ht:aelt P t=some (k,e,1)) (he:P.underlying e=some (.int .u64)) (hg:P.eqGuardType P.depth t=false) (hx:ev l x=some (.agg (u64s a).toArray)) (hy:ev l y=some (.agg (u64s b).toArray)) (ha:a.length=k) (hb:b.length=k) (hn:Nat.ble (d+1) n=true) (h:At n ((d,.bool (decide (a=b)))::l) E L Y):At n l E L X:=by
 obtain⟨hu,i,hi,hsz⟩:=aelt_spec ht
 exact op_bin s hx hy (fun w=>eqGuard_agg hg w) (fun w=>by
  rw [run_eql_struct,run_equalIn_words w 9998 t e k hu he (fun w=>by rw [run_sizeOf hi,hsz]) a b ha hb]
  simp only [Result.andThen_ok,show(a==b)=decide (a=b)from by rw [Bool.eq_iff_iff];simp]) hn h
end
def firstA (p:List UInt8×Nat) (v:Nat) (lo:List ((List UInt8×Nat)×Nat)):List ((List UInt8×Nat)×Nat):=if (getA p lo).isSome=true then lo else putA p v lo
theorem wl_zero4 {y:Nat} (hy:y<WW):wl y= [0,0,0,0]↔y=0:=⟨fun h=>wl_inj hy (by decide) (h.trans (by rfl)),fun h=>by rw [h];rfl⟩
theorem setSl_lt {x:AcS} {kx y:Nat} (h: ∀p∈x.st,p.2<WW) (hy:y<WW): ∀p∈(x.setSl kx y).st,p.2<WW:=fun p hp=>by
 have hp:p∈setSt kx y x.st:=hp
 unfold setSt at hp
 split at hp
 ·exact h p (mem_delA.1 hp).1
 ·rcases List.mem_append.1 hp with hp|hp
  ·exact h p (mem_delA.1 hp).1
  ·rw [List.mem_singleton.1 hp];exact hy
section
variable {NS NF NA NT NM NW ND NP NQ NO NL NU NK : Heaplet} {t : SJ} {sp ma c : Nat} {DF : DataW Value} {l : AcR} {M : AcL} {k : List UInt8}
set_option maxHeartbeats 8000000 in
theorem FFirst {mt mm mw md ws tr og:Nat} {rf:UInt64} {lg un mk:Value} {tl:Int} {DO:DataW Value} {lo:List ((List UInt8×Nat)×Nat)} {x v:Nat} (BS:Blk NS sp 85 (stK ma mt mm mw md ws tr og rf lg un mk tl)) (hM:MapV Tryz.prog 105 NO og c DO) (hA:MapA keyPP okPl wordV DO lo) (hk:okPl (k,x)) (hc:c≤1099511627776):
 Fn Tryz.prog 53 #[.pointer (some ⟨sp,0,none⟩),.agg (u8s k++u64s (wl x)).toArray,.agg (u64s (wl v)).toArray] [NO] [NS] (fun w L=> ∃(NO:Heaplet) (DO:DataW Value),w=.tuple #[]∧L= [NO]∧MapV Tryz.prog 105 NO og (c+1) DO∧MapA keyPP okPl wordV DO (firstA (k,x) v lo)):=by
 have hul:(u8s k++u64s (wl x)).length=24:=place_len (k:=(k,x)) hk
 obtain⟨old,hlk⟩: ∃old,DO.atKey (keyPP (k,x)) (.held (wordV 0))=.held (wordV old):=by
  rw [hA.look hk]
  cases getA (k,x) lo with
  |none=>exact⟨0,rfl⟩
  |some y=>exact⟨y,rfl⟩
 have hh:=hA.has (k,x) hk
 obtain⟨b,hb⟩: ∃b,Maps.has DO (keyPP (k,x))=b:=⟨_,rfl⟩
 rw [hb]at hh
 refine Fn.enter (vs:= [.pointer (some ⟨sp,0,none⟩),.agg (u8s k++u64s (wl x)).toArray,.agg (u64s (wl v)).toArray]) Tryz.func53 U U U ?_
 intro E R hR
 have BR:=BS.le (hR NS (by simp))
 change At _ _ E [NO,R] _
 refine aB fun _ s_1=>aA (cU bQ U U U (fun N4 b4 B4=>cU bQ U U U (fun N5 b5 B5=>aC (s_1 (aB fun _ s_2=>bE (bF (bE (bE (At.planS [NO,N4,R] (.take 0 (.take 1 (.take 2 (.take 3 (.take 4 (.take 5 (.fork 6 true (.take 7 (.take 8 (.take 9 (.fork 10 false (.fork 11 false (.take 12 .done) .nofork) .nofork)))) (.fork 10 false (.fork 6 false (.take 7 (.take 8 (.take 9 (.fork 11 false (.take 12 .done) .nofork)))) .nofork) .nofork)))))))) (by kernel_rfl) (by kernel_rfl) (.cons _ (.refl _)) (aN (nxpf U U) U U (bI (nxpf U U) U U (aG (nxpf U U) fl85_1 U U (aG (nxpf U U) fl83_6 U U (a6 (nxpf U U) sc79 U BR U mem2 U ?_))))))))))))))
 refine aJ (ds:=u8s k++u64s (wl x)) (nxpf U U) ag105 U B4 (by exact bV hul) (by exact hul) mem1 U ?_
 refine At.fork ?_ ?_
 rotate_left
 ·refine At.fork ?_ ?_
  rotate_left
  ·exact At.pNo
  refine bW (Nx.agree (nxpa U U)) ze36 U (fun N6 b6 B6=>?_)
  change Blk N6 b6 _ [.int .u64 0,.int .u64 0,.int .u64 0,.int .u64 0]at B6
  refine At.andS (.cons _ (.cons _ (.refl _))) (At.fork ?_ ?_)
  rotate_left
  ·exact At.pNo
  refine op_lookupV (Nx.agree (nxpa U U)) kd105 Tryz.underlying79 (fun _=>by first|rfl|kernel_rfl) U U hM (keyP_spec hk.1 x) (hlk) (by simp) U ?_
  refine At.andS (.cons _ (.cons _ (.refl _))) ?_
  rw [show Maps.has DO (keyP k x)=b from hb]
  refine aN (nxpf U U) U U (bS (nxpf U U) U U U (bS (nxpf U U) U U U (At.fork ?_ ?_)))
  rotate_left
  ·exact At.pNo
  refine bJ (nxpa U U) sz36 U U U (cD old) (one_wl old) B6 (by simp) sel0 (fun N6 B6=>?_)
  skip
  refine At.andS (.cons _ (.cons _ (.refl _))) (cW (nxpf U U) U U (At.pDone (aS (s_2 (aB fun _ s_3=>aA (bA U U (op_not aI U U (aC (s_3 (At.condB U (fun c19=>?_) (fun c19=>?_)))))))))))
  ·refine bD (bF (bD (bD (bD (cO [NO,N4,N5,R] [7] [] [0,1,2,3,4,5,6,7] (by kernel_rfl) (by kernel_rfl) (.cons _ (.refl _)) (aN (aY U U U) U U (bI (aY U U U) U U (aG (aY U U U) fl85_1 U U (aG (aY U U U) fl83_6 U U (a6 (aY U U U) sc79 U BR U mem3 U ?_))))))))))
   refine aJ (ds:=u8s k++u64s (wl x)) (aY U U U) ag105 U B4 (by exact bV hul) (by exact hul) mem1 U ?_
   refine aJ (ds:=u64s (wl v)) (aY U U U) ag36 U B5 (by exact bV (cD v)) (by exact cD v) mem2 U ?_
   refine op_mapUpdateV (nxsl U U U U) kd105 Tryz.underlying79 U U U hM ((by unfold maxLen;omega)) (keyP_spec hk.1 x) sel1 (fun NO hM hoO=>?_)
   refine At.sNil (dropAt3 (dropAt2 (cQ (cR (L1:= [NO]) U .nil U (.refl _) aV ?_))))
   have hbf:(getA (k,x) lo).isSome=false:=by rw [←hh];simpa using c19
   exact⟨NO,_,rfl,rfl,hM,by rw [firstA,if_neg (by rw [hbf];decide)];exact hA.put keE_P hk v⟩
  refine bY (dropAt3 (cQ (dropAt0 (cR (L1:= [NO]) U .nil U (.refl _) aV ?_))))
  have hbf:(getA (k,x) lo).isSome=true:=by rw [←hh];simpa using c19
  exact⟨NO,_,rfl,rfl,hM.mono (Nat.le_succ _),by rw [firstA,if_pos hbf];exact hA⟩
 refine op_lookupV (Nx.agree (nxpa U U)) kd105 Tryz.underlying79 (fun _=>by first|rfl|kernel_rfl) U U hM (keyP_spec hk.1 x) (hlk) (by simp) U ?_
 refine At.andS (.cons _ (.refl _)) ?_
 rw [show Maps.has DO (keyP k x)=b from hb]
 refine aN (nxpf U U) U U (bS (nxpf U U) U U U (bS (nxpf U U) U U U (At.fork ?_ ?_)))
 rotate_left
 ·exact At.pNo
 refine bW (Nx.agree (nxpa U U)) ze36 U (fun N6 b6 B6=>?_)
 change Blk N6 b6 _ [.int .u64 0,.int .u64 0,.int .u64 0,.int .u64 0]at B6
 refine At.andS (.cons _ (.cons _ (.refl _))) (At.fork ?_ ?_)
 rotate_left
 ·exact At.pNo
 refine bJ (nxpa U U) sz36 U U U (cD old) (one_wl old) B6 (by simp) sel0 (fun N6 B6=>?_)
 skip
 refine At.andS (.cons _ (.cons _ (.refl _))) (cW (nxpf U U) U U (At.pDone (aS (s_2 (aB fun _ s_4=>aA (bA U U (op_not aI U U (aC (s_4 (At.condB U (fun c19=>?_) (fun c19=>?_)))))))))))
 ·refine bD (bF (bD (bD (bD (cO [NO,N4,N5,R] [7] [] [0,1,2,3,4,5,6,7] (by kernel_rfl) (by kernel_rfl) (.cons _ (.refl _)) (aN (aY U U U) U U (bI (aY U U U) U U (aG (aY U U U) fl85_1 U U (aG (aY U U U) fl83_6 U U (a6 (aY U U U) sc79 U BR U mem3 U ?_))))))))))
  refine aJ (ds:=u8s k++u64s (wl x)) (aY U U U) ag105 U B4 (by exact bV hul) (by exact hul) mem1 U ?_
  refine aJ (ds:=u64s (wl v)) (aY U U U) ag36 U B5 (by exact bV (cD v)) (by exact cD v) mem2 U ?_
  refine op_mapUpdateV (nxsl U U U U) kd105 Tryz.underlying79 U U U hM ((by unfold maxLen;omega)) (keyP_spec hk.1 x) sel1 (fun NO hM hoO=>?_)
  refine At.sNil (dropAt3 (dropAt2 (cQ (cR (L1:= [NO]) U .nil U (.refl _) aV ?_))))
  have hbf:(getA (k,x) lo).isSome=false:=by rw [←hh];simpa using c19
  exact⟨NO,_,rfl,rfl,hM,by rw [firstA,if_neg (by rw [hbf];decide)];exact hA.put keE_P hk v⟩
 refine bY (dropAt3 (cQ (dropAt0 (cR (L1:= [NO]) U .nil U (.refl _) aV ?_))))
 have hbf:(getA (k,x) lo).isSome=true:=by rw [←hh];simpa using c19
 exact⟨NO,_,rfl,rfl,hM.mono (Nat.le_succ _),by rw [firstA,if_pos hbf];exact hA⟩
set_option maxHeartbeats 32000000 in
theorem FSetSlot (h:StO t NS NF NA NT NM NW ND NP NQ NO NL NU NK sp ma c DF l) (hM:MdEq l M) {kx y:Nat} (hk:okPl (k,kx)) (hy:y<WW) (hc:c+4≤1099511627776) (hoc:t.ab.oc+4≤1099511627776):Fn Tryz.prog 14 #[.pointer (some ⟨sp,0,none⟩),.agg (u8s k).toArray,.agg (u64s (wl kx)).toArray,.agg (u64s (wl y)).toArray] [NS,NF,NA,NT,NM,NW,ND,NP,NQ,NO,NL,NU,NK] [] (StP (.tuple #[]) { t.ab with lt:=putA k () t.ab.lt,lo:=firstA (k,kx) ((getA kx ((getA k M).getD AcS.z).st).getD 0) t.ab.lo,oc:=t.ab.oc+1 } (turnA k (AcS.setSl kx y) M) sp (c+4)):=by
 have hul:(u8s k).length=20:=by rw [cF,hk.1]
 have hMk:=hM k
 refine Fn.enter (vs:= [.pointer (some ⟨sp,0,none⟩),.agg (u8s k).toArray,.agg (u64s (wl kx)).toArray,.agg (u64s (wl y)).toArray]) Tryz.func14 U U U ?_
 intro E R hR
 change At _ _ E [NS,NF,NA,NT,NM,NW,ND,NP,NQ,NO,NL,NU,NK,R] _
 refine aB fun _ s_1=>aA (cU bQ U U U (fun N5 b5 B5=>cU bQ U U U (fun N6 b6 B6=>cU bQ U U U (fun N7 b7 B7=>aC (s_1 (aB fun _ s_2=>aA (bA U U (aJ (ds:=u8s k) aI ag33 U B5 (by exact bV hul) (by exact hul) mem2 U ?_))))))))
 refine aH (bE (bE (bE (aH (aH (aH (aH (aH (aH (aH (aH (aH (aH (aH (aH (aH (cL nxQ (.cons U (.cons U .nil)) (FOpened h hk.1 hc) (F:= [N7,N6,N5,R]) Tryz.func50 U U aV (by simp) U ?_)))))))))))))))))
 rintro _ _ ⟨t2,ma2,D2,l2,xp,x,NS2,NF2,NA2,NT2,NM2,NW2,ND2,NP2,NQ2,NO2,NL2,NU2,NK2,rfl,rfl,h2,e2,g2,dl2,hx2⟩
 show At _ _ _ [NS2,NF2,NA2,NT2,NM2,NW2,ND2,NP2,NQ2,NO2,NL2,NU2,NK2,N7,N6,N5,R] _
 skip
 obtain⟨NAX,NR,aXR,eNA,⟨NX,NB,NC,mb,ca,cc,DX,aX,eX,hX⟩,hRR⟩:=h2.N.take h2.A.dis g2
 have BX:=hX.B
 have BS2:=h2.S'
 have bU2:=h2.J.bU
 rw [dl2]at hRR
 refine bP U U (aC (s_2 (aB fun _ s_3=>?_)))
 obtain⟨v0,hv0,hlk⟩: ∃v0,v0=(getA kx x.st).getD 0∧DX.atKey (keyW kx) (.held (wordV 0))=.held (wordV v0):=by
  rw [hX.A.look hk.2]
  cases getA kx x.st with
  |none=>exact⟨0,rfl,rfl⟩
  |some w=>exact⟨w,rfl,rfl⟩
 refine aH (aH (aH (aH (aH (aH (aH (aH (aH (aH (aH (aH (aH (aH (bC (bC (aH ?_))))))))))))))))
 rw [eNA,eX];refine At.unjoin (by rw [←eX];exact aXR) ?_;refine At.unpack (As:= [NX,NB,NC]) aX ?_
 refine bD (aU (aR (bD (bD (aL (aL (aL (aL (aL (aL (aL (aL (aL (aL (aL (aL (aL (aL (aL (cO [NX,NB,N5,N6,NS2] [10] [0] [0,1,2,3,4,5,6,7,8,9,10] (by kernel_rfl) (by kernel_rfl) (.cons _ (.cons _ (.cons _ (.cons _ (.cons _ (.cons _ (.cons _ (.cons _ (.cons _ (.cons _ (.cons _ (.cons _ (.cons _ (.cons _ (.cons _ (.refl _)))))))))))))))) (aN (aY U U U) U U (aJ (ds:=u8s k) (aY U U U) ag33 U B5 (by exact bV hul) (by exact hul) mem2 U ?_))))))))))))))))))))))
 refine aJ (ds:=u64s (wl kx)) (aY U U U) ag36 U B6 (by exact bV (cD kx)) (by exact cD kx) mem3 U ?_
 refine op_build (out:=u8s k++u64s (wl kx)) (aY U U U) ze105 pl105 (.cons U (.cons U .nil)) (fill_place hk.1 _ U) U (aN (aY U U U) U U (bI (aY U U U) U U (aG (aY U U U) fl71_3 U U (a6 (aY U U U) sc69 U BX U cT U ?_))))
 refine aJ (ds:=u64s (wl kx)) (aY U U U) ag36 U B6 (by exact bV (cD kx)) (by exact cD kx) mem3 U ?_
 refine op_lookupV1 (Nx.agree (nxsm U U U)) kd36 Tryz.underlying69 (fun _=>by first|rfl|kernel_rfl) U U hX.M (keyW_spec kx) (hlk) (by simp) U ?_
 refine At.moreS (Lst:= [NX,NB,N5,N6,NS2]) (Lst':= [NX,NB,N5,N6,NS2]) (.refl _) (.cons _ (.cons _ (.cons _ (.cons _ (.cons _ (.cons _ (.cons _ (.cons _ (.cons _ (.cons _ (.cons _ (.cons _ (.cons _ (.cons _ (.cons _ (.refl _)))))))))))))))) (aL (aL (aL (aL (aL (aL (aL (aL (aL (aL (aR (aR (aR (aR (aR (aR (aR (aR (aR (aL ?_))))))))))))))))))))
 refine cL (nxsl U U U U) (.cons U (.cons U (.cons U .nil))) (FFirst (v:=v0) BS2 h2.J.O h2.J.aO hk (by rw [e2];show t.ab.oc≤_;omega)) (F:= [NC,NR,NF2,NT2,NM2,NW2,ND2,NP2,NQ2,NL2,NU2,NK2,N7,R,NX,NB,N5,N6,NS2]) Tryz.func53 U U aV (by simp) U ?_
 rintro _ _ ⟨NO3,DO3,rfl,rfl,hO3,aO3⟩
 show At _ _ _ [NO3,NC,NR,NF2,NT2,NM2,NW2,ND2,NP2,NQ2,NL2,NU2,NK2,N7,R,NX,NB,N5,N6,NS2] _
 skip
 refine At.sNil (aS (s_3 (aB fun _ s_4=>aL (aK (aL (aU (aL (aL (aL (aL (aL (aL (aL (aL (aL (aL (aL (aL (aL (aL (aL (aL (cO [NX,N6,N7,NS2] [7] [] [0,1,2,3,4,5,6,7] (by kernel_rfl) (by kernel_rfl) (.cons _ (.cons _ (.cons _ (.cons _ (.cons _ (.cons _ (.cons _ (.cons _ (.cons _ (.cons _ (.cons _ (.cons _ (.cons _ (.cons _ (.cons _ (.cons _ (.refl _))))))))))))))))) (aN (aY U U U) U U (aN (aY U U U) U U (bI (aY U U U) U U (aG (aY U U U) fl71_3 U U (a6 (aY U U U) sc69 U BX U cT U ?_))))))))))))))))))))))))))))
 refine aJ (ds:=u64s (wl kx)) (aY U U U) ag36 U B6 (by exact bV (cD kx)) (by exact cD kx) mem1 U ?_
 refine aJ (ds:=u64s (wl y)) (aY U U U) ag36 U B7 (by exact bV (cD y)) (by exact cD y) mem2 U ?_
 refine aR (aR (aR (aR (aU (aU (aH (aH (aH (aH (aH (aH (aH (aH (aH (aH (aH (aU (aR (aL (cL (nxsl U U U U) (.cons U (.cons U (.cons U (.cons U .nil)))) (FPutWW (k:=kx) y BS2 h2.J.Uq (by omega) hX.M hX.A hk.2 (by omega)) (F:= [NO3,NC,NR,NF2,NT2,NM2,NW2,ND2,NP2,NQ2,NL2,NK2,R,N5,NX,N6,N7]) Tryz.func54 U U aV (by simp) U ?_))))))))))))))))))))
 rintro _ _ ⟨NS3,NB3,NU3,a3,c3,us3,D3,rfl,rfl,BS3,r3,hM3,hA3⟩
 show At _ _ _ [NS3,NB3,NU3,NO3,NC,NR,NF2,NT2,NM2,NW2,ND2,NP2,NQ2,NL2,NK2,R,N5,NX,N6,N7] _
 skip
 refine At.sNil (aS (s_4 (aB fun _ s_5=>aA (aJ (ds:=u64s (wl y)) aI ag36 U B7 (by exact bV (cD y)) (by exact cD y) mem19 U ?_))))
 refine op_buildA (out:= [.int .u64 0,.int .u64 0,.int .u64 0,.int .u64 0]) aI ze36 ae36 .nil U U (op_eqW (a:=wl y) (b:= [0,0,0,0]) aI ae36 Tryz.underlying34 (by kernel_rfl) U U U U U (aC (s_5 (bT U (fun c33=>?_) (fun c33=>?_)))))
 ·refine cK (aR (aR (aL (aL (aL (aL (aL (aL (aL (aL (aL (aL (aL (aL (aL (aL (aL (aL (aL (cO [NX,N6,NB3] [5] [] [0,1,2,3,4,5] (by kernel_rfl) (by kernel_rfl) (.cons _ (.cons _ (.cons _ (.cons _ (.cons _ (.cons _ (.cons _ (.cons _ (.cons _ (.cons _ (.cons _ (.cons _ (.cons _ (.cons _ (.cons _ (.cons _ (.cons _ (.refl _)))))))))))))))))) (aN (aY U U U) U U (bI (aY U U U) U U (aG (aY U U U) fl71_3 U U (a6 (aY U U U) sc69 U BX U cT U ?_))))))))))))))))))))))))
  refine aJ (ds:=u64s (wl kx)) (aY U U U) ag36 U B6 (by exact bV (cD kx)) (by exact cD kx) mem1 U ?_
  refine op_deleteV (nxsl U U U U) kd36 Tryz.underlying69 U U hM3 (keyW_spec kx) sel19 (fun NB3 hM3 hoB=>At.sNil (aL (aR (aR (aR (aR (aR (aR (aR (aR (aR (aR (aR (aR (aR (aU (aU (aU (aR (aR (aL (At.pack (As:= [NX,NB3,NC]) (fun hANPA=>?_)))))))))))))))))))))))
  obtain⟨NPA,eNPA⟩: ∃N,N=joinL [NX,NB3,NC]:=⟨_,rfl⟩
  rw [←eNPA]
  refine aU (aU (aU (aU (aU (aU (aU (aU (aU (aU (aU (aU (aU (aH (aH (aH (aU (aU (At.merge (fun hap=>dropAt16 (dropAt15 (dropAt14 (bG (bG (bD (bG (bO (bG (bG (bG (bG (bG (bG (aZ (bG (bG (cR (L1:= [NS3,NF2,(join2 NPA NR),NT2,NM2,NW2,ND2,NP2,NQ2,NO3,NL2,NU3,NK2]) U .nil U (.refl _) aV ?_))))))))))))))))))))))))))))))))))))
  have hy0:y=0:=(wl_zero4 hy).1 c33
  have hst:(x.setSl kx y).st=delA kx x.st:=by show setSt kx y x.st=_;rw [setSt,if_pos hy0]
  have hA4:=(by have:=hA3.del keE_W (k:=kx) hk.2;rw [delA_put]at this;exact this:MapA keyW okWd wordV (D3.del (keyW kx)) (delA kx x.st))
  subst eNPA
  obtain⟨gS,gT,gM,gW,gD,gP,gQ,gO,aT,aM,aW,aD,aP,aQ,aO,gL,gU,gK,oL,bL,bU,bK⟩:=h2.J.mono (show c+2≤c+4 by omega)
  refine⟨{ t2 with ua:=a3,un:=t2.un+1,uc:=c3,us:=us3,DO:=DO3,ab:= { t2.ab with lo:=firstA (k,kx) v0 t2.ab.lo,oc:=t2.ab.oc+1 } },ma2,D2,(k,(xp,x.setSl kx y))::delA k l2,NS3,NF2,_,NT2,NM2,NW2,ND2,NP2,NQ2,NO3,NL2,NU3,NK2,rfl,rfl,⟨⟨BS3,gT,gM,gW,gD,gP,gQ,hO3,aT,aM,aW,aD,aP,aQ,aO3,gL,r3,gK,oL,bL,by show t2.un+1≤c+4;omega,bK⟩,h2.F.mono (by omega),h2.A.rep g2 rfl,?_⟩,?_,by rw [dl2];exact hM.turn (f:=AcS.setSl kx y) hx2⟩
  ·rw [dl2]
   exact AccsN.put hANPA hap ⟨BX,hM3.mono (by omega),by rw [hst];exact hA4,hX.C,hX.ln,hX.ba,fun p hp=>setSl_lt hX.st hy p hp⟩ (hRR.mono (by omega))
  ·have ex:(getA k M).getD AcS.z=x:=by rw [hx2, ←hMk]
   show({ t2.ab with lo:=firstA (k,kx) v0 t2.ab.lo,oc:=t2.ab.oc+1 } :SAb)=_
   rw [e2,ex,hv0]
 refine bY (aL (aL (aR (aR (aR (aR (aR (aR (aR (aR (aR (aR (aR (aR (aU (aU (aH (aR (aR (aL (At.pack (As:= [NX,NB3,NC]) (fun hANPA=>?_))))))))))))))))))))))
 obtain⟨NPA,eNPA⟩: ∃N,N=joinL [NX,NB3,NC]:=⟨_,rfl⟩
 rw [←eNPA]
 refine aU (aU (aU (aU (aU (aU (aU (aU (aU (aU (aU (aU (aU (aH (aH (aH (aU (aU (At.merge (fun hap=>dropAt16 (dropAt15 (dropAt14 (bG (bG (bD (bG (bO (bG (bG (bG (bG (bG (bG (aZ (bG (bG (cR (L1:= [NS3,NF2,(join2 NPA NR),NT2,NM2,NW2,ND2,NP2,NQ2,NO3,NL2,NU3,NK2]) U .nil U (.refl _) aV ?_))))))))))))))))))))))))))))))))))))
 have hy0: ¬y=0:=fun h=>c33 ((wl_zero4 hy).2 h)
 have hst:(x.setSl kx y).st=putA kx y x.st:=by show setSt kx y x.st=_;rw [setSt,if_neg hy0]
 have hA4:=hA3
 subst eNPA
 obtain⟨gS,gT,gM,gW,gD,gP,gQ,gO,aT,aM,aW,aD,aP,aQ,aO,gL,gU,gK,oL,bL,bU,bK⟩:=h2.J.mono (show c+2≤c+4 by omega)
 refine⟨{ t2 with ua:=a3,un:=t2.un+1,uc:=c3,us:=us3,DO:=DO3,ab:= { t2.ab with lo:=firstA (k,kx) v0 t2.ab.lo,oc:=t2.ab.oc+1 } },ma2,D2,(k,(xp,x.setSl kx y))::delA k l2,NS3,NF2,_,NT2,NM2,NW2,ND2,NP2,NQ2,NO3,NL2,NU3,NK2,rfl,rfl,⟨⟨BS3,gT,gM,gW,gD,gP,gQ,hO3,aT,aM,aW,aD,aP,aQ,aO3,gL,r3,gK,oL,bL,by show t2.un+1≤c+4;omega,bK⟩,h2.F.mono (by omega),h2.A.rep g2 rfl,?_⟩,?_,by rw [dl2];exact hM.turn (f:=AcS.setSl kx y) hx2⟩
 ·rw [dl2]
  exact AccsN.put hANPA hap ⟨BX,hM3.mono (by omega),by rw [hst];exact hA4,hX.C,hX.ln,hX.ba,fun p hp=>setSl_lt hX.st hy p hp⟩ (hRR.mono (by omega))
 ·have ex:(getA k M).getD AcS.z=x:=by rw [hx2, ←hMk]
  show({ t2.ab with lo:=firstA (k,kx) v0 t2.ab.lo,oc:=t2.ab.oc+1 } :SAb)=_
  rw [e2,ex,hv0]
end
open Go.Maps (Keyed)
open Go.MapKept Go.ChangeShapes Go.WideShapes
def RngN (P:Program) (k:TypeId) (M:Heaplet) (r:Nat) (N:Heaplet) (b n:Nat) (D:DataW Value) (left:Lit→Bool) (cnt:Nat):Prop:=
 ∃om es clock,M r=some om∧N b=some (.map es clock)∧ ∀w:World,w.heap[r]? =some om→w.heap[b]? =some (.map es clock)→w.ranges P k heldV b r n D left cnt
theorem RngN.le {P:Program} {k:TypeId} {M M' N N':Heaplet} {r b n:Nat} {D:DataW Value} {left:Lit→Bool} {cnt:Nat} (h:RngN P k M r N b n D left cnt) (h1:M.le M') (h2:N.le N'):RngN P k M' r N' b n D left cnt:=by
 obtain⟨om,es,clock,a,c,d⟩:=h
 exact⟨om,es,clock,h1 _ _ a,h2 _ _ c,d⟩
theorem rng_all {P:Program} {k:TypeId} {w:World} {r b n:Nat} {D:DataW Value} {left:Lit→Bool} {cnt:Nat} {om:Obj} {es:Array MapEntry} {clock:Nat} (h:w.ranges P k heldV b r n D left cnt) (hr:w.heap[r]? =some om) (hb:w.heap[b]? =some (.map es clock)): ∀w':World,w'.heap[r]? =some om→w'.heap[b]? =some (.map es clock)→w'.ranges P k heldV b r n D left cnt:=fun w' hr' hb'=>by
 obtain⟨es0,cl0,since,seen,c0,k1,k2,k3,k4,k5,k6⟩:=h
 rw [hb]at k1
 cases k1
 rw [hr]at k5
 cases k5
 exact⟨es,clock,since,seen,c0,hb',k2,k3,k4,hr',k6⟩
section
variable {P : Program} {n : Nat} {l : List (Nat × Value)} {E : World} {L L1 Ls : List Heaplet} {X Y : Act → World → Prop} {d : Nat} {t ty k e : TypeId} {m it : Operand} {N M : Heaplet} {b c r cnt : Nat} {D : DataW Value} {left : Lit → Bool}
theorem op_range {pos:_} {aft:_} {g:_} (s:NxA P n l E L ⟨some d,.range t m,ty,pos,aft,g⟩ X Y) (K:Keyed P k) (ht:P.underlying t=some (.map k e)) (hm:ev l m=some (.map (some b))) (hb:MapV P k N b c D) (hN:N∈L) (hn:Nat.ble (d+1) n=true)
 (h: ∀M r,RngN P k M r N b c D (Maps.has D) (Maps.size D)→At n ((d,.pointer (some ⟨r,0,none⟩))::l) E (M::L) Y):At n l E L X:=by
 refine op_new s (fun v L'=> ∃M r,v=.pointer (some ⟨r,0,none⟩)∧L'=M::L∧RngN P k M r N b c D (Maps.has D) (Maps.size D)) (fun a w hf hw=>?_) rfl hn (fun v L' ⟨M,r,hv,hL,hB⟩=>by subst hv;subst hL;exact h M r hB)
 obtain⟨es,clock,hNb,hown⟩:=hb
 have hwb:=hw.sub N hN _ _ hNb
 have ho:=hown w hwb
 obtain⟨w',hrun,r1,r2,r3⟩:=ho.range K ht
 have hlt:=(Array.getElem?_eq_some_iff.1 hwb).1
 have hb':w'.heap[b]? =some (.map es clock):=(r2.block b hlt (by simp)).trans hwb
 obtain⟨om,hom⟩: ∃om,w'.heap[w.heap.size]? =some om:=⟨_,Array.getElem?_eq_getElem (by omega)⟩
 have hag:Agree w w':=fun j hj=>r2.block j hj (by simp)
 refine⟨.pointer (some ⟨w.heap.size,0,none⟩),w',single w.heap.size om::L,?_,hag,hw.push r2.os r2.tape r2.output hag (fun j o hj=>?_) (fun j o hj=>?_),single w.heap.size om,w.heap.size,rfl,rfl,om,es,clock,if_pos rfl,hNb,rng_all r1 hom hb'⟩
 ·simp only [execOp,hf.eval hm,Sem.run_bind,hrun,Result.andThen_ok]
  rfl
 ·unfold single at hj
  split at hj
  ·rename_i e;subst e;cases hj;exact hom
  ·cases hj
 ·unfold single at hj
  split at hj
  ·rename_i e;subst e;exact Nat.le_refl _
  ·cases hj
def EntN (P:Program) (M:Heaplet) (r:Nat) (N:Heaplet) (b:Nat) (key v:Value):Prop:=
 ∃om mo,M r=some om∧N b=some mo∧ ∀w:World,w.heap[r]? =some om→w.heap[b]? =some mo→(Instr.entry (.pointer (some ⟨r,0,none⟩))).run P w=.ok (.tuple #[key,v]) w
theorem entry_all {w:World} {om:Obj} {es:Array MapEntry} {clock since c0:Nat} {seen:Array Nat} {key v:Value} (hom:om=.mapIter (some b) since seen c0) (hr:w.heap[r]? =some om) (hb:w.heap[b]? =some (.map es clock)) (hen:(Instr.entry (.pointer (some ⟨r,0,none⟩))).run P w=.ok (.tuple #[key,v]) w): ∀w':World,w'.heap[r]? =some om→w'.heap[b]? =some (.map es clock)→(Instr.entry (.pointer (some ⟨r,0,none⟩))).run P w'=.ok (.tuple #[key,v]) w':=fun w' hr' hb'=>by
 subst hom
 have g1: ∀(u:World),u.heap[r]? =some (.mapIter (some b) since seen c0)→(getObj r).run P u=.ok (.mapIter (some b) since seen c0) u:=fun u h=>by simp [getObj,Sem.run,h]
 simp only [Instr.entry,Sem.run_bind,g1 _ hr,g1 _ hr',Result.andThen_ok]at hen⊢
 cases hs:seen.back? with
 |none=>simp only [hs]at hen;cases hen
 |some stamp=>
  simp only [hs,Sem.run_bind,MapKept.run_getObj_map hb,MapKept.run_getObj_map hb',Result.andThen_ok]at hen⊢
  by_cases hcl:clock !=c0
  ·simp only [hcl,if_true]at hen
   cases hen
  ·simp only [hcl]at hen⊢
   simp only [Bool.false_eq_true,if_false]at hen⊢
   cases hf:es.find? (fun x=>x.born==stamp)with
   |none=>simp only [hf]at hen;cases hen
   |some x=>simp only [hf]at hen⊢;cases hen;rfl
theorem op_next {pos:_} {aft:_} {g:_} (s:Nx P n l E L ⟨some d,.next it false,ty,pos,aft,g⟩ X Y) (K:Keyed P k) (hi:ev l it=some (.pointer (some ⟨r,0,none⟩))) (hb:RngN P k M r N b c D left cnt) (hs:L.Perm (M::L1)) (hN:N∈L1) (hn:Nat.ble (d+1) n=true)
 (h0:cnt=0→(∀kl,left kl=false)→At n ((d,.tuple #[.bool false])::l) E (M::L1) Y)
 (h: ∀key v kl M' cnt',keyOf P k key=some kl→left kl=true→(∀zd,D.atKey kl zd=.held v)→RngN P k M' r N b c D (fun x=>left x&& !x.sameKey kl) cnt'→cnt'<cnt→EntN P M' r N b key v→At n ((d,.tuple #[.bool true,key,v])::l) E (M'::L1) Y):At n l E L X:=by
 refine op_upd s (fun v L'=>(v=.tuple #[.bool false]∧L'=M::L1∧cnt=0∧ ∀kl,left kl=false)∨ ∃key x kl M' cnt',v=.tuple #[.bool true,key,x]∧L'=M'::L1∧keyOf P k key=some kl∧left kl=true∧(∀zd,D.atKey kl zd=.held x)∧RngN P k M' r N b c D (fun x=>left x&& !x.sameKey kl) cnt'∧cnt'<cnt∧EntN P M' r N b key x) (fun a w hf hw=>?_) U hn (fun v L' hp=>?_)
 ·have hw2:=hw.perm hs
  obtain⟨om,es,clock,hMr,hNb,hall⟩:=hb
  have hwr:=hw2.sub M (List.mem_cons_self ..) _ _ hMr
  have hwb:=hw2.sub N (List.mem_cons_of_mem _ hN) _ _ hNb
  have hrg:=hall w hwr hwb
  rcases hrg.next K ty with ⟨hz,hl,hrun⟩|⟨key,v,kl,y,w',cnt',q1,q2,q3,q4,hrun,hrg',q5,hg,hsz,hen⟩
  ·refine⟨_,w,M::L1,?_,hw2,.inl ⟨rfl,rfl,hz,hl⟩⟩
   simp only [execOp,hf.eval hi,Sem.run_bind,hrun,Result.andThen_ok]
   rfl
  ·cases q3
   have hne:=hrg.ne
   have hltb:=(Array.getElem?_eq_some_iff.1 hwb).1
   have hltr:=(Array.getElem?_eq_some_iff.1 hwr).1
   have hb':w'.heap[b]? =some (.map es clock):=(hg.block b hltb (by simpa using hne.symm)).trans hwb
   obtain⟨es',cl',since,seen,c0,p1,p2,p3,p4,p5,p6⟩:=id hrg'
   refine⟨_,w',upd M r (.mapIter (some b) since seen c0)::L1,?_,hw2.put hMr hg.os hg.tape hg.output p5 (fun j hj hlt=>hg.block j hlt (by simpa using hj)),.inr ⟨key,v,kl,_,cnt',rfl,rfl,q1,q2,q4,⟨_,es,clock,upd_self _ _ _,hNb,rng_all hrg' p5 hb'⟩,q5,⟨_,_,upd_self _ _ _,hNb,entry_all rfl p5 hb' hen⟩⟩⟩
   simp only [execOp,hf.eval hi,Sem.run_bind,hrun,Result.andThen_ok]
   rfl
 ·rcases hp with ⟨rfl,rfl,hz,hl⟩|⟨key,x,kl,M',cnt',rfl,rfl,q1,q2,q4,q5,q6,q7⟩
  ·exact h0 hz hl
  ·exact h key x kl M' cnt' q1 q2 q4 q5 q6 q7
theorem op_entry {pos:_} {aft:_} {g:_} {key v:Value} (s:NxF P n l E L Ls ⟨some d,.entry it,ty,pos,aft,g⟩ X Y) (hi:ev l it=some (.pointer (some ⟨r,0,none⟩))) (hb:EntN P M r N b key v) (hM:M∈Ls) (hN:N∈Ls) (hn:Nat.ble (d+1) n=true) (h:At n ((d,.tuple #[key,v])::l) E L Y):At n l E L X:=by
 refine op_val s (fun a w hf hw=>?_) U hn h
 obtain⟨om,mo,h1,h2,hall⟩:=hb
 have hrun:=hall w (hw.sub M hM _ _ h1) (hw.sub N hN _ _ h2)
 simp only [execOp,hf.eval hi,Sem.run_bind,hrun,Result.andThen_ok]
 rfl
end
def quietR:Result Next→Prop
 |.ok (.enter _ _) _=>False
 |.ok (.row _ _) _=>False
 |_=>True
theorem upon_in {F:Fence} {n:Nat} {P:Program} {o:Oper} {a:Act} {K:Act→World→Prop} {Q:Exit→Act→World→Prop} {r:Result Next} (hq:quietR r) (h:o.upon P a K (fun _ _ _=>False) r):o.uponIn F n P a K Q r:=by
 cases r with
 |ok x w=>cases x<;>first|exact h|exact hq.elim|exact h.elim
 |halt s w=>cases s<;>first|exact h.elim|exact h
theorem quiet_v {P:Program} {w:World} (s:Sem Value):quietR ((do pure (.value (←s)):Sem Next).run P w):=by
 rw [Sem.run_bind]
 cases s.run P w<;>trivial
theorem quiet_u {P:Program} {w:World} (s:Sem Unit):quietR ((do s;pure .skip:Sem Next).run P w):=by
 rw [Sem.run_bind]
 cases s.run P w<;>trivial
structure QuietO (P:Program) (o:Oper):Prop where
 about: ∀w ρ,o.about P w ρ=none
 defer: ∀c,o.op≠.defer c
 run: ∀ρ w,quietR ((execOp ρ o).run P w)
section
variable {P : Program} {d : Option Nat} {ty t t' e : TypeId} {x y : Operand} {pos : _} {aft : _} {g : _}
theorem quiet_move:QuietO P ⟨d,.move x,ty,pos,aft,g⟩:=⟨fun _ _=>rfl,fun _ h=>(by cases h),fun ρ w=>by simp only [execOp,Sem.run_pure];trivial⟩
theorem quiet_alloc:QuietO P ⟨d,.alloc t,ty,pos,aft,g⟩:=⟨fun _ _=>rfl,fun _ h=>(by cases h),fun ρ w=>quiet_v _⟩
theorem quiet_load:QuietO P ⟨d,.load t x,ty,pos,aft,g⟩:=⟨fun _ _=>rfl,fun _ h=>(by cases h),fun ρ w=>quiet_v _⟩
theorem quiet_store:QuietO P ⟨d,.store t x y,ty,pos,aft,g⟩:=⟨fun _ _=>rfl,fun _ h=>(by cases h),fun ρ w=>quiet_u _⟩
theorem quiet_buildSlice {m:Nat} {ps:Array (Nat×Operand)} :QuietO P ⟨d,.buildSlice t m ps,ty,pos,aft,g⟩:=⟨fun _ _=>rfl,fun _ h=>(by cases h),fun ρ w=>quiet_v _⟩
theorem quiet_not:QuietO P ⟨d,.unOp .not t x,ty,pos,aft,g⟩:=⟨fun _ _=>rfl,fun _ h=>(by cases h),fun ρ w=>quiet_v _⟩
theorem quiet_append {xs:Array Operand} {ats:Array TypeId} :QuietO P ⟨d,.call ⟨.builtin .append,xs,ats⟩,ty,pos,aft,g⟩:=⟨fun w ρ=>by
 simp [Oper.about,resolve,Target.leads],fun _ h=>(by cases h),fun ρ w=>by
 simp only [execOp,resolve,Sem.run_bind,Sem.run_pure,Result.andThen_ok,invoke,builtin]
 cases (Builtin.append_ ats ty (Array.map ρ xs)).run P w<;>trivial⟩
end
section
variable {F : Fence} {m : Nat} {P : Program} {n : Nat} {l : List (Nat × Value)} {E : World} {L L1 Ls : List Heaplet} {Q : Exit → Act → World → Prop} {ops : Array Oper} {rest : List Oper} {o : Oper} {X Y : Act → World → Prop}
theorem nxi (hg:o.guard=none) (hq:QuietO P o):Nx P n l E L o (wpListIn F m P ops Q (o::rest)) (wpListIn F m P ops Q rest):=fun a w _ _ hx=>
 wpListIn_plain hg fun K hK=>⟨fun f hf=>(by rw [hq.about]at hf;cases hf),by
  rw [Oper.semAt_plain F _ _ hq.defer]
  exact upon_in (hq.run _ _) (Oper.wp_mono hK hx)⟩
theorem nxif (hg:o.guard=none) (hq:QuietO P o):NxF P n l E L L o (wpListIn F m P ops Q (o::rest)) (wpListIn F m P ops Q rest):=(nxi hg hq).float
theorem nxia (hg:o.guard=none) (hq:QuietO P o):NxA P n l E L o (wpListIn F m P ops Q (o::rest)) (wpListIn F m P ops Q rest):=(nxi hg hq).agree
theorem At.opsNilI (h:At n l E L (Q .normal)):At n l E L (wpListIn F m P ops Q []):=h
theorem At.regionI {id:Nat} {ops:List Oper} (h:At n l E L (wpListIn Fence.wide 0 P ops.toArray Q ops)):At n l E L ((Code.region id ops.toArray false).wp P Q):=fun a w hf hw=>wpIn_wide.1 (wpIn_region_lit (h a w hf hw))
theorem At.regionF {id:Nat} {ops:List Oper} (h:At n l E L (wpListIn F m P ops.toArray Q ops)):At n l E L (fun a w=>(Code.region id ops.toArray false).wpIn F m P Q a w):=fun a w hf hw=>wpIn_region_lit (h a w hf hw)
def RndY (P:Program) (l:Nat) (v:Value) (N0:Heaplet) (Post:Heaplet→Prop):Prop:=
 ∀(E w:World) (R:Heaplet),Hp E [N0,R] w→YieldAt Fence.wide 0 P l #[v] w fun e w'=>e=.returned (.bool true)∧ ∃N',Post N'∧Hp E [N',R] w'
theorem op_yield {d ly:Nat} {ty:TypeId} {x y:Operand} {v:Value} {ats:Array TypeId} {pos:_} {aft:_} {N0:Heaplet} {Post:Heaplet→Prop} (hx:ev l x=some (.func (.yield ly) #[] #[])) (hy:ev l y=some v) (hr:RndY P ly v N0 Post) (hL:L.Perm (N0::L1)) (hn:Nat.ble (d+1) n=true)
 (h: ∀N',Post N'→At n ((d,.bool true)::l) E (N'::L1) (wpListIn Fence.wide 0 P ops Q rest)):At n l E L (wpListIn Fence.wide 0 P ops Q (⟨some d,.call ⟨.value x, #[y],ats⟩,ty,pos,aft,none⟩::rest)):=fun a w hf hw=>by
 have hw2:=hw.perm hL
 have hsep:=List.pairwise_cons.1 hw2.sep
 let R:Heaplet:=fun k=>if N0 k≠none then none else w.heap[k]?
 have hRw:R.le (whole w):=fun k o hk=>by
  simp only [R]at hk
  split at hk
  ·cases hk
  ·exact hk
 have hFR: ∀N∈L1,N.le R:=fun N hN k o hk=>by
  have hno: ¬N0 k≠none:=fun hMk=>by
   rcases hsep.1 N hN k with h|h
   ·exact hMk h
   ·rw [hk]at h;cases h
  simp only [R,if_neg hno]
  exact hw2.sub N (List.mem_cons_of_mem _ hN) k o hk
 have hwR:Hp E [N0,R] w:=by
  refine⟨hw.os,hw.tape,hw.output,fun N hN=>?_,?_⟩
  ·rcases List.mem_cons.1 hN with rfl|hN
   ·exact hw2.sub _ (List.mem_cons_self ..)
   ·simp at hN;subst hN;exact hRw
  ·refine List.pairwise_cons.2 ⟨fun B hB k=>?_,by simp⟩
   simp at hB;subst hB
   by_cases hAk:N0 k=none
   ·exact .inl hAk
   ·exact .inr (if_pos hAk)
 obtain⟨fn,tmps,asg,bd,hyl,hR⟩:=hr E w R hwR
 refine wpListIn_plain U fun K hK=>⟨fun f _=>trivial,?_⟩
 rw [Oper.semAt_plain Fence.wide _ _ (fun c h=>by cases h)]
 have hrun:(execOp a.eval ⟨some d,.call ⟨.value x, #[y],ats⟩,ty,pos,aft,none⟩).run P w=.ok (.round ly fn tmps asg bd) w:=by
  simp only [execOp,resolve,invoke,Sem.run_bind,Sem.run_pure,Result.andThen_ok,List.map_toArray,List.map_cons,List.map_nil,hf.eval hx,hf.eval hy,Deferred.ofValue,Array.empty_append,Array.append_empty,hyl]
 rw [hrun]
 refine⟨fun h=>(by cases h),hR.mono ?_⟩
 rintro e w' ⟨rfl,N',hP,hw'⟩
 refine hK _ _ (h N' hP _ _ (hf.put (Nat.le_of_ble_eq_true hn)) ?_)
 exact Hp.refine (L:= [N']) hw' hFR hsep.2
def SeqG {α:Type} (P:Program) (g:Nat) (lb:Array Value) (enc:α→Value) (ok:α→Prop) (S:List α→Prop) (mx:Nat) (Lr:List Heaplet):Prop:=
 ∀(l:Nat) (NI:List α→Heaplet→Prop) (N0:Heaplet),(∀pre x N,ok x→NI pre N→pre.length<mx→RndY P l (enc x) N (NI (pre++ [x])))→NI [] N0→
  Fn P g (#[.func (.yield l) #[] #[]]++lb) [N0] Lr (fun _ L=> ∃xs N,L= [N]∧S xs∧NI xs N)
end
end Go.Proofs.YtalmjkcapecpiaaGreat
