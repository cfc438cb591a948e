/- Several texts in one: see the remarks ahead of each part. No condition but those told there. -/
import Derived.Test.YtdpjbefeabokgaaGreatU17
import Derived.Test.YtdpjbefeabokgaaGreatU18
import Derived.Test.YtdpjbefeabokgaaGreatU15
set_option linter.unusedSimpArgs false
set_option linter.unusedVariables false
/- Layer 12: proofs whose forms have memory of their own; byte strings kept that stay readable. Conditions: up to 1000000 keys. -/
namespace Go.Proofs.YtdpjbefeabokgaaGreat
open Go Go.RowKit
set_option maxRecDepth 100000
def ProveO (fs:List (List UInt8)) (v:Value) (L:List Heaplet):Prop:= ∃No Nb a c us,v=.slice a fs.length c∧L= [No,Nb]∧RSl No 1 a fs.length c us∧Bag 5 Nb us fs
theorem bag_single {N:Heaplet} {a:Option Addr} {c:Nat} {g:List UInt8} (h:Row N 5 1 a g.length c (u8s g)):Bag 5 N [.slice a g.length c] [g]:=by
 have:=(Bag.nil 5 nilH).snoc h (fun k=>.inr rfl)
 rw [join_nil]at this
 exact this
section
variable {Nt K : Heaplet} {bt c : Nat} {R0 : List PR} {ka : Option Addr} {kn kc : Nat} {k : List UInt8}
set_option maxHeartbeats 1000000 in
theorem FProveO (hT:TrieN Nt bt c R0) (hl:R0.length≤1000000) (hk:RSl K 1 ka kn kc (u8s k)) (hkn:kn≤1000000):Fn Tryz.prog 13 #[.pointer (some ⟨bt,0,none⟩),.slice ka kn kc] [] [Nt,K] (ProveO (provM R0 k)):=by
 have hkl:=hk.len8
 have hD:Dis R0:=by obtain⟨_,_,_,_,_,hG⟩:=hT;exact hG.dis
 refine Fn.enter (vs:= [.pointer (some ⟨bt,0,none⟩),.slice ka kn kc]) Tryz.func13 rfl rfl rfl ?_
 intro E R hR
 have hT:=hT.le (hR Nt (by simp))
 have hk:=hk.le (hR K (by simp))
 change At _ _ E [R] _
 refine At.seq fun _ s_1=>At.region (aE (aD rfl) rfl rfl (aA (aB (s_1 (At.seq fun _ s_2=>At.region (aC (aD rfl) rfl rfl (aJ (bA rfl) (.cons rfl .nil) (FPairs hT hl) Tryz.func40 rfl rfl (by simp) rfl ?_)))))))
 rintro v13 L13 ⟨NA,a13,c13,xs,S,rfl,rfl,pS,hP0⟩
 change At _ _ _ [NA,R] _
 refine aC (aD rfl) rfl rfl (aJ (bA rfl) (.cons rfl .nil) (FNibs hk (by omega)) Tryz.func41 rfl rfl (by simp) rfl ?_)
 rintro v15 L15 ⟨NB,a15,c15,rfl,rfl,r15⟩
 change At _ _ _ [NB,NA,R] _
 refine aE (aD rfl) rfl rfl (aE (aD rfl) rfl rfl (aA (aB (s_2 (At.seq fun _ s_3=>At.region (aC (aD rfl) rfl rfl (aJ (bA rfl) (.cons rfl .nil) (FForm hP0) Tryz.func42 rfl rfl (by simp) rfl ?_)))))))
 rintro v17 L17 ⟨N17,a17,c17,rfl,rfl,r17⟩
 change At _ _ _ [N17,NB,NA,R] _
 refine op_lit (bA rfl) Tryz.underlying22 ze23 sz23 (.cons rfl .nil) rfl rfl (by simp [Value.cells]) rfl rfl rfl (fun N18 a18 r18=>?_)
 simp only [flatV,List.flatMap_cons,List.flatMap_nil,Value.cells,List.append_nil,List.cons_append,List.nil_append]at r18
 have s18:=r18.rsl
 refine aE (aD rfl) rfl rfl (aA (aB (s_3 (At.block (At.perm sel4 (At.perm sel3 (At.perm sel4 (At.perm sel4 (At.perm sel4 (At.loop (fun fr_ hp_ ms_=> ∃(g:Nat) (l:List PR) (xs:List PV) (a:Option Addr) (cp:Nat) (row:List UInt8) (rb:Option Addr) (rn rd:Nat) (out:List (List UInt8)) (us:List Value) (ao:Option Addr) (on oc:Nat) (No NJ W:Heaplet),fr_= [(5,.slice a xs.length cp),(6,.slice rb rn rd),(7,.slice ao on oc)]∧hp_= [No,NJ,W,NB,R]∧g=ms_∧(PsL [W,R] (g+1) l xs a xs.length cp)∧(RSl NB 1 rb rn rd (u8s row))∧(Row No 23 1 ao on oc us)∧(on=out.length)∧(Bag 5 NJ us out)∧(out.length+g≤81)∧(out++proveF (g+1) l row=provM R0 k)) ?_ (.refl _) ⟨80,prs S,xs,a13,c13,nibs k,a15,_,c15,[(nodeF 81 (prs S)).form],_,a18,_,_,N18,N17,NA,rfl,rfl,rfl,hP0,r15.rsl,r18,rfl,bag_single r17,by simp,prov_perm hD pS⟩ ?_))))))))))
 ·exact .cons (by first|exact aP rfl (by omega)|rfl) (.cons (by first|exact aP rfl (by omega)|rfl) (.cons (by first|exact aP rfl (by omega)|rfl) .nil))
 rintro _ _ _ ⟨g,l,xs,a,cp,row,rb,rn,rd,out,us,ao,on,oc,No,NJ,W,rfl,rfl,rfl,hPs,hrow,ho,hon,hB,hog,hall⟩
 refine At.block (At.seq fun _ s_4=>At.region (aC (aD rfl) rfl rfl (aC (aD rfl) rfl rfl (aJ (bA rfl) (.cons rfl (.cons rfl .nil)) (FStep [W,R] NB l xs a rb _ cp rn rd row hPs hrow) Tryz.func43 rfl rfl (by simp) rfl ?_))))
 rintro v22 L22 (⟨m,r,ys,Q,a2,b2,c2,d2,hst,rfl,rfl,hq,hr2,hfm⟩|⟨v1,v2,Q,hst,rfl,rfl⟩)
 ·change At _ _ _ [Q,No,NJ,W,NB,R] _
  obtain⟨g2,rfl⟩:=depth_pos (step_ne hst) hfm
  refine aC (aD rfl) rfl rfl (aS (aD rfl) rfl rfl rfl (aS (aD rfl) rfl rfl rfl (aS (aD rfl) rfl rfl rfl (aE (aD rfl) rfl rfl (aE (aD rfl) rfl rfl (aE (aD rfl) rfl rfl (aA (aB (s_4 (At.seq fun _ s_5=>At.seq fun _ s_6=>At.region (aC (aD rfl) rfl rfl (op_not (aD rfl) rfl rfl (aA (aB (s_6 (At.condB rfl (fun c27=>?_) (fun c27=>?_)))))))))))))))))
  ·simp at c27
  refine At.skip (aB (s_5 (At.seq fun _ s_7=>At.seq fun _ s_8=>At.region (aC (aD rfl) rfl rfl (aJ (bA rfl) (.cons rfl .nil) (FForm hq) Tryz.func42 rfl rfl (by simp) rfl ?_)))))
  rintro v30 L30 ⟨N30,a30,c30,rfl,rfl,r30⟩
  change At _ _ _ [N30,Q,No,NJ,W,NB,R] _
  refine aE (aD rfl) rfl rfl (aA (aB (s_8 (At.seq fun _ s_9=>At.region (aC (aD rfl) rfl rfl (aU (aD rfl) se23 rfl rfl (op_geq (aD rfl) rfl rfl rfl (aA (aB (s_9 (aK rfl (fun c33=>?_) (fun c33=>?_))))))))))))
  ·refine At.region (aC (aD rfl) rfl rfl (aC (aD rfl) rfl rfl (op_lit (bA rfl) Tryz.underlying22 ze23 sz23 (.cons rfl .nil) rfl rfl (by simp [Value.cells]) rfl rfl rfl (fun N36 a36 r36=>?_))))
   simp only [flatV,List.flatMap_cons,List.flatMap_nil,Value.cells,List.append_nil,List.cons_append,List.nil_append]at r36
   have s36:=r36.rsl
   have hbk:=bags_one hB.bags
   refine bE (nxl rfl) Tryz.underlying22 Tryz.underlying22 te23 rfl rfl ho s36 (by first|exact aL|exact aZ|exact bB|exact bF|exact bG|exact bH|exact bL|exact bK|exact bJ|exact bM) (by intro u hu;simp at hu;subst hu;rfl) (by omega) (by omega) sel3 rfl (fun N37 a37 p37 r37=>?_)
   have s37:=r37.rsl
   refine aE (aD rfl) rfl rfl (aA (aB (s_7 (At.region (aC (aD rfl) rfl rfl (aC (aD rfl) rfl rfl (aE (aD rfl) rfl rfl (aE (aD rfl) rfl rfl (aA (aR (aB (At.perm sel7 (At.perm sel7 (At.perm bV (At.perm sel5 (At.perm sel5 (At.perm sel5 (At.perm bV (At.perm sel7 (At.mergeN (fun W2 W21 W22=>At.perm bV ?_)))))))))))))))))))))
   refine At.perm bV (At.perm sel4 (At.perm sel4 (At.perm sel4 (At.perm bV (At.perm bV (At.merge (fun h30=>At.sub (L':= [(join2 N30 NJ),W2,N37,NB,R]) (.cons_cons _ (.cons_cons _ (.cons_cons _ (.cons _ (.cons_cons _ (.cons_cons _ (.slnil))))))) (At.perm sel4 (At.perm sel4 (At.perm sel3 (At.perm sel3 (At.perm sel4 ?_))))))))))))
   refine bD ?_ (.refl _) ⟨g2,m,ys,a2,b2,r,c2,_,d2,_,_,_,_,_,N37,join2 N30 NJ,W2,rfl,rfl,rfl,psl_up hq W21 W22,hr2,r37,by simp [hon],hB.snoc r30 h30,by simp;omega,by rw [←hall_go hall hst,if_pos (by omega),List.append_assoc]⟩ ?_
   ·exact .cons (by first|exact aP rfl (by omega)|rfl) (.cons (by first|exact aP rfl (by omega)|rfl) (.cons (by first|exact aP rfl (by omega)|rfl) .nil))
   ·omega
  refine At.skip (aB (s_7 (At.region (aC (aD rfl) rfl rfl (aC (aD rfl) rfl rfl (aE (aD rfl) rfl rfl (aE (aD rfl) rfl rfl (aA (aR (aB (At.perm bV (At.perm bV (At.perm sel5 (At.perm sel5 (At.perm sel4 (At.perm sel5 (At.perm bV (At.mergeN (fun W2 W21 W22=>At.sub (L':= [W2,No,NJ,NB,R]) (.cons_cons _ (.cons _ (.cons_cons _ (.cons_cons _ (.cons_cons _ (.cons_cons _ (.slnil))))))) (At.perm sel4 (At.perm sel4 ?_)))))))))))))))))))))
  refine At.perm sel2 (At.perm sel4 (At.perm sel4 (bD ?_ (.refl _) ⟨g2,m,ys,a2,b2,r,c2,_,d2,out,us,ao,on,oc,No,NJ,W2,rfl,rfl,rfl,psl_up hq W21 W22,hr2,ho,hon,hB,by omega,by rw [←hall_go hall hst,if_neg (by omega),List.nil_append]⟩ ?_)))
  ·exact .cons (by first|exact aP rfl (by omega)|rfl) (.cons (by first|exact aP rfl (by omega)|rfl) (.cons (by first|exact aP rfl (by omega)|rfl) .nil))
  ·omega
 change At _ _ _ [Q,No,NJ,W,NB,R] _
 refine aC (aD rfl) rfl rfl (aS (aD rfl) rfl rfl rfl (aS (aD rfl) rfl rfl rfl (aS (aD rfl) rfl rfl rfl (aE (aD rfl) rfl rfl (aE (aD rfl) rfl rfl (aE (aD rfl) rfl rfl (aA (aB (s_4 (At.seq fun _ s_10=>At.seq fun _ s_11=>At.region (aC (aD rfl) rfl rfl (op_not (aD rfl) rfl rfl (aA (aB (s_11 (At.condB rfl (fun c27=>?_) (fun c27=>?_)))))))))))))))))
 rotate_left
 ·simp at c27
 refine At.seq fun _ s_12=>At.region (aC (aD rfl) rfl rfl (aE (aD rfl) rfl rfl (aA (aB (s_12 (At.ret (aM (At.inRet (aM (At.inRet ((At.sub (L':= [No,NJ,R]) (.cons _ (.cons_cons _ (.cons_cons _ (.cons _ (.cons _ (.cons_cons _ (.slnil))))))) (aW (L1:= [No,NJ]) rfl (.tmp rfl .nil) (.refl _) (.refl _) ?_)))))))))))))
 have hend:=hall_end hall hst
 rw [←hend]
 exact⟨No,NJ,ao,oc,us,by rw [hon],rfl,by rw [←hon];exact ho.rsl,hB⟩
end
section
variable {N : Heaplet} {ao : Option Addr} {n cap : Nat} {us : List Value} {vs : List (List UInt8)}
theorem FTwinsB (h:RSl N 1 ao n cap us) (hb:Bags N us vs) (hn:n≤1000000) (hv: ∀v∈vs,v.length≤2000000):Fn Tryz.prog 9 #[.slice ao n cap] [] [N] (fun v L=> ∃Q a c us',v=.slice a n c∧L= [Q]∧RSl Q 1 a n c us'∧Bags Q us' vs):=by
 have hlen:n=vs.length:=by rw [←hb.len];have:=h.1;omega
 refine Fn.enter (vs:= [.slice ao n cap]) Tryz.func9 rfl rfl rfl ?_
 intro E R hR
 have h:=h.le (hR N (by simp))
 have hb:=hb.le (hR N (by simp))
 change At _ _ E [R] _
 refine At.seq fun _ s_1=>At.region (aE (aD rfl) rfl rfl (aA (aB (s_1 (At.seq fun _ s_2=>At.region (aE (aD rfl) rfl rfl (aA (aB (s_2 (At.seq fun _ s_3=>At.seq fun _ s_4=>At.region (aE (aD rfl) rfl rfl (aA (aB (s_4 (At.block (At.empty (At.empty (At.perm sel2 (At.perm sel1 ?_)))))))))))))))))))
 refine At.perm sel2 (At.loop (fun fr_ hp_ ms_=> ∃(i cq:Nat) (a:Option Addr) (us':List Value) (Na NJ:Heaplet),fr_= [(0,.slice ao n cap),(3,.slice a i cq),(4,.int .i64 (i:Int))]∧hp_= [Na,NJ,R]∧n- i=ms_∧(i≤n)∧(Row Na 23 1 a i cq us')∧(Bags NJ us' (vs.take i))) ?_ (.refl _) ⟨0,0,none,[],nilH,nilH,rfl,rfl,rfl,Nat.zero_le _,Row.nil _ _ _,Bags.nil _⟩ ?_)
 ·exact .cons (by first|exact aP rfl (by omega)|rfl) (.cons (by first|exact aP rfl (by omega)|rfl) (.cons (by first|exact aP rfl (by omega)|rfl) .nil))
 rintro _ _ _ ⟨i,cq,a,us',Na,NJ,rfl,rfl,rfl,hi,ra,hB⟩
 refine At.seq fun _ s_5=>At.seq fun _ s_6=>At.region (aC (aD rfl) rfl rfl (aC (aD rfl) rfl rfl (aU (aD rfl) se22 rfl rfl (op_lss (aD rfl) rfl rfl rfl (aA (aB (s_6 (aK rfl (fun c8=>?_) (fun c8=>?_)))))))))
 ·obtain⟨v,hx⟩: ∃y,vs[i]? =some y:=⟨_,List.getElem?_eq_getElem (by omega)⟩
  obtain⟨va,vc,hu1,hvr⟩:=hb.rsl i v hx
  have hos:=h.isSome (by omega)
  have hvc:=hvr.cap63
  have hvl:=hv v (List.mem_of_getElem? hx)
  have hbk:=bags_one hB
  refine At.skip (aB (s_5 (At.seq fun _ s_7=>At.block (At.region (aC (aD rfl) rfl rfl (op_lit (bA rfl) Tryz.underlying23 ze5 sz5 .nil rfl rfl (by simp [Value.cells]) rfl rfl rfl (fun N12 a12 r12=>?_)))))))
  simp only [flatV,List.flatMap_cons,List.flatMap_nil,Value.cells,List.append_nil,List.cons_append,List.nil_append]at r12
  have s12:=r12.rsl
  refine aC (aD rfl) rfl rfl (aC (aD rfl) rfl rfl (bI (aD rfl) se22 rfl rfl h (show _=(((i:Nat)):Int)from by omega) (by omega) rfl ?_))
  refine aT (aD rfl) sc23 rfl h (by first|exact get8 (by omega)|exact bT (by omega)|exact bU (by omega)|exact hu1) (by first|exact aL|exact aZ|exact bB|exact bF|exact bG|exact bH|exact bL|exact bK|exact bJ|exact bM) rfl ?_
  refine bE (nxl rfl) Tryz.underlying23 Tryz.underlying23 te5 rfl rfl r12 hvr (by first|exact aL|exact aZ|exact bB|exact bF|exact bG|exact bH|exact bL|exact bK|exact bJ|exact bM) (by first|exact one_u8s _|exact one_u64s _|exact one_u32s _|(intro u hu;simp at hu;subst hu;rfl)) (by omega) (by omega) sel0 rfl (fun N17 a17 p17 r17=>?_)
  have s17:=r17.rsl
  refine op_lit (bA rfl) Tryz.underlying22 ze23 sz23 (.cons rfl .nil) rfl rfl (by simp [Value.cells]) rfl rfl rfl (fun N18 a18 r18=>?_)
  simp only [flatV,List.flatMap_cons,List.flatMap_nil,Value.cells,List.append_nil,List.cons_append,List.nil_append]at r18
  have s18:=r18.rsl
  change Row N18 _ 1 a18 1 1 [.slice a17 (0+v.length) p17]at r18
  have s18:=r18.rsl
  refine bE (nxl rfl) Tryz.underlying22 Tryz.underlying22 te23 rfl rfl ra s18 (by first|exact aL|exact aZ|exact bB|exact bF|exact bG|exact bH|exact bL|exact bK|exact bJ|exact bM) (by intro u hu;simp at hu;subst hu;rfl) (by omega) (by omega) sel2 rfl (fun N19 a19 p19 r19=>?_)
  have s19:=r19.rsl
  refine aE (aD rfl) rfl rfl (aA ?_)
  rw [Nat.zero_add]at r17 r19
  refine aR (aB (s_7 (At.region (aC (aD rfl) rfl rfl (aV (aD rfl) rfl rfl (by omega) (by omega) rfl (aE (aD rfl) rfl rfl (aA (aB (At.perm sel4 (At.perm sel2 (At.perm sel2 (At.perm sel3 (At.perm sel4 (At.mergeN (fun J J1 J2=>At.sub (L':= [J,N19,R]) (.cons_cons _ (.cons_cons _ (.cons _ (.cons_cons _ (.slnil))))) (At.perm sel2 (At.perm sel1 (At.perm sel2 ?_))))))))))))))))))
  refine bD ?_ (.refl _) ⟨i+1,p19,a19,_,N19,J,rfl,rfl,rfl,by omega,r19,by rw [take_next1 hx];exact(hB.le J1).one (r17.rsl.le J2)⟩ ?_
  ·exact .cons (by first|exact aP rfl (by omega)|rfl) (.cons (by first|exact aP rfl (by omega)|rfl) (.cons (by first|exact aP rfl (by omega)|rfl) .nil))
  ·omega
 refine At.exit (aG (aG (bC (aB (s_3 (At.seq fun _ s_8=>At.region (aC (aD rfl) rfl rfl (aE (aD rfl) rfl rfl (aA (aB (s_8 (At.ret ((At.mergeN (fun Q Q1 Q2=>aW (L1:= [Q]) rfl (.tmp rfl .nil) (.refl _) (.refl _) ?_)))))))))))))))
 have hin:i=n:=by omega
 rw [hin]at ra hB⊢
 rw [hlen,List.take_length]at hB
 exact⟨Q,a,cq,us',rfl,rfl,ra.rsl.le Q1,hB.le Q2⟩
end
set_option maxRecDepth 100000 in
theorem BookBytes_m {b0:Nat} {N0 NF NW NK NI M:Heaplet} {xs:List (List UInt8)} {ao:Option Addr} {n cap:Nat} {l:List UInt8} (h:BookO b0 N0 NF NW NK NI xs) (hr:Row M 5 1 ao n cap (u8s l)) (hn:n≤1099511627776):
 Fn Tryz.prog 29 #[.pointer (some ⟨b0,0,none⟩),.slice ao n cap] [N0,NF,NW,NK,NI,M] [] (fun v L=>v=.tuple #[]∧ ∃N0' NF' NW' NK' xs',L= [N0',NF',NW',NK',join2 M NI]∧Apart M NI∧BookO b0 N0' NF' NW' NK' (join2 M NI) xs'):=by
 obtain⟨e0,pf,cf,pw,cw,vf,vw,q,B0,rF,rW,hI,hK,hq1,hq2,hb⟩:=h
 have hs:=hr.rsl
 have hlen:=hs.len8
 have hcap:=hs.cap63
 have hcf:=rF.rsl.cap63
 have hcw:=rW.rsl.cap63
 subst hlen
 refine Fn.enter (vs:= [.pointer (some ⟨b0,0,none⟩),.slice ao l.length cap]) Tryz.func29 rfl rfl rfl ?_
 intro E R hR
 change At _ _ E [N0,NF,NW,NK,NI,M,R] _
 refine At.seq fun _ s_1=>At.seq fun _ s_2=>At.region (aC (aD rfl) rfl rfl (op_call (nxl rfl) (.cons rfl .nil) (BookFull_f B0) (F:= [NF,NW,NK,NI,M,R]) Tryz.func55 rfl rfl (.refl _) (by simp) rfl ?_))
 rintro v5 L5 ⟨rfl,rfl⟩
 change At _ _ _ [N0,NF,NW,NK,NI,M,R] _
 skip
 refine aA (aB (s_2 (aK rfl (fun c5=>?_) (fun c5=>?_))))
 ·refine At.ret (aM ((At.perm bV (At.perm sel4 (At.perm sel4 (At.perm sel4 (At.perm sel4 (At.perm sel5 (At.perm bV (At.merge (fun h10=>At.perm sel5 (At.perm sel1 (At.perm sel5 (At.perm sel5 (At.perm sel5 (At.perm sel5 (bP (L1:= [N0,NF,NW,NK,(join2 M NI)]) rfl .nil rfl (.refl _) (.refl _) ?_)))))))))))))))))
  have hI:=hI.le (join2_right h10)
  exact⟨rfl,N0,NF,NW,NK,xs,rfl,h10,e0,pf,cf,pw,cw,vf,vw,q,B0,rF,rW,hI,hK,hq1,hq2,hb⟩
 refine At.skip (aB (s_1 (At.seq fun _ s_3=>At.region (aC (aD rfl) rfl rfl (aC (aD rfl) rfl rfl (aQ (aD rfl) rfl rfl (aF (aD rfl) fl58_4 rfl rfl (aI (aD rfl) sc3 rfl B0 (by first|rfl) aL rfl ?_))))))))
 refine aC (aD rfl) rfl rfl (aU (aD rfl) se23 rfl rfl (aV (aD rfl) rfl rfl (by omega) (by omega) rfl (aV (aD rfl) rfl rfl (by omega) (by omega) rfl (aQ (aD rfl) rfl rfl (aF (aD rfl) fl58_4 rfl rfl (aO (nxl rfl) sz3 rfl rfl rfl rfl rfl B0 (by simp) sel0 (fun N0 B0=>?_)))))))
 simp only [setL,List.set]at B0
 refine aA (aB (s_3 (At.seq fun _ s_4=>At.region (aC (aD rfl) rfl rfl (aC (aD rfl) rfl rfl (aQ (aD rfl) rfl rfl (aF (aD rfl) fl58_0 rfl rfl (aI (aD rfl) sc22 rfl B0 (by first|rfl) aL rfl ?_))))))))
 refine aC (aD rfl) rfl rfl (op_lit (bA rfl) Tryz.underlying22 ze23 sz23 (.cons rfl .nil) rfl rfl (by simp [Value.cells]) rfl rfl rfl (fun N23 a23 r23=>?_))
 simp only [flatV,List.flatMap_cons,List.flatMap_nil,Value.cells,List.append_nil,List.cons_append,List.nil_append]at r23
 have s23:=r23.rsl
 refine bE (nxl rfl) Tryz.underlying22 Tryz.underlying22 te23 rfl rfl rF s23 (by first|exact aL|exact aZ|exact bB|exact bF|exact bG|exact bH|exact bL|exact bK|exact bJ|exact bM) (by first|exact one_u8s _|exact one_u64s _|exact one_u32s _|(intro u hu;simp at hu;subst hu;rfl)) (by omega) (by omega) sel2 rfl (fun N24 a24 p24 r24=>?_)
 have s24:=r24.rsl
 refine aQ (aD rfl) rfl rfl (aF (aD rfl) fl58_0 rfl rfl (aO (nxl rfl) sz22 rfl rfl rfl rfl rfl B0 (by simp) sel2 (fun N0 B0=>?_)))
 simp only [setL,List.set]at B0
 refine aA (aB (s_4 (At.perm sel7 (At.perm sel7 (At.perm sel2 (At.perm sel7 (At.perm sel7 (At.perm sel7 (At.perm sel7 (At.perm sel7 (At.drawnS [N0,M,R] [9,12] [0,1,6] [0,1,2,3,4,6,5,7,8,9,10,11,12] (by kernel_rfl) (by kernel_rfl) (.cons _ (.cons _ (.cons _ (.cons _ (.cons _ (.refl _)))))) (aC (aX rfl rfl rfl) rfl rfl (aC (aX rfl rfl rfl) rfl rfl (aQ (aX rfl rfl rfl) rfl rfl (aF (aX rfl rfl rfl) fl58_1 rfl rfl (aI (aX rfl rfl rfl) sc22 rfl B0 (by first|rfl) aL rfl ?_))))))))))))))))
 refine aC (aX rfl rfl rfl) rfl rfl (op_lit (Nx.agree (nxsm rfl rfl rfl)) Tryz.underlying23 ze5 sz5 .nil rfl rfl (by simp [Value.cells]) rfl rfl rfl (fun N32 a32 r32=>?_))
 simp only [flatV,List.flatMap_cons,List.flatMap_nil,Value.cells,List.append_nil,List.cons_append,List.nil_append]at r32
 have s32:=r32.rsl
 refine At.moreS (Lst:= [N0,M,R]) (Lst':= [N0,M,R]) (.refl _) (.cons _ (.cons _ (.cons _ (.cons _ (.cons _ (.cons _ (.refl _))))))) ?_
 refine bE (nxsm rfl rfl rfl) Tryz.underlying23 Tryz.underlying23 te5 rfl rfl r32 hs (by first|exact aL|exact aZ|exact bB|exact bF|exact bG|exact bH|exact bL|exact bK|exact bJ|exact bM) (by first|exact one_u8s _|exact one_u64s _|exact one_u32s _|(intro u hu;simp at hu;subst hu;rfl)) (by omega) (by omega) sel0 rfl (fun N34 a34 p34 r34=>?_)
 have s34:=r34.rsl
 refine At.perm sel8 (At.perm sel8 (At.perm sel8 (At.perm sel3 (At.perm sel8 (At.perm sel8 (At.perm sel8 (At.perm sel8 (At.perm sel8 (At.moreS (Lst:= [N0,M,R]) (Lst':= [N34,N0,M,R]) (.cons _ (.refl _)) (.cons _ (.cons _ (.cons _ (.cons _ (.cons _ (.refl _)))))) ?_)))))))))
 rw [List.nil_append,Nat.zero_add]at r34
 have s34:=r34.rsl
 rw [Nat.zero_add]
 refine op_lit (Nx.agree (nxsm rfl rfl rfl)) Tryz.underlying22 ze23 sz23 (.cons rfl .nil) rfl rfl (by simp [Value.cells]) rfl rfl rfl (fun N35 a35 r35=>?_)
 simp only [flatV,List.flatMap_cons,List.flatMap_nil,Value.cells,List.append_nil,List.cons_append,List.nil_append]at r35
 have s35:=r35.rsl
 refine At.perm sel9 (At.perm sel9 (At.perm sel9 (At.perm sel9 (At.perm sel4 (At.perm sel9 (At.perm sel9 (At.perm sel9 (At.perm sel9 (At.perm sel9 (At.moreS (Lst:= [N34,N0,M,R]) (Lst':= [N35,N34,N0,M,R]) (.cons _ (.refl _)) (.cons _ (.cons _ (.cons _ (.cons _ (.cons _ (.refl _)))))) ?_))))))))))
 refine bE (nxss rfl rfl rfl rfl) Tryz.underlying22 Tryz.underlying22 te23 rfl rfl rW s35 (by first|exact aL|exact aZ|exact bB|exact bF|exact bG|exact bH|exact bL|exact bK|exact bJ|exact bM) (by first|exact one_u8s _|exact one_u64s _|exact one_u32s _|(intro u hu;simp at hu;subst hu;rfl)) (by omega) (by omega) sel2 rfl (fun N36 a36 p36 r36=>?_)
 have s36:=r36.rsl
 refine At.anyS (.refl _) (aQ (aX rfl rfl rfl) rfl rfl (aF (aX rfl rfl rfl) fl58_1 rfl rfl (aO (nxsl rfl rfl rfl rfl) sz22 rfl rfl rfl rfl rfl B0 (by simp) sel7 (fun N0 B0=>?_))))
 simp only [setL,List.set]at B0
 refine At.sNil (At.perm sel9 (At.perm sel8 (At.perm sel8 (At.perm sel7 (At.perm sel7 (At.perm sel7 (At.perm sel7 (At.perm sel7 (At.perm sel8 (At.perm sel9 (At.merge (fun h10=>At.perm sel8 (At.perm sel7 (At.perm bV (At.perm bV (At.perm bV (At.perm bV (At.perm bV (At.perm sel7 (At.perm sel8 ?_))))))))))))))))))))
 refine At.merge (fun h28=>At.sub (L':= [(join2 N34 NK),(join2 M NI),N0,N36,N24,R]) (.cons_cons _ (.cons_cons _ (.cons_cons _ (.cons_cons _ (.cons_cons _ (.cons _ (.cons _ (.cons_cons _ (.slnil))))))))) (At.perm sel5 (At.perm sel2 (At.perm sel2 (At.perm sel4 (At.perm sel5 (At.perm sel5 (At.retNE (L1:= [N0,N24,N36,(join2 N34 NK),(join2 M NI)]) rfl .nil rfl (.refl _) (.refl _) ?_))))))))
 refine⟨rfl,N0,N24,N36,_,xs++ [l],rfl,h10,e0,a24,p24,a36,p36,_,_,q+l.length+1,?_,?_,?_,hI.snoc hr h10,hK.snoc s34 h28,by simp;omega,by omega,fun j x hx=>?_⟩
 ·simpa using B0
 ·simpa using r24
 ·simpa using r36
 ·rcases snoc_get hx with ⟨_,hx⟩|⟨_,rfl⟩
  ·exact hb j x hx
  ·exact hn
theorem BookBytes_k {b0:Nat} {NO NI M:Heaplet} {ao:Option Addr} {n cap:Nat} {l:List UInt8} (h:Book b0 NO NI) (hr:Row M 5 1 ao n cap (u8s l)) (hn:n≤1099511627776):
 Fn Tryz.prog 29 #[.pointer (some ⟨b0,0,none⟩),.slice ao n cap] [NO,NI,M] [] (fun v L=>v=.tuple #[]∧ ∃NO' NI',L= [NO',NI']∧Book b0 NO' NI'∧NI.le NI'∧RSl NI' 1 ao n cap (u8s l)):=by
 obtain⟨N0,NF,NW,NK,fs,h1,rfl,h3⟩:=h
 refine Fn.pack (As:= [N0,NF,NW,NK]) (L0:= [NI,M]) h1 (BookBytes_m h3 hr hn) ?_
 rintro v L ⟨rfl,N0',NF',NW',NK',xs',rfl,ha,hL⟩
 exact⟨[N0',NF',NW',NK'],[join2 M NI],rfl,fun hp=>⟨rfl,_,_,rfl,⟨N0',NF',NW',NK',xs',hp,rfl,hL⟩,join2_right ha,hr.rsl.le join2_left⟩⟩
end Go.Proofs.YtdpjbefeabokgaaGreat
/- Layer 12: what is handed in stays as it was, what is told is the caller's own: 'quarrylaw12.TrieOwn' answers true. No condition. -/
namespace Go.Proofs.YtdpjbefeabokgaaGreat
open Go Go.RowKit
set_option maxRecDepth 100000
theorem bag_consO {e:TypeId} {N:Heaplet} {vs:List Value} {xs:List (List UInt8)} {j:Nat} (h:Bag e N (vs.drop j) xs) (hj:j<vs.length): ∃p n c,vs[j]? =some (.slice p n c)∧Bag e N (.slice p n c::vs.drop (j+1)) xs:=by
 have hl:=h.len
 rw [List.drop_eq_getElem_cons hj]at h hl
 obtain⟨x,hx⟩: ∃x,xs[0]? =some x:=⟨_,List.getElem?_eq_getElem (by rw [←hl];simp only [List.length_cons];omega)⟩
 obtain⟨p,c,h1,_⟩:=h.row 0 x hx
 simp only [List.getElem?_cons_zero,Option.some.injEq]at h1
 rw [h1]at h
 exact⟨p,_,c,(List.getElem?_eq_getElem hj).trans (congrArg some h1),h⟩
theorem drop_cons9 {α:Type} {l q:List α} {j:Nat} {x:α} (h:l.drop j=x::q):l[j]? =some x∧q=l.drop (j+1):=by
 have h1:(l.drop j)[0]? =some x:=by rw [h];rfl
 rw [List.getElem?_drop]at h1
 refine⟨h1,?_⟩
 rw [←List.drop_drop,h];rfl
theorem get_small {R:List PR} (h:Good R) (k:List UInt8):((getR R k).getD []).length≤1000000:=by
 cases hg:getR R k with
 |none=>exact Nat.zero_le _
 |some v=>exact(h.val _ ((get_iff h.dis).1 hg)).2
theorem put_len9 {k v:List UInt8} {R:List PR} {i:Nat} (h:R.length≤i):(putM k v R).length≤i+1:=by
 have h1:(delM k R).length≤R.length:=List.length_filter_le _ _
 rw [putM]
 split
 ·omega
 ·rw [List.length_append,List.length_singleton];omega
section
variable {N K : Heaplet} {ao ka : Option Addr} {n cap kn kc : Nat} {xs : List OV} {k : List UInt8}
set_option maxHeartbeats 4000000 in
theorem TrieOwn_f (h:RSl N 4 ao n cap (opsC xs)) (hg:OpsN N xs) (hk:RSl K 1 ka kn kc (u8s k)):Fn Tryz.prog 6 #[.slice ao n cap,.slice ka kn kc] [] [N,K] (fun v L=>v=.bool true∧L= []):=by
 have hsz:=ne_of4 h
 have hc:=h.cap63
 obtain⟨kk,hkk⟩: ∃q,k.take 40=q:=⟨_,rfl⟩
 have hk40:kk.length≤40:=by rw [←hkk,List.length_take];omega
 refine Fn.enter (vs:= [.slice ao n cap,.slice ka kn kc]) Tryz.func6 rfl rfl rfl ?_
 intro E R hR
 have h:=h.le (hR N (by simp))
 have hg:=hg.le (hR N (by simp))
 have hk:=hk.le (hR K (by simp))
 change At _ _ E [R] _
 refine At.seq fun _ s_1=>At.region (aE (aD rfl) rfl rfl (aA (aB (s_1 (At.seq fun _ s_2=>At.region (aJ (bA rfl) .nil (FNew) Tryz.func22 rfl rfl (by simp) rfl ?_))))))
 rintro v19 L19 ⟨NT,bt,rfl,rfl,hT⟩
 change At _ _ _ [NT,R] _
 refine aE (aD rfl) rfl rfl (aA (aB (s_2 (At.seq fun _ s_3=>At.region (op_build (out:= [.slice none 0 0,.slice none 0 0]) (aD rfl) ze52 pl52 .nil rfl rfl (op_box (bA rfl) rfl rfl rfl (fun N21 b21 B21=>aE (aD rfl) rfl rfl (aA (aB (s_3 (At.seq fun _ s_4=>At.seq fun _ s_5=>At.region (aC (aD rfl) rfl rfl (op_eqPt (aD rfl) Tryz.underlying32 rfl rfl (aC (aD rfl) rfl rfl (aJ (nxga rfl rfl rfl rfl) .nil (TWakes) Tryz.func11 rfl rfl (by simp) rfl ?_)))))))))))))))
 rintro v25 L25 ⟨rfl,rfl⟩
 change At _ _ _ [N21,NT,R] _
 refine op_not (aY rfl rfl rfl rfl) rfl rfl (bR (aD rfl) rfl rfl rfl (aA (aB (s_5 (At.condF rfl (At.skip (aB (s_4 (At.seq fun _ s_6=>At.region (op_build (out:= [.slice none 0 0,.slice none 0 0]) (aD rfl) ze55 pl55 .nil rfl rfl (op_box (bA rfl) rfl rfl rfl (fun N29 b29 B29=>aE (aD rfl) rfl rfl (aA (aB (s_6 (At.seq fun _ s_7=>At.region (op_build (out:= [.slice none 0 0,.slice none 0 0,.slice none 0 0,.slice none 0 0,.int .i64 0]) (aD rfl) ze58 pl58 .nil rfl rfl (op_box (bA rfl) rfl rfl rfl (fun N31 b31 B31=>aE (aD rfl) rfl rfl (aA (aB (s_7 ?_))))))))))))))))))))))
 refine At.seq fun _ s_8=>At.meet (fun fr_ hp_=> ∃(R0:List PR) (c:Nat) (NT NQ NL NI:Heaplet) (m:Nat),fr_= [(0,.slice ao n cap),(1,.slice ka kn kc),(5,.pointer (some ⟨bt,0,none⟩)),(6,.pointer (some ⟨b21,0,none⟩)),(7,.pointer (some ⟨b29,0,none⟩)),(8,.pointer (some ⟨b31,0,none⟩))]∧hp_= [NT,NQ,NL,NI,N31,R]∧(TrieN NT bt c R0)∧(RefN NQ b21 R0)∧(R0.length≤60)∧(Loan b29 NL NI m)) ?_ (fun K8_ jk_8=>?_)
 rotate_left
 ·skip
  refine At.seq fun _ s_9=>At.region (aE (aD rfl) rfl rfl (aA (aB (s_9 (At.block ?_)))))
  have hL0:=Loan.start B29
  have hB0:=Book.start B31
  refine At.empty (At.perm sel5 (At.perm sel2 (At.perm sel2 (At.perm sel3 (At.perm sel4 (At.perm sel5 (At.loop (fun fr_ hp_ ms_=> ∃(i c:Nat) (R0:List PR) (NT NQ NL NI:Heaplet),fr_= [(0,.slice ao n cap),(1,.slice ka kn kc),(5,.pointer (some ⟨bt,0,none⟩)),(6,.pointer (some ⟨b21,0,none⟩)),(7,.pointer (some ⟨b29,0,none⟩)),(8,.pointer (some ⟨b31,0,none⟩)),(9,.int .i64 (i:Int))]∧hp_= [NT,NQ,NL,NI,N31,R]∧n- i=ms_∧(i≤60)∧(TrieN NT bt c R0)∧(c≤i)∧(RefN NQ b21 R0)∧(R0.length≤i)∧(Loan b29 NL NI (2*i))) ?_ (.refl _) ⟨0,0,[],NT,N21,N29,nilH,rfl,rfl,rfl,by omega,hT,Nat.le_refl _,RefN.start B21,Nat.le_refl _,hL0⟩ ?_)))))))
  ·exact .cons (by first|exact aP rfl (by omega)|rfl) (.cons (by first|exact aP rfl (by omega)|rfl) (.cons (by first|exact aP rfl (by omega)|rfl) (.cons (by first|exact aP rfl (by omega)|rfl) (.cons (by first|exact aP rfl (by omega)|rfl) (.cons (by first|exact aP rfl (by omega)|rfl) (.cons (by first|exact aP rfl (by omega)|rfl) .nil))))))
  rintro _ _ _ ⟨i,c,R0,NT,NQ,NL,NI,rfl,rfl,rfl,hi,hT,hc2,hQ,hl0,hL⟩
  refine At.seq fun _ s_10=>At.seq fun _ s_11=>At.region (aC (aD rfl) rfl rfl (aC (aD rfl) rfl rfl (aU (aD rfl) se31 rfl rfl (op_lss (aD rfl) rfl rfl rfl (aC (aD rfl) rfl rfl (At.partP (d:=36) rfl (fun g36=>?_) (fun g36=>?_)))))))
  ·refine aC (aY rfl rfl rfl rfl) rfl rfl (op_lss (aY rfl rfl rfl rfl) rfl rfl rfl (bS (aD rfl) rfl rfl rfl (aA (aB (s_11 (aK rfl (fun c39=>?_) (fun c39=>?_)))))))
   ·have hin:i<xs.length:=by omega
    have hxi:=List.getElem?_eq_getElem hin
    obtain⟨x,hx⟩: ∃x,xs[i]=x:=⟨_,rfl⟩
    have hxm:x∈xs:=hx▸List.getElem_mem hin
    rw [hx]at hxi
    have hop:=hg x hxm
    have has:=h.isSome (by omega)
    obtain⟨kx,hkx⟩: ∃q,x.key.take 40=q:=⟨_,rfl⟩
    obtain⟨vx,hvx⟩: ∃q,x.val.take 120=q:=⟨_,rfl⟩
    have hkl:kx.length≤40:=by rw [←hkx,List.length_take];omega
    have hvl:vx.length≤120:=by rw [←hvx,List.length_take];omega
    refine At.skip (aB (s_10 (At.seq fun _ s_12=>At.block (At.seq fun _ s_13=>At.region (aC (aD rfl) rfl rfl (aC (aD rfl) rfl rfl (op_idxE (aD rfl) se31 rfl rfl (by assumption) (show _=(((i:Nat)):Int)from by omega) (by omega) rfl ?_)))))))
    refine bQ (aD rfl) fl60_1 rfl (by first|rfl|assumption) rfl ?_
    refine aT (aD rfl) sc3 rfl h (by first|exact get8 (by omega)|exact bT (by omega)|exact bU (by omega)|exact opsC_j hxi (by decide)) (by first|exact aL|exact aZ|exact bB|exact bF|exact bG|exact bH|exact bL|exact bK|exact bJ|exact bM) rfl ?_
    refine op_eql (aD rfl) rfl rfl rfl (aA (aB (s_13 (aK rfl (fun c47=>?_) (fun c47=>?_)))))
    ·refine At.seq fun _ s_14=>At.region (aC (aD rfl) rfl rfl (aC (aD rfl) rfl rfl (aC (aD rfl) rfl rfl (aC (aD rfl) rfl rfl (op_idxE (aD rfl) se31 rfl rfl (by assumption) (show _=(((i:Nat)):Int)from by omega) (by omega) rfl ?_)))))
     refine bQ (aD rfl) fl60_2 rfl (by first|rfl|assumption) rfl ?_
     refine aT (aD rfl) sc23 rfl h (by first|exact get8 (by omega)|exact bT (by omega)|exact bU (by omega)|exact opsC_j hxi (by decide)) (by first|exact aL|exact aZ|exact bB|exact bF|exact bG|exact bH|exact bL|exact bK|exact bJ|exact bM) rfl ?_
     refine aJ (bA rfl) (.cons rfl .nil) (FKey hop.1) Tryz.func14 rfl rfl (by simp) rfl ?_
     rintro v55 L55 ⟨N55,a55,c55,rfl,rfl,r55⟩
     change At _ _ _ [N55,NT,NQ,NL,NI,N31,R] _
     rw [hkx]at r55⊢
     refine At.perm bV (At.perm bV (At.perm sel4 (At.perm sel4 (At.perm sel4 (At.perm bV (At.perm bV (op_call (nxl rfl) (.cons rfl (.cons rfl .nil)) (LoanBytes_f hL r55.rsl (by omega) (by omega)) (F:= [N55,NT,NQ,N31,R]) Tryz.func24 rfl rfl (.refl _) (by simp) rfl ?_)))))))
     rintro v56 L56 ⟨NL,NI,p56,c56,rfl,rfl,hL,le56,s56⟩
     change At _ _ _ [NL,NI,N55,NT,NQ,N31,R] _
     skip
     refine At.perm bV (At.perm bV (At.perm bV (At.perm sel5 (At.perm sel5 (At.perm sel5 (At.perm bV (op_call (nxl rfl) (.cons rfl (.cons rfl .nil)) (FDelete hT s56 (by omega)) (F:= [NL,NI,N55,NQ,N31,R]) Tryz.func23 rfl rfl (.refl _) (by simp) rfl ?_)))))))
     rintro v57 L57 ⟨NT,rfl,rfl,hT⟩
     change At _ _ _ [NT,NL,NI,N55,NQ,N31,R] _
     skip
     refine aA (aB (s_14 (At.region (aC (aD rfl) rfl rfl (aC (aD rfl) rfl rfl (aC (aD rfl) rfl rfl (op_idxE (aD rfl) se31 rfl rfl (by assumption) (show _=(((i:Nat)):Int)from by omega) (by omega) rfl ?_)))))))
     refine bQ (aD rfl) fl60_2 rfl (by first|rfl|assumption) rfl ?_
     refine aT (aD rfl) sc23 rfl h (by first|exact get8 (by omega)|exact bT (by omega)|exact bU (by omega)|exact opsC_j hxi (by decide)) (by first|exact aL|exact aZ|exact bB|exact bF|exact bG|exact bH|exact bL|exact bK|exact bJ|exact bM) rfl ?_
     refine aJ (bA rfl) (.cons rfl .nil) (FKey hop.1) Tryz.func14 rfl rfl (by simp) rfl ?_
     rintro v64 L64 ⟨N64,a64,c64,rfl,rfl,r64⟩
     change At _ _ _ [N64,NT,NL,NI,N55,NQ,N31,R] _
     rw [hkx]at r64⊢
     refine At.perm sel7 (At.perm sel7 (At.perm bV (At.perm bV (At.perm bV (At.perm bV (At.perm bV (At.perm sel7 (op_call (nxl rfl) (.cons rfl (.cons rfl .nil)) (rDelete hQ r64.rsl (by omega)) (F:= [N64,NT,NL,NI,N55,N31,R]) Tryz.func25 rfl rfl (.refl _) (by simp) rfl ?_))))))))
     rintro v65 L65 ⟨NQ,rfl,rfl,hQ⟩
     change At _ _ _ [NQ,N64,NT,NL,NI,N55,N31,R] _
     skip
     refine aA (aR (aB (s_12 (At.region (aC (aD rfl) rfl rfl (aV (aD rfl) rfl rfl (by omega) (by omega) rfl (aE (aD rfl) rfl rfl (aA (aB (At.sub (L':= [NQ,NT,NL,NI,N31,R]) (.cons_cons _ (.cons _ (.cons_cons _ (.cons_cons _ (.cons_cons _ (.cons _ (.cons_cons _ (.cons_cons _ (.slnil))))))))) (At.perm sel5 (At.perm sel5 (At.perm sel5 (At.perm sel5 (At.perm sel4 (At.perm sel5 (bD ?_ (.refl _) ⟨i+1,c,delM kx R0,NT,NQ,NL,NI,rfl,rfl,rfl,by omega,hT,by omega,hQ,Nat.le_trans (List.length_filter_le _ _) (by omega),hL.mono (by omega)⟩ ?_)))))))))))))))))
     ·exact .cons (by first|exact aP rfl (by omega)|rfl) (.cons (by first|exact aP rfl (by omega)|rfl) (.cons (by first|exact aP rfl (by omega)|rfl) (.cons (by first|exact aP rfl (by omega)|rfl) (.cons (by first|exact aP rfl (by omega)|rfl) (.cons (by first|exact aP rfl (by omega)|rfl) (.cons (by first|exact aP rfl (by omega)|rfl) .nil))))))
     ·omega
    refine At.seq fun _ s_15=>At.drawnS [R] [15,16,17] [0,1,9,10,11] [0,1,2,3,4,5,6,9,10,11,12,13,14,7,8,15,16,17] (by kernel_rfl) (by kernel_rfl) (.cons _ (.cons _ (.cons _ (.cons _ (.cons _ (.refl _)))))) (aC (aX rfl rfl rfl) rfl rfl (aC (aX rfl rfl rfl) rfl rfl (aC (aX rfl rfl rfl) rfl rfl (aC (aX rfl rfl rfl) rfl rfl (op_idxE (aX rfl rfl rfl) se31 rfl rfl (by assumption) (show _=(((i:Nat)):Int)from by omega) (by omega) rfl ?_)))))
    refine bQ (aX rfl rfl rfl) fl60_2 rfl (by first|rfl|assumption) rfl ?_
    refine aT (aX rfl rfl rfl) sc23 rfl h (by first|exact get8 (by omega)|exact bT (by omega)|exact bU (by omega)|exact opsC_j hxi (by decide)) (by first|exact aL|exact aZ|exact bB|exact bF|exact bG|exact bH|exact bL|exact bK|exact bJ|exact bM) rfl ?_
    refine aC (aX rfl rfl rfl) rfl rfl (aC (aX rfl rfl rfl) rfl rfl (aC (aX rfl rfl rfl) rfl rfl (op_idxE (aX rfl rfl rfl) se31 rfl rfl (by assumption) (show _=(((i:Nat)):Int)from by omega) (by omega) rfl ?_)))
    refine bQ (aX rfl rfl rfl) fl60_3 rfl (by first|rfl|assumption) rfl ?_
    refine aT (aX rfl rfl rfl) sc23 rfl h (by first|exact get8 (by omega)|exact bT (by omega)|exact bU (by omega)|exact opsC_j hxi (by decide)) (by first|exact aL|exact aZ|exact bB|exact bF|exact bG|exact bH|exact bL|exact bK|exact bJ|exact bM) rfl ?_
    refine aJ (Nx.agree (nxsm rfl rfl rfl)) (.cons rfl .nil) (FKey hop.1) Tryz.func14 rfl rfl (by simp) rfl ?_
    rintro v73 L73 ⟨N73,a73,c73,rfl,rfl,r73⟩
    change At _ _ _ [N73,NT,NQ,NL,NI,N31,R] _
    rw [hkx]at r73⊢
    refine At.perm bV (At.perm sel1 (At.perm bV (At.perm bV (At.perm bV (At.perm bV (At.perm bV (At.moreS (Lst:= [R]) (Lst':= [N73,R]) (.cons _ (.refl _)) (.cons _ (.cons _ (.cons _ (.cons _ (.cons _ (.refl _)))))) (At.perm bV (At.perm bV (At.perm bV (At.perm sel4 (At.perm sel4 (At.perm bV (At.perm bV (op_call (nxsm rfl rfl rfl) (.cons rfl (.cons rfl .nil)) (LoanBytes_f hL r73.rsl (by omega) (by omega)) (F:= [NT,NQ,N31,N73,R]) Tryz.func24 rfl rfl (.refl _) (by simp) rfl ?_)))))))))))))))
    rintro v74 L74 ⟨NL,NI,p74,c74,rfl,rfl,hL,le74,s74⟩
    change At _ _ _ [NL,NI,NT,NQ,N31,N73,R] _
    skip
    refine At.moreS (Lst:= [N73,R]) (Lst':= [N73,R]) (.refl _) (.cons _ (.cons _ (.cons _ (.cons _ (.cons _ (.refl _)))))) (aJ (Nx.agree (nxss rfl rfl rfl rfl)) (.cons rfl .nil) (FValue hop.2) Tryz.func7 rfl rfl (by simp) rfl ?_)
    rintro v81 L81 ⟨N81,a81,c81,rfl,rfl,r81⟩
    change At _ _ _ [N81,NL,NI,NT,NQ,N31,N73,R] _
    rw [hvx]at r81⊢
    refine At.anyS (.refl _) (At.perm sel7 (At.perm sel7 (At.perm sel7 (At.perm sel7 (At.perm sel7 (At.perm sel5 (At.perm sel7 (At.perm sel7 (op_call (nxss rfl rfl rfl rfl) (.cons rfl (.cons rfl .nil)) (LoanBytes_f hL r81.rsl (by omega) (by omega)) (F:= [N81,NT,NQ,N31,N73,R]) Tryz.func24 rfl rfl (.refl _) (by simp) rfl ?_)))))))))
    rintro v82 L82 ⟨NL,NI,p82,c82,rfl,rfl,hL,le82,s82⟩
    change At _ _ _ [NL,NI,N81,NT,NQ,N31,N73,R] _
    skip
    refine At.anyS (.refl _) (At.perm sel7 (At.perm sel7 (At.perm sel7 (At.perm sel7 (At.perm bV (At.perm bV (At.perm bV (At.perm sel7 (op_call (nxsl rfl rfl rfl rfl) (.cons rfl (.cons rfl (.cons rfl .nil))) ((FPut hT (s74.le le82) s82 (by omega) (by omega) (by omega)).dupN) (F:= [NL,NI,N81,NQ,N31,N73,R]) Tryz.func26 rfl rfl (.refl _) (by simp) rfl ?_)))))))))
    rintro v83 L83 ⟨NT,rfl,rfl,hT⟩
    change At _ _ _ [NT,NL,NI,N81,NQ,N31,N73,R] _
    skip
    refine At.sNil (aB (s_15 (At.drawnS [R] [12,13] [0,7,8] [0,1,2,3,4,5,7,8,9,10,11,6,12,13] (by kernel_rfl) (by kernel_rfl) (.cons _ (.cons _ (.cons _ (.cons _ (.cons _ (.cons _ (.cons _ (.refl _)))))))) (aC (aX rfl rfl rfl) rfl rfl (aC (aX rfl rfl rfl) rfl rfl (aC (aX rfl rfl rfl) rfl rfl (op_idxE (aX rfl rfl rfl) se31 rfl rfl (by assumption) (show _=(((i:Nat)):Int)from by omega) (by omega) rfl ?_)))))))
    refine bQ (aX rfl rfl rfl) fl60_2 rfl (by first|rfl|assumption) rfl ?_
    refine aT (aX rfl rfl rfl) sc23 rfl h (by first|exact get8 (by omega)|exact bT (by omega)|exact bU (by omega)|exact opsC_j hxi (by decide)) (by first|exact aL|exact aZ|exact bB|exact bF|exact bG|exact bH|exact bL|exact bK|exact bJ|exact bM) rfl ?_
    refine aC (aX rfl rfl rfl) rfl rfl (aC (aX rfl rfl rfl) rfl rfl (op_idxE (aX rfl rfl rfl) se31 rfl rfl (by assumption) (show _=(((i:Nat)):Int)from by omega) (by omega) rfl ?_))
    refine bQ (aX rfl rfl rfl) fl60_3 rfl (by first|rfl|assumption) rfl ?_
    refine aT (aX rfl rfl rfl) sc23 rfl h (by first|exact get8 (by omega)|exact bT (by omega)|exact bU (by omega)|exact opsC_j hxi (by decide)) (by first|exact aL|exact aZ|exact bB|exact bF|exact bG|exact bH|exact bL|exact bK|exact bJ|exact bM) rfl ?_
    refine aJ (Nx.agree (nxsm rfl rfl rfl)) (.cons rfl .nil) (FKey hop.1) Tryz.func14 rfl rfl (by simp) rfl ?_
    rintro v90 L90 ⟨N90,a90,c90,rfl,rfl,r90⟩
    change At _ _ _ [N90,NT,NL,NI,N81,NQ,N31,N73,R] _
    rw [hkx]at r90⊢
    refine At.perm sel8 (At.perm sel1 (At.perm sel8 (At.perm sel8 (At.perm sel8 (At.perm sel8 (At.perm sel8 (At.perm sel8 (At.perm sel8 (At.moreS (Lst:= [R]) (Lst':= [N90,R]) (.cons _ (.refl _)) (.cons _ (.cons _ (.cons _ (.cons _ (.cons _ (.cons _ (.cons _ (.refl _)))))))) (aJ (Nx.agree (nxss rfl rfl rfl rfl)) (.cons rfl .nil) (FValue hop.2) Tryz.func7 rfl rfl (by simp) rfl ?_))))))))))
    rintro v96 L96 ⟨N96,a96,c96,rfl,rfl,r96⟩
    change At _ _ _ [N96,NT,NL,NI,N81,NQ,N31,N73,N90,R] _
    rw [hvx]at r96⊢
    refine At.anyS (.refl _) (At.perm sel9 (At.perm sel9 (At.perm sel9 (At.perm sel9 (At.perm sel8 (At.perm sel8 (At.perm sel8 (At.perm sel8 (At.perm sel8 (At.perm sel9 (op_call (nxsl rfl rfl rfl rfl) (.cons rfl (.cons rfl (.cons rfl .nil))) (rPut hQ r90.rsl r96.rsl (by omega) (by omega) (by omega)) (F:= [N96,NT,NL,NI,N81,N31,N73,N90,R]) Tryz.func27 rfl rfl (.refl _) (by simp) rfl ?_)))))))))))
    rintro v97 L97 ⟨NQ,rfl,rfl,hQ⟩
    change At _ _ _ [NQ,N96,NT,NL,NI,N81,N31,N73,N90,R] _
    skip
    refine At.sNil (aR (aB (s_12 (At.region (aC (aD rfl) rfl rfl (aV (aD rfl) rfl rfl (by omega) (by omega) rfl (aE (aD rfl) rfl rfl (aA (aB (At.sub (L':= [NQ,NT,NL,NI,N31,R]) (.cons_cons _ (.cons _ (.cons_cons _ (.cons_cons _ (.cons_cons _ (.cons _ (.cons_cons _ (.cons _ (.cons _ (.cons_cons _ (.slnil))))))))))) (At.perm sel5 (At.perm sel5 (At.perm sel5 (At.perm sel5 (At.perm sel4 (At.perm sel5 (bD ?_ (.refl _) ⟨i+1,c+1,putM kx vx R0,NT,NQ,NL,NI,rfl,rfl,rfl,by omega,hT,by omega,hQ,put_len9 hl0,hL.mono (by omega)⟩ ?_)))))))))))))))))
    ·exact .cons (by first|exact aP rfl (by omega)|rfl) (.cons (by first|exact aP rfl (by omega)|rfl) (.cons (by first|exact aP rfl (by omega)|rfl) (.cons (by first|exact aP rfl (by omega)|rfl) (.cons (by first|exact aP rfl (by omega)|rfl) (.cons (by first|exact aP rfl (by omega)|rfl) (.cons (by first|exact aP rfl (by omega)|rfl) .nil))))))
    ·omega
   refine At.exit (aG (aG (bC (aB (jk_8 ?_ (.refl _) ⟨R0,c,NT,NQ,NL,NI,_,rfl,rfl,hT,hQ,by omega,hL⟩)))))
   exact .cons (by first|exact aP rfl (by omega)|rfl) (.cons (by first|exact aP rfl (by omega)|rfl) (.cons (by first|exact aP rfl (by omega)|rfl) (.cons (by first|exact aP rfl (by omega)|rfl) (.cons (by first|exact aP rfl (by omega)|rfl) (.cons (by first|exact aP rfl (by omega)|rfl) .nil)))))
  refine aH rfl rfl rfl rfl rfl rfl rfl (aH rfl rfl rfl rfl rfl rfl rfl (bR (aD rfl) rfl rfl rfl (aA (aB (s_11 (At.condF rfl (At.exit (aG (aG (bC (aB (jk_8 ?_ (.refl _) ⟨R0,c,NT,NQ,NL,NI,_,rfl,rfl,hT,hQ,by omega,hL⟩))))))))))))
  exact .cons (by first|exact aP rfl (by omega)|rfl) (.cons (by first|exact aP rfl (by omega)|rfl) (.cons (by first|exact aP rfl (by omega)|rfl) (.cons (by first|exact aP rfl (by omega)|rfl) (.cons (by first|exact aP rfl (by omega)|rfl) (.cons (by first|exact aP rfl (by omega)|rfl) .nil)))))
 rintro _ _ ⟨R0,c,NT,NQ,NL,NI,m,rfl,rfl,hT,hQ,hl0,hL⟩
 refine s_8 (At.seq fun _ s_16=>At.seq fun _ s_17=>At.region (aC (aD rfl) rfl rfl (At.perm sel5 (At.perm sel5 (At.perm sel3 (At.perm sel3 (At.perm sel5 (At.perm sel5 (op_call (nxl rfl) (.cons rfl .nil) (LoanBack_f hL) (F:= [NT,NQ,N31,R]) Tryz.func28 rfl rfl (.refl _) (by simp) rfl ?_)))))))))
 rintro v99 L99 ⟨rfl,rfl⟩
 change At _ _ _ [NT,NQ,N31,R] _
 refine op_not (aD rfl) rfl rfl (aA (aB (s_17 (At.condF rfl (At.skip (aB (s_16 (At.seq fun _ s_18=>At.seq fun _ s_19=>At.region (aE (aD rfl) rfl rfl (aA (aB (s_19 (At.block ?_)))))))))))))
 have hB0:=Book.start B31
 have hG:Good R0:=by obtain⟨_,_,_,_,_,hG⟩:=hT;exact hG
 have hr1:=hQ.s (Heaplet.le_refl NQ)
 obtain⟨fa,fc,ga,gc,ks,vs,BQ,rk,rv,bk,bv,_⟩:=id hr1
 have hkc:=rk.cap63
 refine At.empty (At.perm sel4 (At.perm sel3 (At.perm sel3 (At.perm sel3 (At.perm sel4 (At.loop (fun fr_ hp_ ms_=> ∃(m:Nat) (NB NJ:Heaplet),fr_= [(0,.slice ao n cap),(1,.slice ka kn kc),(5,.pointer (some ⟨bt,0,none⟩)),(6,.pointer (some ⟨b21,0,none⟩)),(8,.pointer (some ⟨b31,0,none⟩)),(10,.int .i64 (m:Int))]∧hp_= [NB,NJ,NT,NQ,R]∧3- m=ms_∧(m≤3)∧(Book b31 NB NJ)) ?_ (.refl _) ⟨0,N31,nilH,rfl,rfl,rfl,by omega,hB0⟩ ?_))))))
 ·exact .cons (by first|exact aP rfl (by omega)|rfl) (.cons (by first|exact aP rfl (by omega)|rfl) (.cons (by first|exact aP rfl (by omega)|rfl) (.cons (by first|exact aP rfl (by omega)|rfl) (.cons (by first|exact aP rfl (by omega)|rfl) (.cons (by first|exact aP rfl (by omega)|rfl) .nil)))))
 rintro _ _ _ ⟨m,NB,NJ,rfl,rfl,rfl,hm3,hBk⟩
 refine At.seq fun _ s_20=>At.seq fun _ s_21=>At.region (aC (aD rfl) rfl rfl (op_lss (aD rfl) rfl rfl rfl (aA (aB (s_21 (aK rfl (fun c102=>?_) (fun c102=>?_)))))))
 ·refine At.skip (aB (s_20 (At.seq fun _ s_22=>At.block (At.seq fun _ s_23=>At.seq fun _ s_24=>At.region (aE (aD rfl) rfl rfl (aA (aB (s_24 (At.block (At.loop (fun fr_ hp_ ms_=> ∃(j:Nat) (NB NJ:Heaplet),fr_= [(0,.slice ao n cap),(1,.slice ka kn kc),(5,.pointer (some ⟨bt,0,none⟩)),(6,.pointer (some ⟨b21,0,none⟩)),(8,.pointer (some ⟨b31,0,none⟩)),(10,.int .i64 (m:Int)),(11,.int .i64 (j:Int))]∧hp_= [NB,NJ,NT,NQ,R]∧R0.length- j=ms_∧(j≤R0.length)∧(Book b31 NB NJ)) ?_ (.refl _) ⟨0,NB,NJ,rfl,rfl,rfl,Nat.zero_le _,hBk⟩ ?_))))))))))
  ·exact .cons (by first|exact aP rfl (by omega)|rfl) (.cons (by first|exact aP rfl (by omega)|rfl) (.cons (by first|exact aP rfl (by omega)|rfl) (.cons (by first|exact aP rfl (by omega)|rfl) (.cons (by first|exact aP rfl (by omega)|rfl) (.cons (by first|exact aP rfl (by omega)|rfl) (.cons (by first|exact aP rfl (by omega)|rfl) .nil))))))
  rintro _ _ _ ⟨j,NB,NJ,rfl,rfl,rfl,hj3,hBk⟩
  refine At.seq fun _ s_25=>At.seq fun _ s_26=>At.region (aC (aD rfl) rfl rfl (aC (aD rfl) rfl rfl (aQ (aD rfl) rfl rfl (aF (aD rfl) fl52_0 rfl rfl (aI (aD rfl) sc22 rfl BQ (by first|rfl) bF rfl ?_)))))
  refine aU (aD rfl) se22 rfl rfl (op_lss (aD rfl) rfl rfl rfl (aA (aB (s_26 (aK rfl (fun c111=>?_) (fun c111=>?_))))))
  ·obtain⟨p,hp⟩: ∃p,R0[j]? =some p:=⟨_,List.getElem?_eq_getElem (by omega)⟩
   obtain⟨ya,yc,hyc,hys⟩:=bags_at (f:=Prod.fst) bk hp
   have hp40:=hG.key p (List.mem_of_getElem? hp)
   have hps1:=rk.isSome (by omega)
   refine At.skip (aB (s_25 (At.seq fun _ s_27=>At.block (At.seq fun _ s_28=>At.region (aC (aD rfl) rfl rfl (aC (aD rfl) rfl rfl (aQ (aD rfl) rfl rfl (aF (aD rfl) fl52_0 rfl rfl (aI (aD rfl) sc22 rfl BQ (by first|rfl) bF rfl ?_)))))))))
   refine aC (aD rfl) rfl rfl (bI (aD rfl) se22 rfl rfl rk (show _=(((j:Nat)):Int)from by omega) (by omega) rfl ?_)
   refine aT (aD rfl) sc23 rfl rk (by first|exact get8 (by omega)|exact bT (by omega)|exact bU (by omega)|exact hyc) (by first|exact aL|exact aZ|exact bB|exact bF|exact bG|exact bH|exact bL|exact bK|exact bJ|exact bM) rfl ?_
   refine aJ (bA rfl) (.cons rfl (.cons rfl .nil)) (FGet hT hys (by omega)) Tryz.func18 rfl rfl (by simp) rfl ?_
   rintro v123 L123 ⟨N123,a123,c123,rfl,rfl,r123⟩
   change At _ _ _ [N123,NB,NJ,NT,NQ,R] _
   refine aC (aD rfl) rfl rfl (aS (aD rfl) rfl rfl rfl (aS (aD rfl) rfl rfl rfl (aE (aD rfl) rfl rfl (aE (aD rfl) rfl rfl (aA (aB (s_28 (At.region (aC (aD rfl) rfl rfl (aC (aD rfl) rfl rfl (At.perm sel5 (At.perm sel5 (At.perm sel5 (At.perm sel3 (At.perm sel5 (At.perm sel5 (op_call (nxl rfl) (.cons rfl (.cons rfl .nil)) (BookBytes_f hBk r123 (Nat.le_trans (get_small hG p.1) (by decide))) (F:= [NT,NQ,R]) Tryz.func29 rfl rfl (.refl _) (by simp) rfl ?_)))))))))))))))))
   rintro v128 L128 ⟨rfl,NB,NJ,rfl,hBk⟩
   change At _ _ _ [NB,NJ,NT,NQ,R] _
   skip
   refine aA (aR (aB (s_27 (At.region (aC (aD rfl) rfl rfl (aV (aD rfl) rfl rfl (by omega) (by omega) rfl (aE (aD rfl) rfl rfl (aA (aB (bD ?_ (.refl _) ⟨j+1,NB,NJ,rfl,rfl,rfl,by omega,hBk⟩ ?_))))))))))
   ·exact .cons (by first|exact aP rfl (by omega)|rfl) (.cons (by first|exact aP rfl (by omega)|rfl) (.cons (by first|exact aP rfl (by omega)|rfl) (.cons (by first|exact aP rfl (by omega)|rfl) (.cons (by first|exact aP rfl (by omega)|rfl) (.cons (by first|exact aP rfl (by omega)|rfl) (.cons (by first|exact aP rfl (by omega)|rfl) .nil))))))
   ·omega
  refine At.exit (aG (aG (bC (aB (s_23 (At.seq fun _ s_29=>At.region (aC (aD rfl) rfl rfl (aC (aD rfl) rfl rfl (aJ (bA rfl) (.cons rfl .nil) (FKey hk) Tryz.func14 rfl rfl (by simp) rfl ?_)))))))))
  rintro v131 L131 ⟨N131,a131,c131,rfl,rfl,r131⟩
  change At _ _ _ [N131,NB,NJ,NT,NQ,R] _
  rw [hkk]at r131⊢
  refine aJ (bA rfl) (.cons rfl (.cons rfl .nil)) (FProveO hT (by omega) r131.rsl (by omega)) Tryz.func13 rfl rfl (by simp) rfl ?_
  rintro v132 L132 ⟨No,Nb,ap,cp,us,rfl,rfl,rp,hBg⟩
  change At _ _ _ [No,Nb,N131,NB,NJ,NT,NQ,R] _
  refine aE (aD rfl) rfl rfl (aA (aB (s_29 (At.seq fun _ s_30=>At.seq fun _ s_31=>At.region (aE (aD rfl) rfl rfl (aA (aB (s_31 (At.block ?_)))))))))
  have hpl:=provM_len R0 kk
  have hps:=provM_small hG kk
  have hown:=check_own hG kk
  obtain⟨fs,hfs⟩: ∃fs,provM R0 kk=fs:=⟨_,rfl⟩
  rw [hfs]at rp hBg hpl hps hown⊢
  have hrc:=rp.cap63
  have hul:=hBg.len
  refine At.sub (L':= [No,Nb,NB,NJ,NT,NQ,R]) (.cons_cons _ (.cons_cons _ (.cons _ (.cons_cons _ (.cons_cons _ (.cons_cons _ (.cons_cons _ (.cons_cons _ (.slnil))))))))) (At.perm bV (At.perm bV (At.perm bV (At.perm sel4 (At.perm sel4 (At.perm bV (At.perm bV (At.loop (fun fr_ hp_ ms_=> ∃(j:Nat) (qs:List (List UInt8)) (NB NJ Nb:Heaplet),fr_= [(0,.slice ao n cap),(1,.slice ka kn kc),(5,.pointer (some ⟨bt,0,none⟩)),(6,.pointer (some ⟨b21,0,none⟩)),(8,.pointer (some ⟨b31,0,none⟩)),(10,.int .i64 (m:Int)),(14,.slice ap fs.length cp),(15,.int .i64 (j:Int))]∧hp_= [NB,NJ,No,Nb,NT,NQ,R]∧fs.length- j=ms_∧(j≤fs.length)∧(Book b31 NB NJ)∧(Bag 5 Nb (us.drop j) qs)∧(qs=fs.drop j)∧(Bags NJ (us.take j) (fs.take j))) ?_ (.refl _) ⟨0,fs,NB,NJ,Nb,rfl,rfl,rfl,Nat.zero_le _,hBk,hBg,rfl,Bags.nil _⟩ ?_))))))))
  ·exact .cons (by first|exact aP rfl (by omega)|rfl) (.cons (by first|exact aP rfl (by omega)|rfl) (.cons (by first|exact aP rfl (by omega)|rfl) (.cons (by first|exact aP rfl (by omega)|rfl) (.cons (by first|exact aP rfl (by omega)|rfl) (.cons (by first|exact aP rfl (by omega)|rfl) (.cons (by first|exact aP rfl (by omega)|rfl) (.cons (by first|exact aP rfl (by omega)|rfl) .nil)))))))
  rintro _ _ _ ⟨j,qs,NB,NJ,Nb,rfl,rfl,rfl,hj4,hBk,hBg,hqs,hbk⟩
  refine At.seq fun _ s_32=>At.seq fun _ s_33=>At.region (aC (aD rfl) rfl rfl (aC (aD rfl) rfl rfl (aU (aD rfl) se22 rfl rfl (op_lss (aD rfl) rfl rfl rfl (aA (aB (s_33 (aK rfl (fun c136=>?_) (fun c136=>?_)))))))))
  ·obtain⟨pj,nj,cj,hvj,hS2⟩:=bag_consO hBg (by omega)
   have hpa:=rp.isSome (by omega)
   refine At.skip (aB (s_32 (At.seq fun _ s_34=>At.block (At.perm bV (At.perm bV (At.perm bV (At.perm sel5 (At.perm sel5 (At.perm sel5 (At.perm bV (At.pop hS2 (fun NP Nb q0 qs' hqe rP hS'=>At.region ?_))))))))))))
   obtain⟨hxj,hqs'⟩:=drop_cons9 (hqs.symm.trans hqe)
   obtain rfl:=rP.rsl.len8
   have hq0:=hps q0 (List.mem_of_getElem? hxj)
   refine aC (aD rfl) rfl rfl (aC (aD rfl) rfl rfl (aC (aD rfl) rfl rfl (bI (aD rfl) se22 rfl rfl rp (show _=(((j:Nat)):Int)from by omega) (by omega) rfl ?_)))
   refine aT (aD rfl) sc23 rfl rp (by first|exact get8 (by omega)|exact bT (by omega)|exact bU (by omega)|exact hvj) (by first|exact aL|exact aZ|exact bB|exact bF|exact bG|exact bH|exact bL|exact bK|exact bJ|exact bM) rfl ?_
   refine At.perm sel7 (At.perm sel7 (At.perm sel7 (At.perm sel7 (At.perm sel5 (At.perm sel5 (At.perm sel7 (At.perm sel7 (op_call (nxl rfl) (.cons rfl (.cons rfl .nil)) (BookBytes_k hBk rP (by omega)) (F:= [Nb,No,NT,NQ,R]) Tryz.func29 rfl rfl (.refl _) (by simp) rfl ?_))))))))
   rintro v144 L144 ⟨rfl,NB,NJ,rfl,hBk,leK,sK⟩
   change At _ _ _ [NB,NJ,Nb,No,NT,NQ,R] _
   skip
   refine aA (aR (aB (s_34 (At.region (aC (aD rfl) rfl rfl (aV (aD rfl) rfl rfl (by omega) (by omega) rfl (aE (aD rfl) rfl rfl (aA (aB (At.perm bV (At.perm bV (At.perm bV (At.perm sel5 (At.perm bV (At.perm bV (At.perm bV ?_))))))))))))))))
   refine bD ?_ (.refl _) ⟨j+1,qs',NB,NJ,Nb,rfl,rfl,rfl,by omega,hBk,hS',hqs',by rw [take_next1 hvj,take_next1 hxj];exact(hbk.le leK).one sK⟩ ?_
   ·exact .cons (by first|exact aP rfl (by omega)|rfl) (.cons (by first|exact aP rfl (by omega)|rfl) (.cons (by first|exact aP rfl (by omega)|rfl) (.cons (by first|exact aP rfl (by omega)|rfl) (.cons (by first|exact aP rfl (by omega)|rfl) (.cons (by first|exact aP rfl (by omega)|rfl) (.cons (by first|exact aP rfl (by omega)|rfl) (.cons (by first|exact aP rfl (by omega)|rfl) .nil)))))))
   ·omega
  refine At.exit (aG (aG (bC (aB (s_30 (At.seq fun _ s_35=>?_))))))
  rw [List.take_of_length_le (by omega),List.take_of_length_le (by omega)]at hbk
  refine At.region (aC (aD rfl) rfl rfl (aJ (bA rfl) (.cons rfl .nil) (FRoot hT (by omega)) Tryz.func17 rfl rfl (by simp) rfl ?_))
  rintro v147 L147 ⟨rfl,rfl⟩
  change At _ _ _ [NB,NJ,No,Nb,NT,NQ,R] _
  refine aC (aD rfl) rfl rfl (aJ (bA rfl) (.cons rfl .nil) (FKey hk) Tryz.func14 rfl rfl (by simp) rfl ?_)
  rintro v149 L149 ⟨N149,a149,c149,rfl,rfl,r149⟩
  change At _ _ _ [N149,NB,NJ,No,Nb,NT,NQ,R] _
  rw [hkk]at r149⊢
  refine aC (aD rfl) rfl rfl (aJ (bA rfl) (.cons rfl .nil) (Fn.overJ (Ns:= [No,NJ]) fun J hJ=>FTwinsB (rp.le (hJ No (by simp))) (hbk.le (hJ NJ (by simp))) (by omega) hps) Tryz.func9 rfl rfl (by simp) rfl ?_)
  rintro v151 L151 ⟨N151,a151,c151,us151,rfl,rfl,r151,hB151⟩
  change At _ _ _ [N151,N149,NB,NJ,No,Nb,NT,NQ,R] _
  refine aJ (bA rfl) (.cons rfl (.cons rfl (.cons rfl .nil))) ((FCheck (root_len R0) r149.rsl (by omega) r151 hB151 hps).mono (fun v L hv=>check_some hown hv)) Tryz.func16 rfl rfl (by simp) rfl ?_
  rintro v152 L152 ⟨N152,a152,c152,b152,rfl,rfl,r152,hb152⟩
  change At _ _ _ [N152,N151,N149,NB,NJ,No,Nb,NT,NQ,R] _
  refine aC (aD rfl) rfl rfl (aS (aD rfl) rfl rfl rfl (aS (aD rfl) rfl rfl rfl (aS (aD rfl) rfl rfl rfl (aE (aD rfl) rfl rfl (aE (aD rfl) rfl rfl (aE (aD rfl) rfl rfl (aA (aB (s_35 (At.region (aC (aD rfl) rfl rfl (aC (aD rfl) rfl rfl (At.perm sel9 (At.perm sel9 (At.perm sel9 (At.perm sel9 (At.perm sel9 (At.perm sel7 (At.perm sel7 (At.perm sel7 (At.perm sel9 ?_)))))))))))))))))))))
  refine At.perm sel9 (op_call (nxl rfl) (.cons rfl (.cons rfl .nil)) (BookBytes_f hBk r152 (Nat.le_trans (get_small hG kk) (by decide))) (F:= [N151,N149,No,Nb,NT,NQ,R]) Tryz.func29 rfl rfl (.refl _) (by simp) rfl ?_)
  rintro v158 L158 ⟨rfl,NB,NJ,rfl,hBk⟩
  change At _ _ _ [NB,NJ,N151,N149,No,Nb,NT,NQ,R] _
  skip
  refine aA (aR (aB (s_22 (At.region (aC (aD rfl) rfl rfl (aV (aD rfl) rfl rfl (by omega) (by omega) rfl (aE (aD rfl) rfl rfl (aA (aB (At.sub (L':= [NB,NJ,NT,NQ,R]) (.cons_cons _ (.cons_cons _ (.cons _ (.cons _ (.cons _ (.cons _ (.cons_cons _ (.cons_cons _ (.cons_cons _ (.slnil)))))))))) (bD ?_ (.refl _) ⟨m+1,NB,NJ,rfl,rfl,rfl,by omega,hBk⟩ ?_)))))))))))
  ·exact .cons (by first|exact aP rfl (by omega)|rfl) (.cons (by first|exact aP rfl (by omega)|rfl) (.cons (by first|exact aP rfl (by omega)|rfl) (.cons (by first|exact aP rfl (by omega)|rfl) (.cons (by first|exact aP rfl (by omega)|rfl) (.cons (by first|exact aP rfl (by omega)|rfl) .nil)))))
  ·omega
 refine At.exit (aG (aG (bC (aB (s_18 (At.seq fun _ s_36=>At.region (aC (aD rfl) rfl rfl (op_call (nxl rfl) (.cons rfl .nil) (BookClose_f hBk) (F:= [NT,NQ,R]) Tryz.func30 rfl rfl (.refl _) (by simp) rfl ?_))))))))
 rintro v160 L160 ⟨rfl,rfl⟩
 change At _ _ _ [NT,NQ,R] _
 obtain⟨z,hz⟩: ∃z,rootM R0=z:=⟨_,rfl⟩;have hzl:z.length=32:=by rw [←hz];exact root_len R0
 refine aC (aD rfl) rfl rfl (aC (aY rfl rfl rfl rfl) rfl rfl (aJ (nxga rfl rfl rfl rfl) (.cons rfl .nil) (FRoot hT (by omega)) Tryz.func17 rfl rfl (by simp) rfl ?_))
 rintro v163 L163 ⟨rfl,rfl⟩
 change At _ _ _ [NT,NQ,R] _
 rw [hz]
 refine aC (aY rfl rfl rfl rfl) rfl rfl (aJ (nxga rfl rfl rfl rfl) (.cons rfl .nil) (rRoot hr1 (by omega)) Tryz.func31 rfl rfl (by simp) rfl ?_)
 rintro v165 L165 ⟨rfl,rfl⟩
 change At _ _ _ [NT,NQ,R] _
 rw [hz]
 refine op_eqW8 (a:=z) (b:=z) (aY rfl rfl rfl rfl) ae26 Tryz.underlying5 (by kernel_rfl) rfl rfl hzl hzl rfl (bS (aD rfl) rfl rfl rfl (aE (aD rfl) rfl rfl (aA (aB (s_36 (At.ret ((At.sub (L':= [R]) (.cons _ (.cons _ (.cons_cons _ (.slnil)))) (aW (L1:= []) rfl (.tmp rfl .nil) (.refl _) (.refl _) ?_)))))))))
 exact⟨by simp,rfl⟩
end
end Go.Proofs.YtdpjbefeabokgaaGreat
