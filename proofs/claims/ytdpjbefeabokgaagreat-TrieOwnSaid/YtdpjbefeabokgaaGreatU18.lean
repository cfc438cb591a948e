/- Several texts in one: see the remarks ahead of each part. No condition but those told there. -/
import Derived.Test.YtdpjbefeabokgaaGreatU17
import Derived.Test.YtdpjbefeabokgaaGreatU11
set_option linter.unusedSimpArgs false
set_option linter.unusedVariables false
/- quarrykeep.Book: lists of bytes are taken in, with copies. Condition: lists of at most 2^40 bytes. -/
namespace Go.Proofs.YtdpjbefeabokgaaGreat
open Go Go.RowKit
/-- The book's parts: its struct, its two lists, the copies; and what was taken in. -/
def BookO (b0:Nat) (N0 NF NW NK NI:Heaplet) (xs:List (List UInt8)):Prop:=
 ∃e0 pf cf pw cw vf vw, ∃q:Nat,Blk N0 b0 e0 [.slice pf xs.length cf,.slice pw xs.length cw,.slice none 0 0,.slice none 0 0,.int .i64 (q:Int)]∧Row NF 23 1 pf xs.length cf vf∧Row NW 23 1 pw xs.length cw vw∧Bag 5 NI vf xs∧Bags NK vw xs∧xs.length≤q∧q≤2199023255552∧ ∀(j:Nat) (x:List UInt8),xs[j]? =some x→x.length≤1099511627776
theorem BookFull_f {b0:Nat} {N0:Heaplet} {e0:TypeId} {v0 v1 v2 v3:Value} {q:Nat} (B0:Blk N0 b0 e0 [v0,v1,v2,v3,.int .i64 (q:Int)]):Fn Tryz.prog 55 #[.pointer (some ⟨b0,0,none⟩)] [N0] [] (fun v L=>v=.bool (decide ((q:Int)>200000))∧L= [N0]):=by
 refine Fn.enter (vs:= [.pointer (some ⟨b0,0,none⟩)]) Tryz.func55 rfl rfl rfl ?_
 intro E R hR
 change At _ _ E [N0,R] _
 refine At.seq fun _ s_1=>At.region (aE (aD rfl) rfl rfl (aA (aB (s_1 (At.seq fun _ s_2=>At.region (aC (aD rfl) rfl rfl (aQ (aD rfl) rfl rfl (aF (aD rfl) fl58_4 rfl rfl (aI (aD rfl) sc3 rfl B0 (by first|rfl) aL rfl ?_)))))))))
 refine op_gtr (aD rfl) rfl rfl rfl (aE (aD rfl) rfl rfl (aA (aB (s_2 (At.ret ((aW (L1:= [N0]) rfl (.tmp rfl .nil) (.refl _) (.refl _) ?_)))))))
 exact⟨rfl,rfl⟩
set_option maxRecDepth 100000 in
theorem BookBytes_o {b0:Nat} {N0 NF NW NK NI M:Heaplet} {xs:List (List UInt8)} {ao:Option Addr} {n cap:Nat} {l:List UInt8} (h:BookO b0 N0 NF NW NK NI xs) (hr:Row M 5 1 ao n cap (u8s l)) (hn:n≤1099511627776):
 Fn Tryz.prog 29 #[.pointer (some ⟨b0,0,none⟩),.slice ao n cap] [N0,NF,NW,NK,NI,M] [] (fun v L=>v=.tuple #[]∧ ∃N0' NF' NW' NK' NI' xs',L= [N0',NF',NW',NK',NI']∧BookO b0 N0' NF' NW' NK' NI' xs'):=by
 obtain⟨e0,pf,cf,pw,cw,vf,vw,q,B0,rF,rW,hI,hK,hq1,hq2,hb⟩:=h
 have hs:=hr.rsl
 have hlen:=hs.len8
 have hcap:=hs.cap63
 have hcf:=rF.rsl.cap63
 have hcw:=rW.rsl.cap63
 subst hlen
 refine Fn.enter (vs:= [.pointer (some ⟨b0,0,none⟩),.slice ao l.length cap]) Tryz.func29 rfl rfl rfl ?_
 intro E R hR
 change At _ _ E [N0,NF,NW,NK,NI,M,R] _
 refine At.seq fun _ s_1=>At.seq fun _ s_2=>At.region (aC (aD rfl) rfl rfl (op_call (nxl rfl) (.cons rfl .nil) (BookFull_f B0) (F:= [NF,NW,NK,NI,M,R]) Tryz.func55 rfl rfl (.refl _) (by simp) rfl ?_))
 rintro v5 L5 ⟨rfl,rfl⟩
 change At _ _ _ [N0,NF,NW,NK,NI,M,R] _
 skip
 refine aA (aB (s_2 (aK rfl (fun c5=>?_) (fun c5=>?_))))
 ·refine At.ret (aM ((At.sub (L':= [N0,NF,NW,NK,NI,R]) (.cons_cons _ (.cons_cons _ (.cons_cons _ (.cons_cons _ (.cons_cons _ (.cons _ (.cons_cons _ (.slnil)))))))) (bP (L1:= [N0,NF,NW,NK,NI]) rfl .nil rfl (.refl _) (.refl _) ?_))))
  exact⟨rfl,N0,NF,NW,NK,NI,xs,rfl,e0,pf,cf,pw,cw,vf,vw,q,B0,rF,rW,hI,hK,hq1,hq2,hb⟩
 refine At.skip (aB (s_1 (At.seq fun _ s_3=>At.region (aC (aD rfl) rfl rfl (aC (aD rfl) rfl rfl (aQ (aD rfl) rfl rfl (aF (aD rfl) fl58_4 rfl rfl (aI (aD rfl) sc3 rfl B0 (by first|rfl) aL rfl ?_))))))))
 refine aC (aD rfl) rfl rfl (aU (aD rfl) se23 rfl rfl (aV (aD rfl) rfl rfl (by omega) (by omega) rfl (aV (aD rfl) rfl rfl (by omega) (by omega) rfl (aQ (aD rfl) rfl rfl (aF (aD rfl) fl58_4 rfl rfl (aO (nxl rfl) sz3 rfl rfl rfl rfl rfl B0 (by simp) sel0 (fun N0 B0=>?_)))))))
 simp only [setL,List.set]at B0
 refine aA (aB (s_3 (At.seq fun _ s_4=>At.region (aC (aD rfl) rfl rfl (aC (aD rfl) rfl rfl (aQ (aD rfl) rfl rfl (aF (aD rfl) fl58_0 rfl rfl (aI (aD rfl) sc22 rfl B0 (by first|rfl) aL rfl ?_))))))))
 refine aC (aD rfl) rfl rfl (op_lit (bA rfl) Tryz.underlying22 ze23 sz23 (.cons rfl .nil) rfl rfl (by simp [Value.cells]) rfl rfl rfl (fun N23 a23 r23=>?_))
 simp only [flatV,List.flatMap_cons,List.flatMap_nil,Value.cells,List.append_nil,List.cons_append,List.nil_append]at r23
 have s23:=r23.rsl
 refine bE (nxl rfl) Tryz.underlying22 Tryz.underlying22 te23 rfl rfl rF s23 (by first|exact aL|exact aZ|exact bB|exact bF|exact bG|exact bH|exact bL|exact bK|exact bJ|exact bM) (by first|exact one_u8s _|exact one_u64s _|exact one_u32s _|(intro u hu;simp at hu;subst hu;rfl)) (by omega) (by omega) sel2 rfl (fun N24 a24 p24 r24=>?_)
 have s24:=r24.rsl
 refine aQ (aD rfl) rfl rfl (aF (aD rfl) fl58_0 rfl rfl (aO (nxl rfl) sz22 rfl rfl rfl rfl rfl B0 (by simp) sel2 (fun N0 B0=>?_)))
 simp only [setL,List.set]at B0
 refine aA (aB (s_4 (At.perm sel7 (At.perm sel7 (At.perm sel2 (At.perm sel7 (At.perm sel7 (At.perm sel7 (At.perm sel7 (At.perm sel7 (At.drawnS [N0,M,R] [9,12] [0,1,6] [0,1,2,3,4,6,5,7,8,9,10,11,12] (by kernel_rfl) (by kernel_rfl) (.cons _ (.cons _ (.cons _ (.cons _ (.cons _ (.refl _)))))) (aC (aX rfl rfl rfl) rfl rfl (aC (aX rfl rfl rfl) rfl rfl (aQ (aX rfl rfl rfl) rfl rfl (aF (aX rfl rfl rfl) fl58_1 rfl rfl (aI (aX rfl rfl rfl) sc22 rfl B0 (by first|rfl) aL rfl ?_))))))))))))))))
 refine aC (aX rfl rfl rfl) rfl rfl (op_lit (Nx.agree (nxsm rfl rfl rfl)) Tryz.underlying23 ze5 sz5 .nil rfl rfl (by simp [Value.cells]) rfl rfl rfl (fun N32 a32 r32=>?_))
 simp only [flatV,List.flatMap_cons,List.flatMap_nil,Value.cells,List.append_nil,List.cons_append,List.nil_append]at r32
 have s32:=r32.rsl
 refine At.moreS (Lst:= [N0,M,R]) (Lst':= [N0,M,R]) (.refl _) (.cons _ (.cons _ (.cons _ (.cons _ (.cons _ (.cons _ (.refl _))))))) ?_
 refine bE (nxsm rfl rfl rfl) Tryz.underlying23 Tryz.underlying23 te5 rfl rfl r32 hs (by first|exact aL|exact aZ|exact bB|exact bF|exact bG|exact bH|exact bL|exact bK|exact bJ|exact bM) (by first|exact one_u8s _|exact one_u64s _|exact one_u32s _|(intro u hu;simp at hu;subst hu;rfl)) (by omega) (by omega) sel0 rfl (fun N34 a34 p34 r34=>?_)
 have s34:=r34.rsl
 refine At.perm sel8 (At.perm sel8 (At.perm sel8 (At.perm sel3 (At.perm sel8 (At.perm sel8 (At.perm sel8 (At.perm sel8 (At.perm sel8 (At.moreS (Lst:= [N0,M,R]) (Lst':= [N34,N0,M,R]) (.cons _ (.refl _)) (.cons _ (.cons _ (.cons _ (.cons _ (.cons _ (.refl _)))))) ?_)))))))))
 rw [List.nil_append,Nat.zero_add]at r34
 have s34:=r34.rsl
 rw [Nat.zero_add]
 refine op_lit (Nx.agree (nxsm rfl rfl rfl)) Tryz.underlying22 ze23 sz23 (.cons rfl .nil) rfl rfl (by simp [Value.cells]) rfl rfl rfl (fun N35 a35 r35=>?_)
 simp only [flatV,List.flatMap_cons,List.flatMap_nil,Value.cells,List.append_nil,List.cons_append,List.nil_append]at r35
 have s35:=r35.rsl
 refine At.perm sel9 (At.perm sel9 (At.perm sel9 (At.perm sel9 (At.perm sel4 (At.perm sel9 (At.perm sel9 (At.perm sel9 (At.perm sel9 (At.perm sel9 (At.moreS (Lst:= [N34,N0,M,R]) (Lst':= [N35,N34,N0,M,R]) (.cons _ (.refl _)) (.cons _ (.cons _ (.cons _ (.cons _ (.cons _ (.refl _)))))) ?_))))))))))
 refine bE (nxss rfl rfl rfl rfl) Tryz.underlying22 Tryz.underlying22 te23 rfl rfl rW s35 (by first|exact aL|exact aZ|exact bB|exact bF|exact bG|exact bH|exact bL|exact bK|exact bJ|exact bM) (by first|exact one_u8s _|exact one_u64s _|exact one_u32s _|(intro u hu;simp at hu;subst hu;rfl)) (by omega) (by omega) sel2 rfl (fun N36 a36 p36 r36=>?_)
 have s36:=r36.rsl
 refine At.anyS (.refl _) (aQ (aX rfl rfl rfl) rfl rfl (aF (aX rfl rfl rfl) fl58_1 rfl rfl (aO (nxsl rfl rfl rfl rfl) sz22 rfl rfl rfl rfl rfl B0 (by simp) sel7 (fun N0 B0=>?_))))
 simp only [setL,List.set]at B0
 refine At.sNil (At.perm sel9 (At.perm sel8 (At.perm sel8 (At.perm sel7 (At.perm sel7 (At.perm sel7 (At.perm sel7 (At.perm sel7 (At.perm sel8 (At.perm sel9 (At.merge (fun h10=>At.perm sel8 (At.perm sel7 (At.perm bV (At.perm bV (At.perm bV (At.perm bV (At.perm bV (At.perm sel7 (At.perm sel8 ?_))))))))))))))))))))
 refine At.merge (fun h28=>At.sub (L':= [(join2 N34 NK),(join2 M NI),N0,N36,N24,R]) (.cons_cons _ (.cons_cons _ (.cons_cons _ (.cons_cons _ (.cons_cons _ (.cons _ (.cons _ (.cons_cons _ (.slnil))))))))) (At.perm sel5 (At.perm sel2 (At.perm sel2 (At.perm sel4 (At.perm sel5 (At.perm sel5 (At.retNE (L1:= [N0,N24,N36,(join2 N34 NK),(join2 M NI)]) rfl .nil rfl (.refl _) (.refl _) ?_))))))))
 refine⟨rfl,N0,N24,N36,_,_,xs++ [l],rfl,e0,a24,p24,a36,p36,_,_,q+l.length+1,?_,?_,?_,hI.snoc hr h10,hK.snoc s34 h28,by simp;omega,by omega,fun j x hx=>?_⟩
 ·simpa using B0
 ·simpa using r24
 ·simpa using r36
 ·rcases snoc_get hx with ⟨_,hx⟩|⟨_,rfl⟩
  ·exact hb j x hx
  ·exact hn
set_option maxRecDepth 100000 in
theorem BookStands_o {b0:Nat} {N0 NF NW NK NI:Heaplet} {e0:TypeId} {pf pw:Option Addr} {cf cw:Nat} {vf vw:List Value} {v2 v3 v4:Value} {xs:List (List UInt8)} (B0:Blk N0 b0 e0 [.slice pf xs.length cf,.slice pw xs.length cw,v2,v3,v4]) (rF:Row NF 23 1 pf xs.length cf vf) (rW:Row NW 23 1 pw xs.length cw vw) (hI:Bag 5 NI vf xs) (hK:Bags NK vw xs):
 Fn Tryz.prog 56 #[.pointer (some ⟨b0,0,none⟩)] [N0,NF,NW,NK,NI] [] (fun v L=>v=.bool true∧L= [N0,NF,NW,NK,NI]):=by
 have sF:=rF.rsl
 have sW:=rW.rsl
 have hcf:=sF.cap63
 have hcw:=sW.cap63
 refine Fn.enter (vs:= [.pointer (some ⟨b0,0,none⟩)]) Tryz.func56 rfl rfl rfl ?_
 intro E R hR
 change At _ _ E [N0,NF,NW,NK,NI,R] _
 refine At.seq fun _ s_1=>At.region (aE (aD rfl) rfl rfl (aA (aB (s_1 (At.seq fun _ s_2=>At.seq fun _ s_3=>At.region (aE (aD rfl) rfl rfl (aA (aB (s_3 (At.block (At.loop (fun fr_ hp_ ms_=> ∃(i:Nat),fr_= [(0,.pointer (some ⟨b0,0,none⟩)),(3,.int .i64 (i:Int))]∧hp_= [N0,NF,NW,NK,NI,R]∧xs.length- i=ms_∧(i≤xs.length)) ?_ (.refl _) ⟨0,rfl,rfl,rfl,by omega⟩ ?_)))))))))))
 ·exact .cons (by first|exact aP rfl (by omega)|rfl) (.cons (by first|exact aP rfl (by omega)|rfl) .nil)
 rintro _ _ _ ⟨i,rfl,rfl,rfl,hi⟩
 refine At.seq fun _ s_4=>At.seq fun _ s_5=>At.region (aC (aD rfl) rfl rfl (aC (aD rfl) rfl rfl (aQ (aD rfl) rfl rfl (aF (aD rfl) fl58_0 rfl rfl (aI (aD rfl) sc22 rfl B0 (by first|rfl) aL rfl ?_)))))
 refine aU (aD rfl) se22 rfl rfl (op_lss (aD rfl) rfl rfl rfl (aA (aB (s_5 (aK rfl (fun c10=>?_) (fun c10=>?_))))))
 ·obtain⟨x,hx⟩:=get_lt (xs:=xs) (i:=i) (by omega)
  obtain⟨p,c,hv,hr⟩:=hI.row i x hx
  obtain⟨q,d,hv2,hr2⟩:=hK.rsl i x hx
  have hrs:=hr.rsl
  refine At.skip (aB (s_4 (At.seq fun _ s_6=>At.block (At.seq fun _ s_7=>At.drawnS [N0,NF,NW,NK,NI,R] [] [] [0,1,2,3,4,5,6,7,8,9,10,11,12,13,14,15,16] (by kernel_rfl) (by kernel_rfl) (.refl _) (aC (aX rfl rfl rfl) rfl rfl (aQ (aX rfl rfl rfl) rfl rfl (aF (aX rfl rfl rfl) fl58_0 rfl rfl (aI (aX rfl rfl rfl) sc22 rfl B0 (by first|rfl) aL rfl ?_))))))))
  refine aC (aX rfl rfl rfl) rfl rfl (bI (aX rfl rfl rfl) se22 rfl rfl sF (show _=(((i:Nat)):Int)from by omega) (by omega) rfl ?_)
  refine aT (aX rfl rfl rfl) sc23 rfl sF (by first|exact get8 (by omega)|exact bT (by omega)|exact bU (by omega)|exact hv) (by first|exact aL|exact aZ|exact bB|exact bF|exact bG|exact bH|exact bL|exact bK|exact bJ|exact bM) rfl ?_
  refine op_str (aX rfl rfl rfl) Tryz.underlying23 Tryz.underlying5 Tryz.underlying9 rfl (by assumption) (by first|exact aL|exact aZ|exact bB|exact bF|exact bG|exact bH|exact bL|exact bK|exact bJ|exact bM) rfl ?_
  refine aC (aX rfl rfl rfl) rfl rfl (aQ (aX rfl rfl rfl) rfl rfl (aF (aX rfl rfl rfl) fl58_1 rfl rfl (aI (aX rfl rfl rfl) sc22 rfl B0 (by first|rfl) aL rfl ?_)))
  refine aC (aX rfl rfl rfl) rfl rfl (bI (aX rfl rfl rfl) se22 rfl rfl sW (show _=(((i:Nat)):Int)from by omega) (by omega) rfl ?_)
  refine aT (aX rfl rfl rfl) sc23 rfl sW (by first|exact get8 (by omega)|exact bT (by omega)|exact bU (by omega)|exact hv2) (by first|exact aL|exact aZ|exact bB|exact bF|exact bG|exact bH|exact bL|exact bK|exact bJ|exact bM) rfl ?_
  refine op_str (aX rfl rfl rfl) Tryz.underlying23 Tryz.underlying5 Tryz.underlying9 rfl (by assumption) (by first|exact aL|exact aZ|exact bB|exact bF|exact bG|exact bH|exact bL|exact bK|exact bJ|exact bM) rfl ?_
  refine op_neS (aX rfl rfl rfl) rfl rfl rfl (At.sNil (aB (s_7 (aK rfl (fun c29=>?_) (fun c29=>?_)))))
  ·exact absurd rfl c29
  refine At.skip (aR (aB (s_6 (At.region (aC (aD rfl) rfl rfl (aV (aD rfl) rfl rfl (by omega) (by omega) rfl (aE (aD rfl) rfl rfl (aA (aB (bD ?_ (.refl _) ⟨i+1,rfl,rfl,rfl,by omega⟩ ?_))))))))))
  ·exact .cons (by first|exact aP rfl (by omega)|rfl) (.cons (by first|exact aP rfl (by omega)|rfl) .nil)
  ·omega
 refine At.exit (aG (aG (bC (aB (s_2 (At.seq fun _ s_8=>At.region (aE (aD rfl) rfl rfl (aA (aB (s_8 (At.ret ((aW (L1:= [N0,NF,NW,NK,NI]) rfl (.tmp rfl .nil) (.refl _) (.refl _) ?_)))))))))))))
 exact⟨rfl,rfl⟩
end Go.Proofs.YtdpjbefeabokgaaGreat
/- quarrykeep.Book: what was taken in is written full, grown, looked at again: plain laws, and the look. No condition. -/
namespace Go.Proofs.YtdpjbefeabokgaaGreat
open Go Go.RowKit
def mk1 (i m:Nat):List UInt8:=List.replicate m (UInt8.ofNat (i % 125))
def mk2 (i k:Nat):List UInt8:=List.replicate k (UInt8.ofNat (125+i % 125))
theorem length_mk1 (i m:Nat):(mk1 i m).length=m:=List.length_replicate
theorem length_mk2 (i m:Nat):(mk2 i m).length=m:=List.length_replicate
theorem getD_rep {n k:Nat} {x z:UInt8} (h:k<n):(List.replicate n x).getD k z=x:=by
 rw [List.getD_eq_getElem?_getD,List.getElem?_replicate_of_lt h];rfl
theorem look1 {i m K k:Nat} (h:k<m):(mk1 i m++mk2 i K).getD k 0=UInt8.ofNat (i % 125):=by
 rw [List.getD_eq_getElem?_getD,List.getElem?_append_left (by rw [length_mk1];exact h), ←List.getD_eq_getElem?_getD]
 exact getD_rep h
theorem look2 {i m K k:Nat} (h:m≤k) (hk:k<m+K):(mk1 i m++mk2 i K).getD k 0=UInt8.ofNat (125+i % 125):=by
 rw [List.getD_eq_getElem?_getD,List.getElem?_append_right (by rw [length_mk1];exact h),length_mk1, ←List.getD_eq_getElem?_getD]
 exact getD_rep (by omega)
theorem look0 {i m k:Nat} (h:k<m):(mk1 i m).getD k 0=UInt8.ofNat (i % 125):=getD_rep h
theorem mk2_succ (i k:Nat):mk2 i (k+1)=mk2 i k++ [UInt8.ofNat (125+i % 125)]:=List.replicate_succ'
theorem take_mk {i m K k:Nat} (h:k≤K):(mk1 i m++mk2 i K).take (m+k)=mk1 i m++mk2 i k:=by
 rw [List.take_append,length_mk1,List.take_of_length_le (by rw [length_mk1];omega),Nat.add_sub_cancel_left]
 congr 1
 rw [mk2,List.take_replicate,Nat.min_eq_left h];rfl
theorem take_mk1 {i m K:Nat} :(mk1 i m++mk2 i K).take m=mk1 i m:=by
 rw [List.take_append,length_mk1,List.take_of_length_le (by rw [length_mk1];omega),Nat.sub_self,List.take_zero,List.append_nil]
theorem mark_set {y:List UInt8} {i k:Nat} (hk:k<y.length) (h:y.take k=mk1 i k):(y.set k (UInt8.ofNat (i % 125))).take (k+1)=mk1 i (k+1):=by
 rw [List.take_succ_eq_append_getElem (by rw [List.length_set];exact hk),List.take_set_of_le (Nat.le_refl _),h,List.getElem_set_self]
 exact List.replicate_succ'.symm
/-- Grown slices, each in the block of its elder or in one of its own. -/
def Ones (K:Nat) (NI:Heaplet) (vf vo:List Value) (i:Nat):Prop:= ∀j,j<i→ ∃p m c q d,vf[j]? =some (Value.slice p m c)∧vo[j]? =some (Value.slice q (m+K) d)∧Row NI 5 1 q (m+K) d (u8s (mk1 j m++mk2 j K))∧((q=p∧d=c)∨q≠p)∧
 ∀(j':Nat) (p':Option Addr) (m' c':Nat),j'≠j→vf[j']? =some (Value.slice p' m' c')→p'=none∨p'≠q
/-- One of them grows. -/
structure One (gs:List (List UInt8)) (vf vo:List Value) (i m:Nat) (p:Option Addr) (c K:Nat) (NI:Heaplet) (q:Option Addr) (d k:Nat):Prop where
 hg:Bag 5 NI vf gs
 ho:Ones K NI vf vo i
 hq:Row NI 5 1 q (m+k) d (u8s (mk1 i m++mk2 i k))
 hqp:(q=p∧d=c)∨q≠p
 hqa: ∀(j':Nat) (p':Option Addr) (m' c':Nat),j'≠i→vf[j']? =some (Value.slice p' m' c')→p'=none∨p'≠q
 hqo: ∀j,j<i→ ∀(q':Option Addr) (m' d':Nat),vo[j]? =some (Value.slice q' m' d')→q'≠q
theorem Row.some_of_pos {N:Heaplet} {e:TypeId} {size:Nat} {ao:Option Addr} {n cap:Nat} {xs:List Value} (h:Row N e size ao n cap xs) (hn:0<n): ∃b o,ao=some ⟨b,0,none⟩∧N b=some o:=by
 rcases h.block with ⟨_,h0,_⟩|h
 ·omega
 ·exact h
theorem u8s_take1 {l:List UInt8} {m:Nat} :(u8s l).take (m*1)=u8s (l.take m):=by rw [Nat.mul_one,u8s_take]
/-- The bag behind an append at one of its blocks, or in a new one. -/
theorem bag_app {gs:List (List UInt8)} {vf:List Value} {i m c d d' n' K:Nat} {p q q':Option Addr} {NI NJ:Heaplet} (hg:Bag 5 NI vf gs) (hx:gs[i]? =some (mk1 i m)) (hv:vf[i]? =some (Value.slice p m c)) (hqp:(q=p∧d=c)∨q≠p)
 (hqa: ∀(j':Nat) (p':Option Addr) (m' c':Nat),j'≠i→vf[j']? =some (Value.slice p' m' c')→p'=none∨p'≠q) (rJ:Row NJ 5 1 q' (m+K) d' (u8s (mk1 i m++mk2 i K))) (oJ:App NI NJ q d q' d' n'):Bag 5 NJ vf gs:=by
 rcases oJ with ⟨rfl,rfl,_,ho⟩|⟨hle,_⟩
 ·refine⟨hg.len,fun j x hj=>?_,hg.apart⟩
  obtain⟨p',c',h1,h2⟩:=hg.row j x hj
  refine⟨p',c',h1,?_⟩
  by_cases hji:j=i
  ·subst hji
   rw [hx]at hj;cases hj
   rw [length_mk1]at h1 h2⊢
   rw [hv]at h1
   simp only [Option.some.injEq,Value.slice.injEq,true_and]at h1
   obtain⟨rfl,rfl⟩:=h1
   rcases hqp with ⟨rfl,rfl⟩|hne
   ·obtain⟨b,hb,_⟩:=ho
    exact rJ.first (Nat.le_add_right ..) (by rw [u8s_take1,take_mk1]) (by rw [hb];simp)
   ·exact h2.off ho (.inr fun e=>hne e.symm)
  ·exact h2.off ho (hqa j p' _ _ hji h1)
 ·exact hg.le hle
theorem ones_app {K d d' n' n:Nat} {vf vo:List Value} {q q':Option Addr} {NI NJ:Heaplet} (ho:Ones K NI vf vo n) (hne: ∀j,j<n→ ∀(q0:Option Addr) (m0 d0:Nat),vo[j]? =some (Value.slice q0 m0 d0)→q0≠q) (oJ:App NI NJ q d q' d' n'):Ones K NJ vf vo n:=by
 intro j hj
 obtain⟨p,m,c,q0,d0,h1,h2,h3,h4,h5⟩:=ho j hj
 refine⟨p,m,c,q0,d0,h1,h2,?_,h4,h5⟩
 rcases oJ with ⟨_,_,_,hoff⟩|⟨hle,_⟩
 ·exact h3.off hoff (.inr (hne j hj _ _ _ h2))
 ·exact h3.le hle
theorem fresh_ne {N:Heaplet} {e:TypeId} {size:Nat} {ao q':Option Addr} {n cap b:Nat} {xs:List Value} (h:Row N e size ao n cap xs) (hq:q'=some ⟨b,0,none⟩) (hb:N b=none):ao=none∨ao≠q':=by
 rcases h.block with ⟨h0,_⟩|⟨b',o,hb',ho⟩
 ·exact .inl h0
 ·refine .inr fun e=>?_
  rw [hb',hq]at e
  cases e
  rw [hb]at ho;cases ho
theorem One.step {gs:List (List UInt8)} {vf vo:List Value} {i m c K d d' k:Nat} {p q q':Option Addr} {NI NJ:Heaplet} (h:One gs vf vo i m p c K NI q d k) (hx:gs[i]? =some (mk1 i m)) (hv:vf[i]? =some (Value.slice p m c)) (rJ:Row NJ 5 1 q' (m+(k+1)) d' (u8s (mk1 i m++mk2 i (k+1)))) (oJ:App NI NJ q d q' d' (m+k+1)):
 One gs vf vo i m p c K NJ q' d' (k+1):=by
 refine⟨bag_app h.hg hx hv h.hqp h.hqa rJ oJ,ones_app h.ho h.hqo oJ,rJ,?_,?_,?_⟩
 ·rcases oJ with ⟨rfl,rfl,_,_⟩|⟨_,b,hb,hN⟩
  ·exact h.hqp
  ·obtain⟨p0,c0,h1,h2⟩:=h.hg.row i _ hx
   rw [length_mk1,hv]at h1
   simp only [Option.some.injEq,Value.slice.injEq,true_and]at h1
   obtain⟨rfl,rfl⟩:=h1
   refine .inr fun e=>?_
   rcases fresh_ne h2 hb hN with h0|h0
   ·rw [h0]at e;rw [e]at hb;cases hb
   ·exact h0 e.symm
 ·rcases oJ with ⟨rfl,rfl,_,_⟩|⟨_,b,hb,hN⟩
  ·exact h.hqa
  ·intro j' p' m' c' hj hv'
   obtain⟨y,hy⟩: ∃y,gs[j']? =some y:=⟨_,List.getElem?_eq_getElem (by rw [←h.hg.len];exact(List.getElem?_eq_some_iff.1 hv').1)⟩
   obtain⟨p0,c0,h1,h2⟩:=h.hg.row j' y hy
   rw [hv']at h1
   simp only [Option.some.injEq,Value.slice.injEq]at h1
   obtain⟨rfl,rfl,rfl⟩:=h1
   exact fresh_ne h2 hb hN
 ·rcases oJ with ⟨rfl,rfl,_,_⟩|⟨_,b,hb,hN⟩
  ·exact h.hqo
  ·intro j hj q0 m0 d0 hv0
   obtain⟨p1,m1,c1,q1,d1,h1,h2,h3,h4,h5⟩:=h.ho j hj
   rw [hv0]at h2
   simp only [Option.some.injEq,Value.slice.injEq]at h2
   obtain⟨rfl,rfl,rfl⟩:=h2
   intro e
   rcases fresh_ne h3 hb hN with h0|h0
   ·rw [h0]at e;rw [←e]at hb;cases hb
   ·exact h0 e
theorem One.start {gs:List (List UInt8)} {vf vo:List Value} {i m c K:Nat} {p:Option Addr} {NI:Heaplet} (hK:0<K) (hg:Bag 5 NI vf gs) (ho:Ones K NI vf vo i) (hx:gs[i]? =some (mk1 i m)) (hv:vf[i]? =some (Value.slice p m c)):One gs vf vo i m p c K NI p c 0:=by
 refine⟨hg,ho,?_,.inl ⟨rfl,rfl⟩,fun j' p' m' c' hj hv'=>hg.apart j' i p' p _ _ _ _ hj hv' hv,fun j hj q0 m0 d0 hv0 e=>?_⟩
 ·obtain⟨p0,c0,h1,h2⟩:=hg.row i _ hx
  rw [length_mk1,hv]at h1
  simp only [Option.some.injEq,Value.slice.injEq,true_and]at h1
  obtain⟨rfl,rfl⟩:=h1
  rw [length_mk1]at h2
  rw [Nat.add_zero,show mk2 i 0= []from rfl,List.append_nil]
  exact h2
 ·obtain⟨p1,m1,c1,q1,d1,h1,h2,h3,h4,h5⟩:=ho j hj
  rw [hv0]at h2
  simp only [Option.some.injEq,Value.slice.injEq]at h2
  obtain⟨rfl,rfl,rfl⟩:=h2
  obtain⟨b,o,hb,_⟩:=h3.some_of_pos (by omega)
  rcases h5 i p m c (by omega) hv with h0|h0
  ·rw [hb,h0]at e;cases e
  ·exact h0 e.symm
theorem One.ones {gs:List (List UInt8)} {vf vo:List Value} {i m c K d:Nat} {p q:Option Addr} {NI:Heaplet} (h:One gs vf vo i m p c K NI q d K) (hv:vf[i]? =some (Value.slice p m c)) (hl:vo.length=i):Ones K NI vf (vo++ [Value.slice q (m+K) d]) (i+1):=by
 intro j hj
 rcases Nat.lt_or_ge j i with hji|hji
 ·obtain⟨p1,m1,c1,q1,d1,h1,h2,h3,h4,h5⟩:=h.ho j hji
  exact⟨p1,m1,c1,q1,d1,h1,get_snoc_l h2,h3,h4,h5⟩
 ·obtain rfl:j=i:=by omega
  exact⟨p,m,c,q,d,hv,get_snoc_r hl.symm,h.hq,h.hqp,h.hqa⟩
/-- The longer growth. -/
theorem many_step {gs:List (List UInt8)} {vf vo vm:List Value} {i m c d' n K1 K2:Nat} {p q':Option Addr} {NI NJ:Heaplet} (hK:K1≤K2) (h1:0<K1) (hi:i<n) (hg:Bag 5 NI vf gs) (ho:Ones K1 NI vf vo n) (hm:Ones K2 NI vf vm i) (hl:vm.length=i) (hx:gs[i]? =some (mk1 i m)) (hv:vf[i]? =some (Value.slice p m c))
 (rJ:Row NJ 5 1 q' (m+K2) d' (u8s (mk1 i m++mk2 i K2))) (oJ:App NI NJ p c q' d' (m+K2)):Bag 5 NJ vf gs∧Ones K1 NJ vf vo n∧Ones K2 NJ vf (vm++ [Value.slice q' (m+K2) d']) (i+1):=by
 have hs:=One.start (Nat.lt_of_lt_of_le h1 hK) hg hm hx hv
 have hB:=bag_app hg hx hv hs.hqp hs.hqa rJ oJ
 refine⟨hB,?_,?_⟩
 ·intro j hj
  obtain⟨p1,m1,c1,q1,d1,e1,e2,e3,e4,e5⟩:=ho j hj
  refine⟨p1,m1,c1,q1,d1,e1,e2,?_,e4,e5⟩
  rcases oJ with ⟨rfl,rfl,_,hoff⟩|⟨hle,_⟩
  ·by_cases hji:j=i
   ·subst hji
    rw [hv]at e1
    simp only [Option.some.injEq,Value.slice.injEq]at e1
    obtain⟨rfl,rfl,rfl⟩:=e1
    rcases e4 with ⟨rfl,rfl⟩|hne
    ·obtain⟨b,hb,_⟩:=hoff
     exact rJ.first (by omega) (by rw [u8s_take1,take_mk hK]) (by rw [hb];simp)
    ·exact e3.off hoff (.inr hne)
   ·obtain⟨b,o,hb,_⟩:=e3.some_of_pos (by omega)
    refine e3.off hoff (.inr fun e=>?_)
    rcases e5 i _ m _ (fun e=>hji e.symm) hv with h0|h0
    ·rw [hb,h0]at e;cases e
    ·exact h0 e.symm
  ·exact e3.le hle
 ·intro j hj
  rcases Nat.lt_or_ge j i with hji|hji
  ·obtain⟨p1,m1,c1,q1,d1,e1,e2,e3,e4,e5⟩:=ones_app hm hs.hqo oJ j hji
   exact⟨p1,m1,c1,q1,d1,e1,get_snoc_l e2,e3,e4,e5⟩
  ·obtain rfl:j=i:=by omega
   refine⟨p,m,c,q',d',hv,get_snoc_r hl.symm,rJ,?_,?_⟩
   ·rcases oJ with ⟨rfl,rfl,_,_⟩|⟨_,b,hb,hN⟩
    ·exact .inl ⟨rfl,rfl⟩
    ·refine .inr fun e=>?_
     have h2:=hs.hq
     rcases fresh_ne h2 hb hN with h0|h0
     ·rw [h0]at e;rw [e]at hb;cases hb
     ·exact h0 e.symm
   ·rcases oJ with ⟨rfl,rfl,_,_⟩|⟨_,b,hb,hN⟩
    ·exact hs.hqa
    ·intro j' p' m' c' hj' hv'
     obtain⟨y,hy⟩: ∃y,gs[j']? =some y:=⟨_,List.getElem?_eq_getElem (by rw [←hg.len];exact(List.getElem?_eq_some_iff.1 hv').1)⟩
     obtain⟨p0,c0,h1,h2⟩:=hg.row j' y hy
     rw [hv']at h1
     simp only [Option.some.injEq,Value.slice.injEq]at h1
     obtain⟨rfl,rfl,rfl⟩:=h1
     exact fresh_ne h2 hb hN
set_option maxRecDepth 100000 in
theorem BookLook_o {K b0 nn cf co:Nat} {N0 NF NI NO:Heaplet} {e0:TypeId} {pf po:Option Addr} {v1 v2 v3 v4:Value} {vf vo:List Value} (B0:Blk N0 b0 e0 [.slice pf nn cf,v1,v2,v3,v4]) (sF:RSl NF 1 pf nn cf vf) (sO:RSl NO 1 po nn co vo)
 (hb: ∀i,i<nn→ ∃m p c q d,vf[i]? =some (Value.slice p m c)∧RSl NI 1 p m c (u8s (mk1 i m))∧vo[i]? =some (Value.slice q (m+K) d)∧RSl NI 1 q (m+K) d (u8s (mk1 i m++mk2 i K))):
 Fn Tryz.prog 81 #[.pointer (some ⟨b0,0,none⟩),.slice po nn co] [N0,NF,NI] [NO] (fun v L=>v=.bool true∧L= [N0,NF,NI]):=by
 have hcf:=sF.cap63
 refine Fn.enter (vs:= [.pointer (some ⟨b0,0,none⟩),.slice po nn co]) Tryz.func81 rfl rfl rfl ?_
 intro E R hR
 have sO:=sO.le (hR NO (by simp))
 change At _ _ E [N0,NF,NI,R] _
 refine At.seq fun _ s_1=>At.region (aE (aD rfl) rfl rfl (aA (aB (s_1 (At.seq fun _ s_2=>At.seq fun _ s_3=>At.region (aE (aD rfl) rfl rfl (aA (aB (s_3 (At.block (At.loop (fun fr_ hp_ ms_=> ∃(i:Nat),fr_= [(0,.pointer (some ⟨b0,0,none⟩)),(1,.slice po nn co),(5,.int .i64 (i:Int))]∧hp_= [N0,NF,NI,R]∧nn- i=ms_∧(i≤nn)) ?_ (.refl _) ⟨0,rfl,rfl,rfl,by omega⟩ ?_)))))))))))
 ·exact .cons (by first|exact aP rfl (by omega)|rfl) (.cons (by first|exact aP rfl (by omega)|rfl) (.cons (by first|exact aP rfl (by omega)|rfl) .nil))
 rintro _ _ _ ⟨i,rfl,rfl,rfl,hi⟩
 refine At.seq fun _ s_4=>At.seq fun _ s_5=>At.region (aC (aD rfl) rfl rfl (aC (aD rfl) rfl rfl (aU (aD rfl) se22 rfl rfl (op_lss (aD rfl) rfl rfl rfl (aA (aB (s_5 (aK rfl (fun c11=>?_) (fun c11=>?_)))))))))
 ·obtain⟨m,p,c,q,d,hv,hr,hv2,hr2⟩:=hb i (by omega)
  have hcap:=hr2.cap63
  have hl1:=length_mk1 i m
  have hl2:(mk1 i m++mk2 i K).length=m+K:=by rw [List.length_append,length_mk1,length_mk2]
  refine At.skip (aB (s_4 (At.seq fun _ s_6=>At.block (At.seq fun _ s_7=>At.region (aC (aD rfl) rfl rfl (aQ (aD rfl) rfl rfl (aF (aD rfl) fl58_0 rfl rfl (aI (aD rfl) sc22 rfl B0 (by first|rfl) aL rfl ?_))))))))
  refine aC (aD rfl) rfl rfl (bI (aD rfl) se22 rfl rfl sF (show _=(((i:Nat)):Int)from by omega) (by omega) rfl ?_)
  refine aT (aD rfl) sc23 rfl sF (by first|exact get8 (by omega)|exact bT (by omega)|exact bU (by omega)|exact hv) (by first|exact aL|exact aZ|exact bB|exact bF|exact bG|exact bH|exact bL|exact bK|exact bJ|exact bM) rfl ?_
  refine aU (aD rfl) se23 rfl rfl (aE (aD rfl) rfl rfl (aA (aB (s_7 (At.seq fun _ s_8=>At.region (aE (aD rfl) rfl rfl (aA (aB (s_8 (At.block (At.loop (fun fr_ hp_ ms_=> ∃(k:Nat),fr_= [(0,.pointer (some ⟨b0,0,none⟩)),(1,.slice po nn co),(5,.int .i64 (i:Int)),(6,.int .i64 (m:Int)),(7,.int .i64 (k:Int))]∧hp_= [N0,NF,NI,R]∧m+K- k=ms_∧(k≤m+K)) ?_ (.refl _) ⟨0,rfl,rfl,rfl,by omega⟩ ?_)))))))))))
  ·exact .cons (by first|exact aP rfl (by omega)|rfl) (.cons (by first|exact aP rfl (by omega)|rfl) (.cons (by first|exact aP rfl (by omega)|rfl) (.cons (by first|exact aP rfl (by omega)|rfl) (.cons (by first|exact aP rfl (by omega)|rfl) .nil))))
  rintro _ _ _ ⟨k,rfl,rfl,rfl,hk⟩
  refine At.seq fun _ s_9=>At.seq fun _ s_10=>At.region (aC (aD rfl) rfl rfl (aC (aD rfl) rfl rfl (aC (aD rfl) rfl rfl (bI (aD rfl) se22 rfl rfl sO (show _=(((i:Nat)):Int)from by omega) (by omega) rfl ?_))))
  refine aT (aD rfl) sc23 rfl sO (by first|exact get8 (by omega)|exact bT (by omega)|exact bU (by omega)|exact hv2) (by first|exact aL|exact aZ|exact bB|exact bF|exact bG|exact bH|exact bL|exact bK|exact bJ|exact bM) rfl ?_
  refine aU (aD rfl) se23 rfl rfl (op_lss (aD rfl) rfl rfl rfl (aA (aB (s_10 (aK rfl (fun c28=>?_) (fun c28=>?_))))))
  ·refine At.skip (aB (s_9 (At.seq fun _ s_11=>At.block (At.seq fun _ s_12=>At.region (aC (aD rfl) rfl rfl (aC (aD rfl) rfl rfl (op_lss (aD rfl) rfl rfl rfl (aC (aD rfl) rfl rfl (At.partP (d:=34) rfl (fun g34=>?_) (fun g34=>?_))))))))))
   ·refine aC (aY rfl rfl rfl rfl) rfl rfl (aC (aY rfl rfl rfl rfl) rfl rfl (bI (aY rfl rfl rfl rfl) se22 rfl rfl sO (show _=(((i:Nat)):Int)from by omega) (by omega) rfl ?_))
    refine aT (aY rfl rfl rfl rfl) sc23 rfl sO (by first|exact get8 (by omega)|exact bT (by omega)|exact bU (by omega)|exact hv2) (by first|exact aL|exact aZ|exact bB|exact bF|exact bG|exact bH|exact bL|exact bK|exact bJ|exact bM) rfl ?_
    refine aC (aY rfl rfl rfl rfl) rfl rfl (bI (aY rfl rfl rfl rfl) se23 rfl rfl hr2 (show _=(((k:Nat)):Int)from by omega) (by omega) rfl ?_)
    refine aT (aY rfl rfl rfl rfl) sc5 rfl hr2 (by first|exact get8 (by omega)|exact bT (by omega)|exact bU (by omega)) (by first|exact aL|exact aZ|exact bB|exact bF|exact bG|exact bH|exact bL|exact bK|exact bJ|exact bM) rfl ?_
    refine aC (aY rfl rfl rfl rfl) rfl rfl (op_rem (aY rfl rfl rfl rfl) rfl rfl (by omega) (by omega) rfl (op_conv8 (aY rfl rfl rfl rfl) (und_some Tryz.underlying3) Tryz.underlying5 rfl (show _=(((i % 125:Nat)):Int)from by omega) rfl ?_))
    refine op_neq (aY rfl rfl rfl rfl) rfl rfl rfl (aC (aY rfl rfl rfl rfl) rfl rfl (At.partP (d:=46) rfl (fun g46=>?_) (fun g46=>?_)))
    ·exact absurd (by rw [look1 (by omega)]) g46
    refine aC (aY rfl rfl rfl rfl) rfl rfl (aQ (aY rfl rfl rfl rfl) rfl rfl (aF (aY rfl rfl rfl rfl) fl58_0 rfl rfl (aI (aY rfl rfl rfl rfl) sc22 rfl B0 (by first|rfl) aL rfl ?_)))
    refine aC (aY rfl rfl rfl rfl) rfl rfl (bI (aY rfl rfl rfl rfl) se22 rfl rfl sF (show _=(((i:Nat)):Int)from by omega) (by omega) rfl ?_)
    refine aT (aY rfl rfl rfl rfl) sc23 rfl sF (by first|exact get8 (by omega)|exact bT (by omega)|exact bU (by omega)|exact hv) (by first|exact aL|exact aZ|exact bB|exact bF|exact bG|exact bH|exact bL|exact bK|exact bJ|exact bM) rfl ?_
    refine aC (aY rfl rfl rfl rfl) rfl rfl (bI (aY rfl rfl rfl rfl) se23 rfl rfl hr (show _=(((k:Nat)):Int)from by omega) (by omega) rfl ?_)
    refine aT (aY rfl rfl rfl rfl) sc5 rfl hr (by first|exact get8 (by omega)|exact bT (by omega)|exact bU (by omega)) (by first|exact aL|exact aZ|exact bB|exact bF|exact bG|exact bH|exact bL|exact bK|exact bJ|exact bM) rfl ?_
    refine aC (aY rfl rfl rfl rfl) rfl rfl (op_rem (aY rfl rfl rfl rfl) rfl rfl (by omega) (by omega) rfl (op_conv8 (aY rfl rfl rfl rfl) (und_some Tryz.underlying3) Tryz.underlying5 rfl (show _=(((i % 125:Nat)):Int)from by omega) rfl ?_))
    refine op_neq (aY rfl rfl rfl rfl) rfl rfl rfl (bR (aY rfl rfl rfl rfl) rfl rfl rfl (bS (aD rfl) rfl rfl rfl (aC (aD rfl) rfl rfl (At.partP (d:=63) rfl (fun g63=>?_) (fun g63=>?_)))))
    ·exact absurd (by rw [look0 (by omega)]) g63
    refine aC (aY rfl rfl rfl rfl) rfl rfl (aC (aY rfl rfl rfl rfl) rfl rfl (op_geq (aY rfl rfl rfl rfl) rfl rfl rfl (aC (aY rfl rfl rfl rfl) rfl rfl (At.partP (d:=67) rfl (fun g67=>?_) (fun g67=>?_)))))
    ·refine aC (aY rfl rfl rfl rfl) rfl rfl (aC (aY rfl rfl rfl rfl) rfl rfl (bI (aY rfl rfl rfl rfl) se22 rfl rfl sO (show _=(((i:Nat)):Int)from by omega) (by omega) rfl ?_))
     refine aT (aY rfl rfl rfl rfl) sc23 rfl sO (by first|exact get8 (by omega)|exact bT (by omega)|exact bU (by omega)|exact hv2) (by first|exact aL|exact aZ|exact bB|exact bF|exact bG|exact bH|exact bL|exact bK|exact bJ|exact bM) rfl ?_
     refine aC (aY rfl rfl rfl rfl) rfl rfl (bI (aY rfl rfl rfl rfl) se23 rfl rfl hr2 (show _=(((k:Nat)):Int)from by omega) (by omega) rfl ?_)
     refine aT (aY rfl rfl rfl rfl) sc5 rfl hr2 (by first|exact get8 (by omega)|exact bT (by omega)|exact bU (by omega)) (by first|exact aL|exact aZ|exact bB|exact bF|exact bG|exact bH|exact bL|exact bK|exact bJ|exact bM) rfl ?_
     refine aC (aY rfl rfl rfl rfl) rfl rfl (op_rem (aY rfl rfl rfl rfl) rfl rfl (by omega) (by omega) rfl (aV (aY rfl rfl rfl rfl) rfl rfl (by omega) (by omega) rfl (op_conv8 (aY rfl rfl rfl rfl) (und_some Tryz.underlying3) Tryz.underlying5 rfl (show _=(((125+i % 125:Nat)):Int)from by omega) rfl ?_)))
     refine op_neq (aY rfl rfl rfl rfl) rfl rfl rfl (bS (aY rfl rfl rfl rfl) rfl rfl rfl (bR (aD rfl) rfl rfl rfl (aA (aB (s_12 (aK rfl (fun c81=>?_) (fun c81=>?_)))))))
     ·first|(exfalso;omega)|exact absurd (by rw [look2 (by omega) (by omega)]) c81
     refine At.skip (aR (aB (s_11 (At.region (aC (aD rfl) rfl rfl (aV (aD rfl) rfl rfl (by omega) (by omega) rfl (aE (aD rfl) rfl rfl (aA (aB (bD ?_ (.refl _) ⟨k+1,rfl,rfl,rfl,by omega⟩ ?_))))))))))
     ·exact .cons (by first|exact aP rfl (by omega)|rfl) (.cons (by first|exact aP rfl (by omega)|rfl) (.cons (by first|exact aP rfl (by omega)|rfl) (.cons (by first|exact aP rfl (by omega)|rfl) (.cons (by first|exact aP rfl (by omega)|rfl) .nil))))
     ·omega
    refine aH rfl rfl rfl rfl rfl rfl rfl (aH rfl rfl rfl rfl rfl rfl rfl (aH rfl rfl rfl rfl rfl rfl rfl (aH rfl rfl rfl rfl rfl rfl rfl (aH rfl rfl rfl rfl rfl rfl rfl (aH rfl rfl rfl rfl rfl rfl rfl (aH rfl rfl rfl rfl rfl rfl rfl (aH rfl rfl rfl rfl rfl rfl rfl (aH rfl rfl rfl rfl rfl rfl rfl (aH rfl rfl rfl rfl rfl rfl rfl (aH rfl rfl rfl rfl rfl rfl rfl (aH rfl rfl rfl rfl rfl rfl rfl (bR (aY rfl rfl rfl rfl) rfl rfl rfl (bR (aD rfl) rfl rfl rfl (aA (aB (s_12 (At.condF rfl (At.skip (aR (aB (s_11 (At.region ?_))))))))))))))))))))))
    refine aC (aD rfl) rfl rfl (aV (aD rfl) rfl rfl (by omega) (by omega) rfl (aE (aD rfl) rfl rfl (aA (aB (bD ?_ (.refl _) ⟨k+1,rfl,rfl,rfl,by omega⟩ ?_)))))
    ·exact .cons (by first|exact aP rfl (by omega)|rfl) (.cons (by first|exact aP rfl (by omega)|rfl) (.cons (by first|exact aP rfl (by omega)|rfl) (.cons (by first|exact aP rfl (by omega)|rfl) (.cons (by first|exact aP rfl (by omega)|rfl) .nil))))
    ·omega
   refine aH rfl rfl rfl rfl rfl rfl rfl (aH rfl rfl rfl rfl rfl rfl rfl (aH rfl rfl rfl rfl rfl rfl rfl (aH rfl rfl rfl rfl rfl rfl rfl (aH rfl rfl rfl rfl rfl rfl rfl (aH rfl rfl rfl rfl rfl rfl rfl (aH rfl rfl rfl rfl rfl rfl rfl (aH rfl rfl rfl rfl rfl rfl rfl (aH rfl rfl rfl rfl rfl rfl rfl (aH rfl rfl rfl rfl rfl rfl rfl (aH rfl rfl rfl rfl rfl rfl rfl (aH rfl rfl rfl rfl rfl rfl rfl (op_skipU rfl rfl rfl rfl rfl rfl (op_skipU rfl rfl rfl rfl rfl rfl (op_skipU rfl rfl rfl rfl rfl rfl (op_skipU rfl rfl rfl rfl rfl rfl (op_skipU rfl rfl rfl rfl rfl rfl (op_skipU rfl rfl rfl rfl rfl rfl (op_skipU rfl rfl rfl rfl rfl rfl (op_skipU rfl rfl rfl rfl rfl rfl (op_skipU rfl rfl rfl rfl rfl rfl ?_))))))))))))))))))))
   refine op_skipU rfl rfl rfl rfl rfl rfl (op_skipU rfl rfl rfl rfl rfl rfl (op_skipU rfl rfl rfl rfl rfl rfl (op_skipU rfl rfl rfl rfl rfl rfl (op_skipU rfl rfl rfl rfl rfl rfl (aH rfl rfl rfl rfl rfl rfl rfl (bR (aD rfl) rfl rfl rfl (aC (aD rfl) rfl rfl (aC (aY rfl rfl rfl rfl) rfl rfl (aC (aY rfl rfl rfl rfl) rfl rfl (op_geq (aY rfl rfl rfl rfl) rfl rfl rfl (aC (aY rfl rfl rfl rfl) rfl rfl (At.partP (d:=67) rfl (fun g67=>?_) (fun g67=>?_)))))))))))))
   ·refine aC (aY rfl rfl rfl rfl) rfl rfl (aC (aY rfl rfl rfl rfl) rfl rfl (bI (aY rfl rfl rfl rfl) se22 rfl rfl sO (show _=(((i:Nat)):Int)from by omega) (by omega) rfl ?_))
    refine aT (aY rfl rfl rfl rfl) sc23 rfl sO (by first|exact get8 (by omega)|exact bT (by omega)|exact bU (by omega)|exact hv2) (by first|exact aL|exact aZ|exact bB|exact bF|exact bG|exact bH|exact bL|exact bK|exact bJ|exact bM) rfl ?_
    refine aC (aY rfl rfl rfl rfl) rfl rfl (bI (aY rfl rfl rfl rfl) se23 rfl rfl hr2 (show _=(((k:Nat)):Int)from by omega) (by omega) rfl ?_)
    refine aT (aY rfl rfl rfl rfl) sc5 rfl hr2 (by first|exact get8 (by omega)|exact bT (by omega)|exact bU (by omega)) (by first|exact aL|exact aZ|exact bB|exact bF|exact bG|exact bH|exact bL|exact bK|exact bJ|exact bM) rfl ?_
    refine aC (aY rfl rfl rfl rfl) rfl rfl (op_rem (aY rfl rfl rfl rfl) rfl rfl (by omega) (by omega) rfl (aV (aY rfl rfl rfl rfl) rfl rfl (by omega) (by omega) rfl (op_conv8 (aY rfl rfl rfl rfl) (und_some Tryz.underlying3) Tryz.underlying5 rfl (show _=(((125+i % 125:Nat)):Int)from by omega) rfl ?_)))
    refine op_neq (aY rfl rfl rfl rfl) rfl rfl rfl (bS (aY rfl rfl rfl rfl) rfl rfl rfl (bR (aD rfl) rfl rfl rfl (aA (aB (s_12 (aK rfl (fun c81=>?_) (fun c81=>?_)))))))
    ·first|(exfalso;omega)|exact absurd (by rw [look2 (by omega) (by omega)]) c81
    refine At.skip (aR (aB (s_11 (At.region (aC (aD rfl) rfl rfl (aV (aD rfl) rfl rfl (by omega) (by omega) rfl (aE (aD rfl) rfl rfl (aA (aB (bD ?_ (.refl _) ⟨k+1,rfl,rfl,rfl,by omega⟩ ?_))))))))))
    ·exact .cons (by first|exact aP rfl (by omega)|rfl) (.cons (by first|exact aP rfl (by omega)|rfl) (.cons (by first|exact aP rfl (by omega)|rfl) (.cons (by first|exact aP rfl (by omega)|rfl) (.cons (by first|exact aP rfl (by omega)|rfl) .nil))))
    ·omega
   refine aH rfl rfl rfl rfl rfl rfl rfl (aH rfl rfl rfl rfl rfl rfl rfl (aH rfl rfl rfl rfl rfl rfl rfl (aH rfl rfl rfl rfl rfl rfl rfl (aH rfl rfl rfl rfl rfl rfl rfl (aH rfl rfl rfl rfl rfl rfl rfl (aH rfl rfl rfl rfl rfl rfl rfl (aH rfl rfl rfl rfl rfl rfl rfl (aH rfl rfl rfl rfl rfl rfl rfl (aH rfl rfl rfl rfl rfl rfl rfl (aH rfl rfl rfl rfl rfl rfl rfl (aH rfl rfl rfl rfl rfl rfl rfl (bR (aY rfl rfl rfl rfl) rfl rfl rfl (bR (aD rfl) rfl rfl rfl (aA (aB (s_12 (At.condF rfl (At.skip (aR (aB (s_11 (At.region ?_))))))))))))))))))))))
   refine aC (aD rfl) rfl rfl (aV (aD rfl) rfl rfl (by omega) (by omega) rfl (aE (aD rfl) rfl rfl (aA (aB (bD ?_ (.refl _) ⟨k+1,rfl,rfl,rfl,by omega⟩ ?_)))))
   ·exact .cons (by first|exact aP rfl (by omega)|rfl) (.cons (by first|exact aP rfl (by omega)|rfl) (.cons (by first|exact aP rfl (by omega)|rfl) (.cons (by first|exact aP rfl (by omega)|rfl) (.cons (by first|exact aP rfl (by omega)|rfl) .nil))))
   ·omega
  refine At.exit (aG (aG (bC (aR (aB (s_6 (At.region (aC (aD rfl) rfl rfl (aV (aD rfl) rfl rfl (by omega) (by omega) rfl (aE (aD rfl) rfl rfl (aA (aB (bD ?_ (.refl _) ⟨i+1,rfl,rfl,rfl,by omega⟩ ?_)))))))))))))
  ·exact .cons (by first|exact aP rfl (by omega)|rfl) (.cons (by first|exact aP rfl (by omega)|rfl) (.cons (by first|exact aP rfl (by omega)|rfl) .nil))
  ·omega
 refine At.exit (aG (aG (bC (aB (s_2 (At.seq fun _ s_13=>At.region (aE (aD rfl) rfl rfl (aA (aB (s_13 (At.ret ((aW (L1:= [N0,NF,NI]) rfl (.tmp rfl .nil) (.refl _) (.refl _) ?_)))))))))))))
 exact⟨rfl,rfl⟩
end Go.Proofs.YtdpjbefeabokgaaGreat
/- quarrykeep.Book: Close gives true. No condition. -/
namespace Go.Proofs.YtdpjbefeabokgaaGreat
open Go Go.RowKit
theorem Ones.zero (K:Nat) (NI:Heaplet) (vf vo:List Value):Ones K NI vf vo 0:=fun j hj=>absurd hj (Nat.not_lt_zero j)
/-- What the look asks. -/
theorem look_ready {K nn:Nat} {gs:List (List UInt8)} {vf vo:List Value} {NI:Heaplet} (hg:Bag 5 NI vf gs) (hm: ∀(j:Nat) (x:List UInt8),gs[j]? =some x→x=mk1 j x.length) (hl:gs.length=nn) (ho:Ones K NI vf vo nn):
 ∀i,i<nn→ ∃m p c q d,vf[i]? =some (Value.slice p m c)∧RSl NI 1 p m c (u8s (mk1 i m))∧vo[i]? =some (Value.slice q (m+K) d)∧RSl NI 1 q (m+K) d (u8s (mk1 i m++mk2 i K)):=by
 intro i hi
 obtain⟨p,m,c,q,d,h1,h2,h3,_,_⟩:=ho i hi
 obtain⟨x,hx⟩:=get_lt (xs:=gs) (i:=i) (by omega)
 obtain⟨p',c',e1,e2⟩:=hg.row i x hx
 rw [h1]at e1
 simp only [Option.some.injEq,Value.slice.injEq]at e1
 obtain⟨rfl,rfl,rfl⟩:=e1
 refine⟨x.length,p,c,q,d,h1,?_,h2,h3.rsl⟩
 rw [←hm i x hx]
 exact e2.rsl
theorem mark_all {y:List UInt8} {i k:Nat} (hk:y.length≤k) (h:y.take k=mk1 i k):y=mk1 i y.length:=by
 have e:y.take k=y:=List.take_of_length_le hk
 rw [e]at h
 have hl:=congrArg List.length h
 rw [length_mk1]at hl
 rw [hl];exact h
theorem mark_more {hs:List (List UInt8)} {i:Nat} {y:List UInt8} (h: ∀(j:Nat) (x:List UInt8),j<i→hs[j]? =some x→x=mk1 j x.length) (hy:hs[i]? =some y) (e:y=mk1 i y.length): ∀(j:Nat) (x:List UInt8),j<i+1→hs[j]? =some x→x=mk1 j x.length:=by
 intro j x hj hx
 rcases Nat.lt_or_ge j i with hji|hji
 ·exact h j x hji hx
 ·obtain rfl:j=i:=by omega
  rw [hy]at hx;cases hx;exact e
theorem set_len {hs:List (List UInt8)} {i B:Nat} {y y':List UInt8} (hy:hs[i]? =some y) (hl:y'.length=y.length) (h: ∀(j:Nat) (x:List UInt8),hs[j]? =some x→x.length≤B): ∀(j:Nat) (x:List UInt8),(hs.set i y')[j]? =some x→x.length≤B:=by
 intro j x hx
 by_cases hji:i=j
 ·subst hji
  rw [set_get hy]at hx;cases hx;rw [hl];exact h i y hy
 ·rw [get_set_ne hji]at hx;exact h j x hx
set_option maxRecDepth 100000 in
set_option maxHeartbeats 4000000 in
theorem closeBytes_o {b0 nn cf:Nat} {N0 NF NI:Heaplet} {e0:TypeId} {pf:Option Addr} {w1 v4:Value} {vf:List Value} {xs:List (List UInt8)} (B0:Blk N0 b0 e0 [.slice pf nn cf,w1,.slice none 0 0,.slice none 0 0,v4]) (rF:Row NF 23 1 pf nn cf vf) (hI:Bag 5 NI vf xs) (hnn:nn≤2199023255552) (hl2: ∀(j:Nat) (x:List UInt8),xs[j]? =some x→x.length≤1099511627776):
 Fn Tryz.prog 57 #[.pointer (some ⟨b0,0,none⟩)] [N0,NF,NI] [] (fun v L=>v=.bool true∧L= []):=by
 have sF:=rF.rsl
 have hcf:=sF.cap63
 have hvl:vf.length=nn:=by have:=rF.1;rwa [Nat.mul_one]at this
 have hxl:xs.length=nn:=hI.len.symm.trans hvl
 refine Fn.enter (vs:= [.pointer (some ⟨b0,0,none⟩)]) Tryz.func57 rfl rfl rfl ?_
 intro E R hR
 change At _ _ E [N0,NF,NI,R] _
 refine At.seq fun _ s_1=>At.region (aE (aD rfl) rfl rfl (aA (aB (s_1 (At.seq fun _ s_2=>At.seq fun _ s_3=>At.region (aE (aD rfl) rfl rfl (aA (aB (s_3 (At.block (At.loop (fun fr_ hp_ ms_=> ∃(i:Nat) (NI:Heaplet) (gs:List (List UInt8)),fr_= [(0,.pointer (some ⟨b0,0,none⟩)),(3,.int .i64 (i:Int))]∧hp_= [N0,NF,NI,R]∧nn- i=ms_∧(i≤nn)∧(Bag 5 NI vf gs)∧(gs.length=nn)∧(∀(j:Nat) (x:List UInt8),j<i→gs[j]? =some x→x=mk1 j x.length)∧(∀(j:Nat) (x:List UInt8),gs[j]? =some x→x.length≤1099511627776)) ?_ (.refl _) ⟨0,NI,xs,rfl,rfl,rfl,by omega,hI,hxl,fun j x hj=>absurd hj (Nat.not_lt_zero j),hl2⟩ ?_)))))))))))
 ·exact .cons (by first|exact aP rfl (by omega)|rfl) (.cons (by first|exact aP rfl (by omega)|rfl) .nil)
 rintro _ _ _ ⟨i,NI,gs,rfl,rfl,rfl,hi,hg,hgl,hgm,hgb⟩
 refine At.seq fun _ s_4=>At.seq fun _ s_5=>At.region (aC (aD rfl) rfl rfl (aC (aD rfl) rfl rfl (aQ (aD rfl) rfl rfl (aF (aD rfl) fl58_0 rfl rfl (aI (aD rfl) sc22 rfl B0 (by first|rfl) aL rfl ?_)))))
 refine aU (aD rfl) se22 rfl rfl (op_lss (aD rfl) rfl rfl rfl (aA (aB (s_5 (aK rfl (fun c17=>?_) (fun c17=>?_))))))
 ·obtain⟨x,hx⟩:=get_lt (xs:=gs) (i:=i) (by omega)
  refine At.skip (aB (s_4 (At.seq fun _ s_6=>At.block (At.seq fun _ s_7=>At.region (aE (aD rfl) rfl rfl (aA (aB (s_7 (At.block (At.loop (fun fr_ hp_ ms_=> ∃(k:Nat) (NI:Heaplet) (hs:List (List UInt8)) (y:List UInt8),fr_= [(0,.pointer (some ⟨b0,0,none⟩)),(3,.int .i64 (i:Int)),(4,.int .i64 (k:Int))]∧hp_= [N0,NF,NI,R]∧x.length- k=ms_∧(k≤x.length)∧(Bag 5 NI vf hs)∧(hs.length=nn)∧(hs[i]? =some y)∧(y.length=x.length)∧(y.take k=mk1 i k)∧(∀(j:Nat) (x:List UInt8),j<i→hs[j]? =some x→x=mk1 j x.length)∧(∀(j:Nat) (x:List UInt8),hs[j]? =some x→x.length≤1099511627776)) ?_ (.refl _) ⟨0,NI,gs,x,rfl,rfl,rfl,by omega,hg,hgl,hx,rfl,rfl,hgm,hgb⟩ ?_))))))))))
  ·exact .cons (by first|exact aP rfl (by omega)|rfl) (.cons (by first|exact aP rfl (by omega)|rfl) (.cons (by first|exact aP rfl (by omega)|rfl) .nil))
  rintro _ _ _ ⟨k,NI,hs,y,rfl,rfl,rfl,hk,hh,hhl,hy,hyl,hyt,hhm,hhb⟩
  obtain⟨p',c',hv',hr'⟩:=hh.row i y hy
  have hrs':=hr'.rsl
  have hcp':=hrs'.cap63
  refine At.seq fun _ s_8=>At.seq fun _ s_9=>At.region (aC (aD rfl) rfl rfl (aC (aD rfl) rfl rfl (aQ (aD rfl) rfl rfl (aF (aD rfl) fl58_0 rfl rfl (aI (aD rfl) sc22 rfl B0 (by first|rfl) aL rfl ?_)))))
  refine aC (aD rfl) rfl rfl (bI (aD rfl) se22 rfl rfl sF (show _=(((i:Nat)):Int)from by omega) (by omega) rfl ?_)
  refine aT (aD rfl) sc23 rfl sF (by first|exact get8 (by omega)|exact bT (by omega)|exact bU (by omega)|exact hv') (by first|exact aL|exact aZ|exact bB|exact bF|exact bG|exact bH|exact bL|exact bK|exact bJ|exact bM) rfl ?_
  refine aU (aD rfl) se23 rfl rfl (op_lss (aD rfl) rfl rfl rfl (aA (aB (s_9 (aK rfl (fun c29=>?_) (fun c29=>?_))))))
  ·refine At.skip (aB (s_8 (At.seq fun _ s_10=>At.block (At.region (aC (aD rfl) rfl rfl (aQ (aD rfl) rfl rfl (aF (aD rfl) fl58_0 rfl rfl (aI (aD rfl) sc22 rfl B0 (by first|rfl) aL rfl ?_))))))))
   refine aC (aD rfl) rfl rfl (bI (aD rfl) se22 rfl rfl sF (show _=(((i:Nat)):Int)from by omega) (by omega) rfl ?_)
   refine aT (aD rfl) sc23 rfl sF (by first|exact get8 (by omega)|exact bT (by omega)|exact bU (by omega)|exact hv') (by first|exact aL|exact aZ|exact bB|exact bF|exact bG|exact bH|exact bL|exact bK|exact bJ|exact bM) rfl ?_
   refine aC (aD rfl) rfl rfl (aC (aD rfl) rfl rfl (op_rem (aD rfl) rfl rfl (by omega) (by omega) rfl (op_conv8 (aD rfl) (und_some Tryz.underlying3) Tryz.underlying5 rfl (show _=(((i % 125:Nat)):Int)from by omega) rfl ?_)))
   refine bI (aD rfl) se23 rfl rfl hrs' (show _=(((k:Nat)):Int)from by omega) (by omega) rfl ?_
   refine op_storeU (nxl rfl) sz5 rfl rfl rfl rfl rfl hr' (by simp<;>omega) (by simp) sel2 (fun NJ rJ oJ=>?_)
   rw [set8R]at rJ
   refine aA (aR (aB (s_10 (At.region (aC (aD rfl) rfl rfl (aV (aD rfl) rfl rfl (by omega) (by omega) rfl (aE (aD rfl) rfl rfl (aA (aB (At.perm sel3 (At.perm sel1 (At.perm sel3 (At.perm sel3 ?_)))))))))))))
   refine bD ?_ (.refl _) ⟨k+1,NJ,hs.set i (y.set k (UInt8.ofNat (i % 125))),y.set k (UInt8.ofNat (i % 125)),rfl,rfl,rfl,by omega,hh.set hv' rJ oJ,by rw [List.length_set,hhl],set_get hy,by rw [List.length_set,hyl],mark_set (by omega) hyt,fun j z hj hz=>by rw [get_set_ne (by omega)]at hz;exact hhm j z hj hz,set_len hy (by rw [List.length_set]) hhb⟩ ?_
   ·exact .cons (by first|exact aP rfl (by omega)|rfl) (.cons (by first|exact aP rfl (by omega)|rfl) (.cons (by first|exact aP rfl (by omega)|rfl) .nil))
   ·omega
  refine At.exit (aG (aG (bC (aR (aB (s_6 (At.region (aC (aD rfl) rfl rfl (aV (aD rfl) rfl rfl (by omega) (by omega) rfl (aE (aD rfl) rfl rfl (aA (aB (bD ?_ (.refl _) ⟨i+1,NI,hs,rfl,rfl,rfl,by omega,hh,hhl,mark_more hhm hy (mark_all (by omega) hyt),hhb⟩ ?_)))))))))))))
  ·exact .cons (by first|exact aP rfl (by omega)|rfl) (.cons (by first|exact aP rfl (by omega)|rfl) .nil)
  ·omega
 refine At.exit (aG (aG (bC (aB (s_2 (At.seq fun _ s_11=>At.seq fun _ s_12=>At.region (aE (aD rfl) rfl rfl (aA (aB (s_12 (At.block ?_)))))))))))
 have hgm:=fun(j:Nat) (x:List UInt8) (h:gs[j]? =some x)=>hgm j x (by have:=(List.getElem?_eq_some_iff.1 h).1;omega) h
 refine At.empty (At.perm sel4 (At.perm sel4 (At.perm sel2 (At.perm sel4 (At.perm sel4 (At.loop (fun fr_ hp_ ms_=> ∃(i:Nat) (N0 NO NI:Heaplet) (po:Option Addr) (co:Nat) (vo:List Value),fr_= [(0,.pointer (some ⟨b0,0,none⟩)),(5,.int .i64 (i:Int))]∧hp_= [N0,NF,NO,NI,R]∧nn- i=ms_∧(i≤nn)∧(Blk N0 b0 e0 [.slice pf nn cf,w1,.slice po i co,.slice none 0 0,v4])∧(Row NO 23 1 po i co vo)∧(Bag 5 NI vf gs)∧(Ones 16 NI vf vo i)) ?_ (.refl _) ⟨0,N0,nilH,NI,none,0,[],rfl,rfl,rfl,by omega,B0,Row.nil _ _ _,hg,Ones.zero _ _ _ _⟩ ?_))))))
 ·exact .cons (by first|exact aP rfl (by omega)|rfl) (.cons (by first|exact aP rfl (by omega)|rfl) .nil)
 rintro _ _ _ ⟨i,N0,NO,NI,po,co,vo,rfl,rfl,rfl,hi,B0,rO,hg,ho⟩
 refine At.seq fun _ s_13=>At.seq fun _ s_14=>At.region (aC (aD rfl) rfl rfl (aC (aD rfl) rfl rfl (aQ (aD rfl) rfl rfl (aF (aD rfl) fl58_0 rfl rfl (aI (aD rfl) sc22 rfl B0 (by first|rfl) aL rfl ?_)))))
 refine aU (aD rfl) se22 rfl rfl (op_lss (aD rfl) rfl rfl rfl (aA (aB (s_14 (aK rfl (fun c50=>?_) (fun c50=>?_))))))
 ·obtain⟨x,hx⟩:=get_lt (xs:=gs) (i:=i) (by omega)
  have hxm:=hgm i x hx
  have hxb:=hgb i x hx
  have hvo:vo.length=i:=by have:=rO.1;rwa [Nat.mul_one]at this
  obtain⟨p,c,hv,hr⟩:=hg.row i x hx
  have hx':gs[i]? =some (mk1 i x.length):=by rw [←hxm];exact hx
  refine At.skip (aB (s_13 (At.seq fun _ s_15=>At.block (At.seq fun _ s_16=>At.region (aC (aD rfl) rfl rfl (aQ (aD rfl) rfl rfl (aF (aD rfl) fl58_0 rfl rfl (aI (aD rfl) sc22 rfl B0 (by first|rfl) aL rfl ?_))))))))
  refine aC (aD rfl) rfl rfl (bI (aD rfl) se22 rfl rfl sF (show _=(((i:Nat)):Int)from by omega) (by omega) rfl ?_)
  refine aT (aD rfl) sc23 rfl sF (by first|exact get8 (by omega)|exact bT (by omega)|exact bU (by omega)|exact hv) (by first|exact aL|exact aZ|exact bB|exact bF|exact bG|exact bH|exact bL|exact bK|exact bJ|exact bM) rfl ?_
  refine aE (aD rfl) rfl rfl (aA (aB (s_16 (At.seq fun _ s_17=>At.seq fun _ s_18=>At.region (aE (aD rfl) rfl rfl (aA (aB (s_18 (At.block (At.loop (fun fr_ hp_ ms_=> ∃(k:Nat) (NI:Heaplet) (q:Option Addr) (d:Nat),fr_= [(0,.pointer (some ⟨b0,0,none⟩)),(5,.int .i64 (i:Int)),(6,.slice q (x.length+k) d),(7,.int .i64 (k:Int))]∧hp_= [N0,NF,NO,NI,R]∧16- k=ms_∧(k≤16)∧(One gs vf vo i x.length p c 16 NI q d k)) ?_ (.refl _) ⟨0,NI,p,c,rfl,rfl,rfl,by omega,One.start (by omega) hg ho hx' hv⟩ ?_))))))))))
  ·exact .cons (by first|exact aP rfl (by omega)|rfl) (.cons (by first|exact aP rfl (by omega)|rfl) (.cons (by first|exact aP rfl (by omega)|rfl) (.cons (by first|exact aP rfl (by omega)|rfl) .nil)))
  rintro _ _ _ ⟨k,NI,q,d,rfl,rfl,rfl,hk,h1⟩
  refine At.seq fun _ s_19=>At.seq fun _ s_20=>At.region (aC (aD rfl) rfl rfl (op_lss (aD rfl) rfl rfl rfl (aA (aB (s_20 (aK rfl (fun c61=>?_) (fun c61=>?_)))))))
  ·refine At.skip (aB (s_19 (At.seq fun _ s_21=>At.block (At.region (aC (aD rfl) rfl rfl (aC (aD rfl) rfl rfl (op_rem (aD rfl) rfl rfl (by omega) (by omega) rfl (aV (aD rfl) rfl rfl (by omega) (by omega) rfl (op_conv8 (aD rfl) (und_some Tryz.underlying3) Tryz.underlying5 rfl (show _=(((125+i % 125:Nat)):Int)from by omega) rfl ?_)))))))))
   refine op_lit (bA rfl) Tryz.underlying23 ze5 sz5 (.cons rfl .nil) rfl rfl (by simp [Value.cells]) rfl rfl rfl (fun N69 a69 r69=>?_)
   simp only [flatV,List.flatMap_cons,List.flatMap_nil,Value.cells,List.append_nil,List.cons_append,List.nil_append]at r69
   have s69:=r69.rsl
   refine op_appendU (nxl rfl) Tryz.underlying23 Tryz.underlying23 te5 rfl rfl h1.hq s69 (by first|exact aL|exact aZ|exact bB|exact bF|exact bG|exact bH|exact bL|exact bK|exact bJ|exact bM) (by omega) (by first|exact one_u8s _|exact one_u64s _|exact one_u32s _|(intro u hu;simp at hu;subst hu;rfl)) (by omega) (by omega) sel4 rfl (fun NJ a70 p70 rJ oJ=>?_)
   change Row NJ _ 1 a70 (x.length+(k+1)) p70 (u8s (mk1 i x.length++mk2 i k)++u8s [UInt8.ofNat (125+i % 125)])at rJ
   rw [←u8s_append,List.append_assoc, ←mk2_succ]at rJ
   refine aE (aD rfl) rfl rfl (aA (aR (aB (s_21 (At.region (aC (aD rfl) rfl rfl (aV (aD rfl) rfl rfl (by omega) (by omega) rfl (aE (aD rfl) rfl rfl (aA (aB (At.sub (L':= [NJ,N0,NF,NO,R]) (.cons_cons _ (.cons _ (.cons_cons _ (.cons_cons _ (.cons_cons _ (.cons_cons _ (.slnil))))))) (At.perm sel4 (At.perm sel1 (At.perm sel4 (At.perm sel4 (At.perm sel4 (bD ?_ (.refl _) ⟨k+1,NJ,a70,p70,rfl,rfl,rfl,by omega,h1.step hx' hv rJ oJ⟩ ?_)))))))))))))))))
   ·exact .cons (by first|exact aP rfl (by omega)|rfl) (.cons (by first|exact aP rfl (by omega)|rfl) (.cons (by first|exact aP rfl (by omega)|rfl) (.cons (by first|exact aP rfl (by omega)|rfl) .nil)))
   ·omega
  refine At.exit (aG (aG (bC (aB (s_17 (At.region ?_))))))
  obtain rfl:k=16:=by omega
  refine aC (aD rfl) rfl rfl (aC (aD rfl) rfl rfl (aQ (aD rfl) rfl rfl (aF (aD rfl) fl58_2 rfl rfl (aI (aD rfl) sc22 rfl B0 (by first|rfl) aL rfl ?_))))
  refine aC (aD rfl) rfl rfl (op_lit (bA rfl) Tryz.underlying22 ze23 sz23 (.cons rfl .nil) rfl rfl (by simp [Value.cells]) rfl rfl rfl (fun N77 a77 r77=>?_))
  simp only [flatV,List.flatMap_cons,List.flatMap_nil,Value.cells,List.append_nil,List.cons_append,List.nil_append]at r77
  have s77:=r77.rsl
  refine bE (nxl rfl) Tryz.underlying22 Tryz.underlying22 te23 rfl rfl rO s77 (by first|exact aL|exact aZ|exact bB|exact bF|exact bG|exact bH|exact bL|exact bK|exact bJ|exact bM) (by first|exact one_u8s _|exact one_u64s _|exact one_u32s _|(intro u hu;simp at hu;subst hu;rfl)) (by omega) (by omega) sel3 rfl (fun N78 a78 p78 r78=>?_)
  have s78:=r78.rsl
  refine aQ (aD rfl) rfl rfl (aF (aD rfl) fl58_2 rfl rfl (aO (nxl rfl) sz22 rfl rfl rfl rfl rfl B0 (by simp) sel2 (fun N0 B0=>?_)))
  simp only [setL,List.set]at B0
  refine aA (aR (aB (s_15 (At.region (aC (aD rfl) rfl rfl (aV (aD rfl) rfl rfl (by omega) (by omega) rfl (aE (aD rfl) rfl rfl (aA (aB (At.sub (L':= [N0,N78,NF,NI,R]) (.cons_cons _ (.cons_cons _ (.cons _ (.cons_cons _ (.cons_cons _ (.cons_cons _ (.slnil))))))) (At.perm sel4 (At.perm sel4 (At.perm sel3 (At.perm sel4 (At.perm sel4 (bD ?_ (.refl _) ⟨i+1,N0,N78,NI,a78,p78,vo++ [Value.slice q (x.length+16) d],rfl,rfl,rfl,by omega,B0,r78,h1.hg,h1.ones hv hvo⟩ ?_))))))))))))))))
  ·exact .cons (by first|exact aP rfl (by omega)|rfl) (.cons (by first|exact aP rfl (by omega)|rfl) .nil)
  ·omega
 refine At.exit (aG (aG (bC (aB (s_11 (At.seq fun _ s_22=>At.seq fun _ s_23=>At.region ?_))))))
 have hi':i=nn:=by omega
 subst hi'
 have sO:=rO.rsl
 have hrd:=look_ready hg hgm hgl ho
 refine aC (aD rfl) rfl rfl (aC (aD rfl) rfl rfl (aQ (aD rfl) rfl rfl (aF (aD rfl) fl58_2 rfl rfl (aI (aD rfl) sc22 rfl B0 (by first|rfl) aL rfl ?_))))
 refine At.perm sel4 (At.perm sel3 (At.perm sel4 (At.perm sel4 (At.perm sel4 (op_call (nxl rfl) (.cons rfl (.cons rfl .nil)) (BookLook_o B0 sF sO hrd) (F:= [NO,R]) Tryz.func81 rfl rfl (.refl _) (by simp) rfl ?_)))))
 rintro v86 L86 ⟨rfl,rfl⟩
 change At _ _ _ [N0,NF,NI,NO,R] _
 refine op_not (aD rfl) rfl rfl (aA (aB (s_23 (At.condF rfl (At.skip (aB (s_22 (At.seq fun _ s_24=>At.seq fun _ s_25=>At.region (aE (aD rfl) rfl rfl (aA (aB (s_25 (At.block (At.empty (At.perm sel5 (At.perm sel4 (At.perm sel2 (At.perm sel5 (At.perm sel5 (At.perm sel5 (At.loop (fun fr_ hp_ ms_=> ∃(i':Nat) (N0 NM NI:Heaplet) (pm:Option Addr) (cm:Nat) (vm:List Value),fr_= [(0,.pointer (some ⟨b0,0,none⟩)),(8,.int .i64 (i':Int))]∧hp_= [N0,NF,NO,NM,NI,R]∧i- i'=ms_∧(i'≤i)∧(Blk N0 b0 e0 [.slice pf i cf,w1,.slice po i co,.slice pm i' cm,v4])∧(Row NM 23 1 pm i' cm vm)∧(Bag 5 NI vf gs)∧(Ones 16 NI vf vo i)∧(Ones 700 NI vf vm i')) ?_ (.refl _) ⟨0,N0,nilH,NI,none,0,[],rfl,rfl,rfl,by omega,B0,Row.nil _ _ _,hg,ho,Ones.zero _ _ _ _⟩ ?_)))))))))))))))))))))
 ·exact .cons (by first|exact aP rfl (by omega)|rfl) (.cons (by first|exact aP rfl (by omega)|rfl) .nil)
 rintro _ _ _ ⟨i',N0,NM,NI,pm,cm,vm,rfl,rfl,rfl,hi,B0,rM,hg,ho,hm⟩
 refine At.seq fun _ s_26=>At.seq fun _ s_27=>At.region (aC (aD rfl) rfl rfl (aC (aD rfl) rfl rfl (aQ (aD rfl) rfl rfl (aF (aD rfl) fl58_0 rfl rfl (aI (aD rfl) sc22 rfl B0 (by first|rfl) aL rfl ?_)))))
 refine aU (aD rfl) se22 rfl rfl (op_lss (aD rfl) rfl rfl rfl (aA (aB (s_27 (aK rfl (fun c94=>?_) (fun c94=>?_))))))
 ·obtain⟨x,hx⟩:=get_lt (xs:=gs) (i:=i') (by omega)
  have hxm:=hgm i' x hx
  have hxb:=hgb i' x hx
  have hvm:vm.length=i':=by have:=rM.1;rwa [Nat.mul_one]at this
  obtain⟨p,c,hv,hr⟩:=hg.row i' x hx
  have hx':gs[i']? =some (mk1 i' x.length):=by rw [←hxm];exact hx
  refine At.skip (aB (s_26 (At.seq fun _ s_28=>At.block (At.seq fun _ s_29=>At.region (aE (aD rfl) rfl rfl (aA (aB (s_29 (At.seq fun _ s_30=>At.seq fun _ s_31=>At.region (aE (aD rfl) rfl rfl (aA (aB (s_31 (At.block (At.empty (At.perm bV (At.perm sel1 (At.perm bV (At.perm bV ?_)))))))))))))))))))
  refine At.perm bV (At.perm bV (At.perm bV (At.loop (fun fr_ hp_ ms_=> ∃(k:Nat) (NQ:Heaplet) (aq:Option Addr) (cq:Nat),fr_= [(0,.pointer (some ⟨b0,0,none⟩)),(8,.int .i64 (i':Int)),(9,.slice aq k cq),(10,.int .i64 (k:Int))]∧hp_= [N0,NF,NO,NM,NI,NQ,R]∧700- k=ms_∧(k≤700)∧(Row NQ 5 1 aq k cq (u8s (mk2 i' k)))) ?_ (.refl _) ⟨0,nilH,none,0,rfl,rfl,rfl,by omega,Row.nil _ _ _⟩ ?_)))
  ·exact .cons (by first|exact aP rfl (by omega)|rfl) (.cons (by first|exact aP rfl (by omega)|rfl) (.cons (by first|exact aP rfl (by omega)|rfl) (.cons (by first|exact aP rfl (by omega)|rfl) .nil)))
  rintro _ _ _ ⟨k,NQ,aq,cq,rfl,rfl,rfl,hk,rQ⟩
  refine At.seq fun _ s_32=>At.seq fun _ s_33=>At.region (aC (aD rfl) rfl rfl (op_lss (aD rfl) rfl rfl rfl (aA (aB (s_33 (aK rfl (fun c98=>?_) (fun c98=>?_)))))))
  ·refine At.skip (aB (s_32 (At.seq fun _ s_34=>At.block (At.region (aC (aD rfl) rfl rfl (aC (aD rfl) rfl rfl (op_rem (aD rfl) rfl rfl (by omega) (by omega) rfl (aV (aD rfl) rfl rfl (by omega) (by omega) rfl (op_conv8 (aD rfl) (und_some Tryz.underlying3) Tryz.underlying5 rfl (show _=(((125+i' % 125:Nat)):Int)from by omega) rfl ?_)))))))))
   refine op_lit (bA rfl) Tryz.underlying23 ze5 sz5 (.cons rfl .nil) rfl rfl (by simp [Value.cells]) rfl rfl rfl (fun N106 a106 r106=>?_)
   simp only [flatV,List.flatMap_cons,List.flatMap_nil,Value.cells,List.append_nil,List.cons_append,List.nil_append]at r106
   have s106:=r106.rsl
   refine bE (nxl rfl) Tryz.underlying23 Tryz.underlying23 te5 rfl rfl rQ s106 (by first|exact aL|exact aZ|exact bB|exact bF|exact bG|exact bH|exact bL|exact bK|exact bJ|exact bM) (by first|exact one_u8s _|exact one_u64s _|exact one_u32s _|(intro u hu;simp at hu;subst hu;rfl)) (by omega) (by omega) bV rfl (fun N107 a107 p107 r107=>?_)
   have s107:=r107.rsl
   change Row N107 _ 1 a107 (k+1) p107 (u8s (mk2 i' k)++u8s [UInt8.ofNat (125+i' % 125)])at r107
   rw [←u8s_append, ←mk2_succ]at r107
   refine aE (aD rfl) rfl rfl (aA (aR (aB (s_34 (At.region (aC (aD rfl) rfl rfl (aV (aD rfl) rfl rfl (by omega) (by omega) rfl (aE (aD rfl) rfl rfl (aA (aB (At.sub (L':= [N107,N0,NF,NO,NM,NI,R]) (.cons_cons _ (.cons _ (.cons_cons _ (.cons_cons _ (.cons_cons _ (.cons_cons _ (.cons_cons _ (.cons_cons _ (.slnil))))))))) (At.perm bV (At.perm sel1 (At.perm bV (At.perm bV (At.perm bV (At.perm bV (At.perm bV (bD ?_ (.refl _) ⟨k+1,N107,a107,p107,rfl,rfl,rfl,by omega,r107⟩ ?_)))))))))))))))))))
   ·exact .cons (by first|exact aP rfl (by omega)|rfl) (.cons (by first|exact aP rfl (by omega)|rfl) (.cons (by first|exact aP rfl (by omega)|rfl) (.cons (by first|exact aP rfl (by omega)|rfl) .nil)))
   ·omega
  refine At.exit (aG (aG (bC (aB (s_30 (At.perm bV (At.perm bV (At.perm sel3 (At.perm sel3 (At.perm bV (At.perm bV (At.perm bV (At.drawnS [N0,NF,NQ,R] [15,18] [0,1] [0,1,2,3,4,5,6,7,8,9,10,11,12,13,14,15,16,17,18] (by kernel_rfl) (by kernel_rfl) (.cons _ (.cons _ (.cons _ (.refl _)))) ?_)))))))))))))
  obtain rfl:k=700:=by omega
  have sQ:=rQ.rsl
  refine aC (aX rfl rfl rfl) rfl rfl (aC (aX rfl rfl rfl) rfl rfl (aQ (aX rfl rfl rfl) rfl rfl (aF (aX rfl rfl rfl) fl58_3 rfl rfl (aI (aX rfl rfl rfl) sc22 rfl B0 (by first|rfl) aL rfl ?_))))
  refine aC (aX rfl rfl rfl) rfl rfl (aQ (aX rfl rfl rfl) rfl rfl (aF (aX rfl rfl rfl) fl58_0 rfl rfl (aI (aX rfl rfl rfl) sc22 rfl B0 (by first|rfl) aL rfl ?_)))
  refine aC (aX rfl rfl rfl) rfl rfl (bI (aX rfl rfl rfl) se22 rfl rfl sF (show _=(((i':Nat)):Int)from by omega) (by omega) rfl ?_)
  refine aT (aX rfl rfl rfl) sc23 rfl sF (by first|exact get8 (by omega)|exact bT (by omega)|exact bU (by omega)|exact hv) (by first|exact aL|exact aZ|exact bB|exact bF|exact bG|exact bH|exact bL|exact bK|exact bJ|exact bM) rfl ?_
  refine aC (aX rfl rfl rfl) rfl rfl ?_
  refine op_appendU (nxsm rfl rfl rfl) Tryz.underlying23 Tryz.underlying23 te5 rfl rfl hr sQ (by first|exact aL|exact aZ|exact bB|exact bF|exact bG|exact bH|exact bL|exact bK|exact bJ|exact bM) (by omega) (by first|exact one_u8s _|exact one_u64s _|exact one_u32s _|(intro u hu;simp at hu;subst hu;rfl)) (by omega) (by omega) sel2 rfl (fun NJ a121 p121 rJ oJ=>?_)
  rw [←u8s_append]at rJ
  have h3:=many_step (K1:=16) (by omega) (by omega) (show i'<i by omega) hg ho hm hvm hx' hv (by rw [←hxm];exact rJ) oJ
  refine At.perm bV (At.perm bV (At.perm bV (At.perm bV (At.perm sel4 (At.perm bV (At.perm bV (At.moreS (Lst:= [N0,NF,NQ,R]) (Lst':= [NJ,N0,NF,NQ,R]) (.cons _ (.refl _)) (.cons _ (.cons _ (.refl _))) (op_lit (Nx.agree (nxsm rfl rfl rfl)) Tryz.underlying22 ze23 sz23 (.cons rfl .nil) rfl rfl (by simp [Value.cells]) rfl rfl rfl (fun N122 a122 r122=>?_)))))))))
  simp only [flatV,List.flatMap_cons,List.flatMap_nil,Value.cells,List.append_nil,List.cons_append,List.nil_append]at r122
  have s122:=r122.rsl
  refine At.perm sel7 (At.perm sel7 (At.perm sel7 (At.perm sel7 (At.perm sel7 (At.perm sel5 (At.perm sel7 (At.perm sel7 (At.moreS (Lst:= [NJ,N0,NF,NQ,R]) (Lst':= [N122,NJ,N0,NF,NQ,R]) (.cons _ (.refl _)) (.cons _ (.cons _ (.refl _))) ?_))))))))
  refine bE (nxss rfl rfl rfl rfl) Tryz.underlying22 Tryz.underlying22 te23 rfl rfl rM s122 (by first|exact aL|exact aZ|exact bB|exact bF|exact bG|exact bH|exact bL|exact bK|exact bJ|exact bM) (by first|exact one_u8s _|exact one_u64s _|exact one_u32s _|(intro u hu;simp at hu;subst hu;rfl)) (by omega) (by omega) sel1 rfl (fun N123 a123 p123 r123=>?_)
  have s123:=r123.rsl
  refine At.anyS (.refl _) (aQ (aX rfl rfl rfl) rfl rfl (aF (aX rfl rfl rfl) fl58_3 rfl rfl (aO (nxsl rfl rfl rfl rfl) sz22 rfl rfl rfl rfl rfl B0 (by simp) sel4 (fun N0 B0=>?_))))
  simp only [setL,List.set]at B0
  refine At.sNil (aR (aB (s_28 (At.region (aC (aD rfl) rfl rfl (aV (aD rfl) rfl rfl (by omega) (by omega) rfl (aE (aD rfl) rfl rfl (aA (aB (At.sub (L':= [N0,N123,NO,NJ,NF,R]) (.cons_cons _ (.cons_cons _ (.cons_cons _ (.cons _ (.cons_cons _ (.cons_cons _ (.cons _ (.cons_cons _ (.slnil))))))))) (At.perm sel5 (At.perm sel4 (At.perm sel3 (At.perm sel4 (At.perm sel5 (At.perm sel5 (bD ?_ (.refl _) ⟨i'+1,N0,N123,NJ,a123,p123,vm++ [Value.slice a121 (x.length+700) p121],rfl,rfl,rfl,by omega,B0,r123,h3.1,h3.2.1,h3.2.2⟩ ?_)))))))))))))))))
  ·exact .cons (by first|exact aP rfl (by omega)|rfl) (.cons (by first|exact aP rfl (by omega)|rfl) .nil)
  ·omega
 refine At.exit (aG (aG (bC (aB (s_24 (At.seq fun _ s_35=>At.region ?_))))))
 have hi2:i'=i:=by omega
 subst hi2
 have sM:=rM.rsl
 have hrd1:=look_ready hg hgm hgl hm
 have hrd2:=look_ready hg hgm hgl ho
 refine aC (aD rfl) rfl rfl (aC (aD rfl) rfl rfl (aQ (aD rfl) rfl rfl (aF (aD rfl) fl58_3 rfl rfl (aI (aD rfl) sc22 rfl B0 (by first|rfl) aL rfl ?_))))
 refine At.perm sel5 (At.perm sel4 (At.perm sel4 (At.perm sel5 (At.perm sel5 (At.perm sel5 (op_call (nxl rfl) (.cons rfl (.cons rfl .nil)) (BookLook_o B0 sF sM hrd1) (F:= [NO,NM,R]) Tryz.func81 rfl rfl (.refl _) (by simp) rfl ?_))))))
 rintro v131 L131 ⟨rfl,rfl⟩
 change At _ _ _ [N0,NF,NI,NO,NM,R] _
 refine aC (aD rfl) rfl rfl (aC (aY rfl rfl rfl rfl) rfl rfl (aC (aY rfl rfl rfl rfl) rfl rfl (aQ (aY rfl rfl rfl rfl) rfl rfl (aF (aY rfl rfl rfl rfl) fl58_2 rfl rfl (aI (aY rfl rfl rfl rfl) sc22 rfl B0 (by first|rfl) aL rfl ?_)))))
 refine op_call (nxg rfl rfl rfl rfl) (.cons rfl (.cons rfl .nil)) (BookLook_o B0 sF sO hrd2) (F:= [NO,NM,R]) Tryz.func81 rfl rfl (.refl _) (by simp) rfl ?_
 rintro v138 L138 ⟨rfl,rfl⟩
 change At _ _ _ [N0,NF,NI,NO,NM,R] _
 refine bS (aD rfl) rfl rfl rfl (aE (aD rfl) rfl rfl (aA (aB (s_35 (At.ret ((At.sub (L':= [R]) (.cons _ (.cons _ (.cons _ (.cons _ (.cons _ (.cons_cons _ (.slnil))))))) (aW (L1:= []) rfl (.tmp rfl .nil) (.refl _) (.refl _) ?_))))))))
 exact⟨rfl,rfl⟩
end Go.Proofs.YtdpjbefeabokgaaGreat
/- quarrykeep.Loan and quarrykeep.Book: their contracts, with what they hold as two parts of the memory. Condition: lists of at most 2^40 bytes, at most 2^30 that are lent. -/
namespace Go.Proofs.YtdpjbefeabokgaaGreat
open Go Go.RowKit
set_option maxRecDepth 100000 in
theorem BookClose_o {b0:Nat} {N0 NF NW NK NI:Heaplet} {xs:List (List UInt8)} (h:BookO b0 N0 NF NW NK NI xs):
 Fn Tryz.prog 30 #[.pointer (some ⟨b0,0,none⟩)] [N0,NF,NW,NK,NI] [] (fun v L=>v=.bool true∧L= []):=by
 obtain⟨e0,pf,cf,pw,cw,vf,vw,q,B0,rF,rW,hI,hK,hq1,hq2,hb⟩:=h
 refine Fn.enter (vs:= [.pointer (some ⟨b0,0,none⟩)]) Tryz.func30 rfl rfl rfl ?_
 intro E R hR
 change At _ _ E [N0,NF,NW,NK,NI,R] _
 refine At.seq fun _ s_1=>At.region (aE (aD rfl) rfl rfl (aA (aB (s_1 (At.seq fun _ s_2=>At.region (aC (aD rfl) rfl rfl (op_call (nxl rfl) (.cons rfl .nil) (BookStands_o B0 rF rW hI hK) (F:= [R]) Tryz.func56 rfl rfl (.refl _) (by simp) rfl ?_)))))))
 rintro v4 L4 ⟨rfl,rfl⟩
 change At _ _ _ [N0,NF,NW,NK,NI,R] _
 skip
 refine aC (aD rfl) rfl rfl (aC (aY rfl rfl rfl rfl) rfl rfl (At.perm sel5 (At.perm sel4 (At.perm sel4 (At.perm sel5 (At.perm sel5 (At.perm sel5 (op_call (nxg rfl rfl rfl rfl) (.cons rfl .nil) (closeBytes_o B0 rF hI (by omega) hb) (F:= [NW,NK,R]) Tryz.func57 rfl rfl (.refl _) (by simp) rfl ?_))))))))
 rintro v7 L7 ⟨rfl,rfl⟩
 change At _ _ _ [NW,NK,R] _
 skip
 refine bS (aD rfl) rfl rfl rfl (aE (aD rfl) rfl rfl (aA (aB (s_2 (At.ret ((At.sub (L':= [R]) (.cons _ (.cons _ (.cons_cons _ (.slnil)))) (aW (L1:= []) rfl (.tmp rfl .nil) (.refl _) (.refl _) ?_))))))))
 exact⟨rfl,rfl⟩
/-- A loan: its own memory, and what is lent. -/
def Loan (b0:Nat) (NO NI:Heaplet) (k:Nat):Prop:= ∃N0 NF NW NK fs,[N0,NF,NW,NK].Pairwise Apart∧NO=joinL [N0,NF,NW,NK]∧LoanO b0 N0 NF NW NK NI fs∧fs.length≤k
/-- A book: its own memory, and what it has taken in. -/
def Book (b0:Nat) (NO NI:Heaplet):Prop:= ∃N0 NF NW NK xs,[N0,NF,NW,NK].Pairwise Apart∧NO=joinL [N0,NF,NW,NK]∧BookO b0 N0 NF NW NK NI xs
theorem Loan.mono {b0 k k':Nat} {NO NI:Heaplet} (h:Loan b0 NO NI k) (hk:k≤k'):Loan b0 NO NI k':=by
 obtain⟨N0,NF,NW,NK,fs,h1,h2,h3,h4⟩:=h
 exact⟨N0,NF,NW,NK,fs,h1,h2,h3,Nat.le_trans h4 hk⟩
theorem alone (N:Heaplet): [N,nilH,nilH,nilH].Pairwise Apart∧N=joinL [N,nilH,nilH,nilH]:=by
 refine⟨?_,?_⟩
 ·simp only [List.pairwise_cons,List.mem_cons,List.not_mem_nil,or_false]
  refine⟨fun M hM k=>?_,fun M hM k=>.inl rfl,fun M hM k=>.inl rfl,?_⟩
  ·rcases hM with rfl|rfl|rfl<;>exact .inr rfl
  ·exact⟨fun M hM=>hM.elim,.nil⟩
 ·funext k
  simp only [joinL,join2]
  cases N k<;>rfl
theorem Loan.start {b0:Nat} {N:Heaplet} {e:TypeId} (h:Blk N b0 e [.slice none 0 0,.slice none 0 0]):Loan b0 N nilH 0:=by
 obtain⟨h1,h2⟩:=alone N
 exact⟨N,nilH,nilH,nilH,[],h1,h2,⟨e,none,0,none,0,[],[],h,Row.nil _ _ _,Row.nil _ _ _,Bag.nil _ _,Bags.nil _⟩,Nat.le_refl _⟩
theorem Book.start {b0:Nat} {N:Heaplet} {e:TypeId} (h:Blk N b0 e [.slice none 0 0,.slice none 0 0,.slice none 0 0,.slice none 0 0,.int .i64 0]):Book b0 N nilH:=by
 obtain⟨h1,h2⟩:=alone N
 exact⟨N,nilH,nilH,nilH,[],h1,h2,⟨e,none,0,none,0,[],[],0,h,Row.nil _ _ _,Row.nil _ _ _,Bag.nil _ _,Bags.nil _,Nat.zero_le _,Nat.zero_le _,fun j x hx=>by simp at hx⟩⟩
theorem Fn.drop1 {P:Program} {f:FuncId} {args:Array Value} {L0 Lr:List Heaplet} {x:Value} {A:Heaplet} (h:Fn P f args L0 Lr (fun v L=>v=x∧L= [A])):Fn P f args L0 Lr (fun v L=>v=x∧L= []):=fun E w R hw hr=>
 (h E w R hw hr).mono fun _ _ ⟨v,L1,he,⟨hv,hL⟩,hh⟩=>⟨v,[],he,⟨hv,rfl⟩,by subst hL;exact hh.drop (List.sublist_cons_self ..)⟩
theorem LoanBytes_f {b0 k:Nat} {NO NI N:Heaplet} {ao:Option Addr} {n cap:Nat} {l:List UInt8} (h:Loan b0 NO NI k) (hs:RSl N 1 ao n cap (u8s l)) (hn:n≤1099511627776) (hk:k≤1073741824):
 Fn Tryz.prog 24 #[.pointer (some ⟨b0,0,none⟩),.slice ao n cap] [NO,NI] [N] (fun v L=> ∃NO' NI' p c,v=.slice p n c∧L= [NO',NI']∧Loan b0 NO' NI' (k+1)∧NI.le NI'∧RSl NI' 1 p n c (u8s l)):=by
 obtain⟨N0,NF,NW,NK,fs,h1,rfl,h3,h4⟩:=h
 refine Fn.pack (As:= [N0,NF,NW,NK]) (L0:= [NI]) h1 (LoanBytes_o h3 hs hn (by omega)) ?_
 rintro v L ⟨N0',NF',NW',M1,M2,p,c,rfl,rfl,ha,hL,hr⟩
 exact⟨[N0',NF',NW',join2 M2 NK],[join2 M1 NI],rfl,fun hp=>⟨_,_,p,c,rfl,rfl,⟨N0',NF',NW',_,_,hp,rfl,hL,by simp;omega⟩,join2_right ha,hr.le join2_left⟩⟩
theorem LoanBack_f {b0 k:Nat} {NO NI:Heaplet} (h:Loan b0 NO NI k):Fn Tryz.prog 28 #[.pointer (some ⟨b0,0,none⟩)] [NO,NI] [] (fun v L=>v=.bool true∧L= []):=by
 obtain⟨N0,NF,NW,NK,fs,h1,rfl,h3,h4⟩:=h
 refine Fn.drop1 (A:=nilH) (Fn.pack (As:= [N0,NF,NW,NK]) (L0:= [NI]) h1 (LoanBack_o h3) ?_)
 rintro v L ⟨rfl,rfl⟩
 exact⟨[],[],rfl,fun _=>⟨rfl,rfl⟩⟩
theorem BookBytes_f {b0:Nat} {NO NI M:Heaplet} {ao:Option Addr} {n cap:Nat} {l:List UInt8} (h:Book b0 NO NI) (hr:Row M 5 1 ao n cap (u8s l)) (hn:n≤1099511627776):
 Fn Tryz.prog 29 #[.pointer (some ⟨b0,0,none⟩),.slice ao n cap] [NO,NI,M] [] (fun v L=>v=.tuple #[]∧ ∃NO' NI',L= [NO',NI']∧Book b0 NO' NI'):=by
 obtain⟨N0,NF,NW,NK,fs,h1,rfl,h3⟩:=h
 refine Fn.pack (As:= [N0,NF,NW,NK]) (L0:= [NI,M]) h1 (BookBytes_o h3 hr hn) ?_
 rintro v L ⟨rfl,N0',NF',NW',NK',NI',xs',rfl,hL⟩
 exact⟨[N0',NF',NW',NK'],[NI'],rfl,fun hp=>⟨rfl,_,_,rfl,N0',NF',NW',NK',xs',hp,rfl,hL⟩⟩
theorem BookClose_f {b0:Nat} {NO NI:Heaplet} (h:Book b0 NO NI):Fn Tryz.prog 30 #[.pointer (some ⟨b0,0,none⟩)] [NO,NI] [] (fun v L=>v=.bool true∧L= []):=by
 obtain⟨N0,NF,NW,NK,fs,h1,rfl,h3⟩:=h
 refine Fn.drop1 (A:=nilH) (Fn.pack (As:= [N0,NF,NW,NK]) (L0:= [NI]) h1 (BookClose_o h3) ?_)
 rintro v L ⟨rfl,rfl⟩
 exact⟨[],[],rfl,fun _=>⟨rfl,rfl⟩⟩
end Go.Proofs.YtdpjbefeabokgaaGreat
/- The first slice of a bag, taken out with its block. For whatever program. No condition. -/
namespace Go.Proofs.YtdpjbefeabokgaaGreat
open Go Go.RowKit
/-- The first slice of a bag, taken out with its block. -/
theorem At.pop {n:Nat} {l:List (Nat×Value)} {E:World} {L:List Heaplet} {K:Act→World→Prop} {e:TypeId} {N:Heaplet} {p:Option Addr} {m c:Nat} {vs:List Value} {xs:List (List UInt8)} (hb:Bag e N (Value.slice p m c::vs) xs)
 (h: ∀(A B:Heaplet) (x:List UInt8) (ys:List (List UInt8)),xs=x::ys→Row A e 1 p m c (u8s x)→Bag e B vs ys→At n l E (A::B::L) K):At n l E (N::L) K:=by
 obtain⟨x,ys,rfl⟩: ∃x ys,xs=x::ys:=by
  cases xs with
  |nil=>have:=hb.len;simp at this
  |cons x ys=>exact⟨x,ys,rfl⟩
 obtain⟨p',c',h1,h2⟩:=hb.row 0 x rfl
 simp only [List.getElem?_cons_zero,Option.some.injEq,Value.slice.injEq]at h1
 obtain⟨rfl,rfl,rfl⟩:=h1
 have rest: ∀B:Heaplet,(∀(i:Nat) (y:List UInt8),ys[i]? =some y→ ∀(q:Option Addr) (d:Nat),vs[i]? =some (Value.slice q y.length d)→Row N e 1 q y.length d (u8s y)→Row B e 1 q y.length d (u8s y))→Bag e B vs ys:=fun B hB=>by
  refine⟨by have:=hb.len;simpa using this,fun i y hy=>?_,fun i j p q n m c d hij hi hj=>hb.apart (i+1) (j+1) p q n m c d (by omega) (by simpa using hi) (by simpa using hj)⟩
  obtain⟨q,d,e1,e2⟩:=hb.row (i+1) y (by simpa using hy)
  have e1':vs[i]? =some (Value.slice q y.length d):=by simpa using e1
  exact⟨q,d,e1',hB i y hy q d e1' e2⟩
 rcases h2.block with ⟨hp,hm,hc⟩|⟨b,o,hp,hN⟩
 ·intro a w hf hw
  refine h nilH N x ys rfl ?_ (rest N fun i y hy q d _ hr=>hr) a w hf ⟨hw.os,hw.tape,hw.output,fun M hM=>by
   rcases List.mem_cons.1 hM with rfl|hM
   ·intro k o hk;cases hk
   ·exact hw.sub M hM,by rw [List.pairwise_cons];exact⟨fun _ _ _=>.inl rfl,hw.sep⟩⟩
  have hx:x= []:=List.eq_nil_of_length_eq_zero hm
  subst hx
  rw [hp,hc];exact Row.nil _ _ _
 ·intro a w hf hw
  have hs:=List.pairwise_cons.1 hw.sep
  have hA:Heaplet.le (fun k=>if k=b then N k else none) N:=fun k o hk=>by
   by_cases hkb:k=b
   ·simp only [if_pos hkb]at hk;exact hk
   ·simp only [if_neg hkb]at hk;cases hk
  have hB:Heaplet.le (fun k=>if k=b then none else N k) N:=fun k o hk=>by
   by_cases hkb:k=b
   ·simp only [if_pos hkb]at hk;cases hk
   ·simp only [if_neg hkb]at hk;exact hk
  refine h (fun k=>if k=b then N k else none) (fun k=>if k=b then none else N k) x ys rfl ?_ (rest _ fun i y hy q d hq hr=>?_) a w hf ⟨hw.os,hw.tape,hw.output,fun M hM=>?_,?_⟩
  ·obtain⟨h1,h2',h3,h4⟩:=h2
   refine⟨h1,h2',h3,?_⟩
   rcases h4 with h4|⟨b',cur,ha,hc,hcs,ht⟩
   ·exact .inl h4
   ·rw [hp]at ha;cases ha
    exact .inr ⟨b,cur,hp,by simp only [if_pos];exact hc,hcs,ht⟩
  ·refine hr.off (p:=p) ⟨b,hp,fun k hk=>if_neg hk⟩ ?_
   have:=hb.apart (i+1) 0 q p _ _ _ _ (by omega) (by simpa using hq) rfl
   exact this
  ·rcases List.mem_cons.1 hM with rfl|hM
   ·exact Heaplet.le_trans hA (hw.sub N (List.mem_cons_self ..))
   ·rcases List.mem_cons.1 hM with rfl|hM
    ·exact Heaplet.le_trans hB (hw.sub N (List.mem_cons_self ..))
    ·exact hw.sub M (List.mem_cons_of_mem _ hM)
  ·rw [List.pairwise_cons,List.pairwise_cons]
   refine⟨fun M hM=>?_,fun M hM=>(hs.1 M hM).le hB (Heaplet.le_refl _),hs.2⟩
   rcases List.mem_cons.1 hM with rfl|hM
   ·intro k
    by_cases hkb:k=b
    ·exact .inr (if_pos hkb)
    ·exact .inl (if_neg hkb)
   ·exact(hs.1 M hM).le hA (Heaplet.le_refl _)
end Go.Proofs.YtdpjbefeabokgaaGreat
