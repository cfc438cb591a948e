/- Several texts in one: see the remarks ahead of each part. No condition but those told there. -/
import Derived.Test.YtalmjkcapecpiaaGreatX1
import Derived.Test.YtalmjkcapecpiaaGreatX15
import Derived.Test.YtalmjkcapecpiaaGreatX13
import Derived.Test.YtalmjkcapecpiaaGreatX12
import Derived.Test.YtalmjkcapecpiaaGreatX6
import Derived.Shelf.SlIter.Nil
import Derived.Shelf.SortM.Plain
import Derived.Shelf.SortM.SortNone
import Derived.Ground.GgzProg
import Derived.Ground.SlgmProg
import Derived.Test.YtalmjkcapecpiaaGreatProg
import Derived.Test.YtalmjkcapecpiaaGreatX4
import Derived.Laws.IdiomStrings
set_option linter.unusedSimpArgs false
set_option linter.unusedVariables false
namespace Go.Proofs.YtalmjkcapecpiaaGreat
open Go Go.RowKit
set_option maxRecDepth 100000
theorem shlN4: ∀a:Nat,a<16→IntKind.u8.wrap ((a:Int)*2^(min (4:Int).toNat IntKind.u8.bits))=((16*a:Nat):Int):=by decide+kernel
theorem orN: ∀a b:Nat,a<16→b<16→bits .or .u8 ((16*a:Nat):Int) (b:Int)=((16*a+b:Nat):Int):=by
 have: ∀a:Nat,a<16→ ∀b:Nat,b<16→bits .or .u8 ((16*a:Nat):Int) (b:Int)=((16*a+b:Nat):Int):=by decide+kernel
 exact fun a b ha hb=>this a ha b hb
theorem pack_take: ∀ {Q:List UInt8} {i:Nat},i % 2=0→i+1<Q.length→packN (Q.take (i+2))=packN (Q.take i)++ [16*Q.getD i 0+Q.getD (i+1) 0]
 | [],i,_,h=>by simp at h
 | [a],i,_,h=>by simp at h
 |a::b::r,0,_,h=>by simp [packN]
 |a::b::r,1,h,_=>by simp at h
 |a::b::r,i+2,h,h2=>by
  have ih:=pack_take (Q:=r) (i:=i) (by omega) (by simp only [List.length_cons]at h2;omega)
  rw [show i+2+2=(i+2).succ.succ from rfl,List.take_succ_cons,List.take_succ_cons,packN,ih,show i+2=i.succ.succ from rfl,List.take_succ_cons,List.take_succ_cons,packN]
  simp
def flagL (leaf:Bool):UInt8:=if leaf then 2 else 0
def rowL (leaf:Bool) (l:List UInt8):List UInt8:=if l.length % 2=1 then (flagL leaf+1)::l else flagL leaf::0::l
theorem rowL_pack (leaf:Bool) (l:List UInt8):packN (rowL leaf l)=cpt l leaf:=by
 unfold rowL cpt flagL
 cases leaf<;>(split<;>rfl)
theorem rowL_len (leaf:Bool) (l:List UInt8):(rowL leaf l).length % 2=0∧(rowL leaf l).length≤l.length+2∧(rowL leaf l).length/2=l.length/2+1:=by
 unfold rowL;split<;>(simp only [List.length_cons];omega)
theorem rowL_nib {leaf:Bool} {l:List UInt8} (h:Nib l):Nib (rowL leaf l):=by
 unfold rowL flagL
 split
 ·intro x hx
  rcases List.mem_cons.1 hx with rfl|hx
  ·cases leaf<;>decide
  ·exact h x hx
 ·intro x hx
  rcases List.mem_cons.1 hx with rfl|hx
  ·cases leaf<;>decide
  ·rcases List.mem_cons.1 hx with rfl|hx
   ·decide
   ·exact h x hx
theorem nib_getD {Q:List UInt8} (h:Nib Q) (i:Nat):(Q.getD i 0).toNat<16:=by
 rw [List.getD_eq_getElem?_getD]
 cases e:Q[i]? with
 |none=>decide
 |some x=>exact h x (List.mem_of_getElem? e)
theorem flag_nat (leaf:Bool):(flagL leaf).toNat≤2∧(flagL leaf+1).toNat=(flagL leaf).toNat+1:=by cases leaf<;>decide
theorem flagW (leaf:Bool):IntKind.u8.wrap (((flagL leaf).toNat:Int)+1)=((flagL leaf+1).toNat:Int):=by cases leaf<;>decide
theorem vb1 {a:UInt8} {x:Int} (ha:(a.toNat:Int)=x): [Value.int .u8 x]=u8s [a]:=by rw [←ha];rfl
section
variable {N : Heaplet} {ao : Option Addr} {n cap : Nat} {l : List UInt8}
def CptP (l:List UInt8) (leaf:Bool) (v:Value) (L:List Heaplet):Prop:=
 (Nib l∧ ∃M a c,v=.tuple #[.slice a (cpt l leaf).length c,.int .i64 0]∧L= [M]∧Row M 5 1 a (cpt l leaf).length c (u8s (cpt l leaf)))∨(¬Nib l∧v=.tuple #[.slice none 0 0,.int .i64 2]∧L= [])
set_option maxHeartbeats 1000000 in
theorem FCompact (h:RSl N 1 ao n cap (u8s l)) (hn:n≤1099511627776) (leaf:Bool):Fn Tryz.prog 125 #[.slice ao n cap,.bool leaf] [] [N] (CptP l leaf):=by
 have hlen:=h.len8
 have hf:=flag_nat leaf
 obtain⟨q1,q2,q3⟩:=rowL_len leaf l
 refine Fn.enter (vs:= [.slice ao n cap,.bool leaf]) Tryz.func125 U U U ?_
 intro E R hR
 have h:=h.le (hR N (by simp))
 change At _ _ E [R] _
 refine aH fun _ s_1=>aB (bV U U (bV U U (aI (s_1 (aH fun _ s_2=>aH fun _ s_3=>aB (bC U U (bG bT (.cons U (.cons U .nil)) (FHasBad h) Tryz.func156 U U (by simp) U ?_)))))))
 rintro _ _ ⟨b,rfl,rfl,hb⟩
 show At _ _ _ [R] _
 refine aI (s_3 (At.condB U (fun c11=>?_) (fun c11=>?_)))
 ·refine aH fun _ s_4=>aB (bV U U (bV U U (aI (s_4 (cK (dC ((At.retN (L1:= []) U (.tmp U (.tmp U .nil)) U (.refl _) aZ ?_))))))))
  rcases hb with ⟨_,e⟩|⟨k,_⟩
  ·rw [e]at c11;cases c11
  ·exact .inr ⟨k,rfl,rfl⟩
 have hN:Nib l:=hb.elim (fun k=>k.1) fun k=>by rw [k.2]at c11;cases c11
 have hQ:=rowL_nib (leaf:=leaf) hN
 refine cG (aS (s_2 (aH fun _ s_5=>aB (bV U U (aI (s_5 (aH fun _ s_6=>At.meet (fun fr_ hp_=>fr_= [(0,.slice ao n cap),(6,.int .u8 ((flagL leaf).toNat:Int))]∧hp_= [R]∧(True)) ?_ (fun K6_ jk_6=>?_))))))))
 rotate_left
 ·skip
  refine aH fun _ s_7=>aB (bC U U (aI (s_7 (At.condB U (fun c12=>?_) (fun c12=>?_)))))
  ·have hfl:(flagL leaf).toNat=2:=by rw [c12];rfl
   refine aB (bV U U (aI (jk_6 ?_ aZ ⟨rfl,rfl,trivial⟩)))
   repeat first|apply cW|exact .nil|exact lkI rfl (by omega)|rfl
  have hfl:(flagL leaf).toNat=0:=by rw [c12];rfl
  refine cG (aS (jk_6 ?_ aZ ⟨rfl,rfl,trivial⟩))
  repeat first|apply cW|exact .nil|exact lkI rfl (by omega)|rfl
 rintro _ _ ⟨rfl,rfl,ht⟩
 refine s_6 (aH fun _ s_8=>aB (bC U U (op_lit bT Tryz.underlying37 ze5 sz5 (.cons U (.cons U .nil)) U U (by simp [Value.cells]) U U U (fun N14 a14 r14=>?_))))
 simp only [flatV,List.flatMap_cons,List.flatMap_nil,Value.cells,List.append_nil,List.cons_append,List.nil_append]at r14
 have s14:=r14.rsl
 refine bC U U ?_
 change Row N14 _ 1 a14 2 2 (u8s [flagL leaf,0])at r14
 refine op_append nxQ Tryz.underlying37 Tryz.underlying37 te5 rfl rfl r14 h (by simp) (by first|exact one_u8s _|exact one_u64s _|exact one_u32s _|(intro u hu;simp at hu;subst hu;rfl)) (by omega) (by omega) sel0 rfl (fun N16 a16 p16 r16=>?_)
 have s16:=r16.rsl
 rw [←u8s_app]at r16
 refine bV U U (aI (s_8 (aH fun _ s_9=>At.meet (fun fr_ hp_=> ∃(m:Nat) (a:Option Addr) (c:Nat) (Na:Heaplet),fr_= [(7,.slice a m c)]∧hp_= [Na,R]∧(m=(rowL leaf l).length)∧(Row Na 5 1 a m c (u8s (rowL leaf l)))) ?_ (fun K9_ jk_9=>?_))))
 rotate_left
 ·skip
  refine aH fun _ s_10=>aB (bC U U (dB aN se37 U U (op_rem aN U U (by omega) (by omega) U (op_eql aN U U U (aI (s_10 (cD U (fun c20=>?_) (fun c20=>?_))))))))
  ·refine aB (bC U U (op_addW aN U U U ?_))
   rw [flagW]
   refine op_lit bT Tryz.underlying37 ze5 sz5 (.cons U .nil) U U (by simp [Value.cells]) U U U (fun N23 a23 r23=>?_)
   simp only [flatV,List.flatMap_cons,List.flatMap_nil,Value.cells,List.append_nil,List.cons_append,List.nil_append]at r23
   have s23:=r23.rsl
   refine bC U U ?_
   change Row N23 _ 1 a23 1 1 (u8s [flagL leaf+1])at r23
   refine op_append nxQ Tryz.underlying37 Tryz.underlying37 te5 rfl rfl r23 h (by simp) (by first|exact one_u8s _|exact one_u64s _|exact one_u32s _|(intro u hu;simp at hu;subst hu;rfl)) (by omega) (by omega) sel0 rfl (fun N25 a25 p25 r25=>?_)
   have s25:=r25.rsl
   rw [←u8s_app]at r25
   refine bV U U (cE (cT ?_))
   refine aS (jk_9 ?_ aZ ⟨1+n,a25,p25,N25,rfl,rfl,by rw [rowL,if_pos (by omega),List.length_cons];omega,by rw [rowL,if_pos (by omega)];exact r25⟩)
   repeat first|apply cW|exact .nil|exact lkI rfl (by omega)|rfl
  refine cG ?_
  refine aS (jk_9 ?_ aZ ⟨2+n,a16,p16,N16,rfl,rfl,by rw [rowL,if_neg (by omega),List.length_cons,List.length_cons];omega,by rw [rowL,if_neg (by omega)];exact r16⟩)
  repeat first|apply cW|exact .nil|exact lkI rfl (by omega)|rfl
 rintro _ _ ⟨m,a,c,Na,rfl,rfl,hm,ra⟩
 refine s_9 (aH fun _ s_11=>aB (bV U U (aI (s_11 (aH fun _ s_12=>aH fun _ s_13=>aB (bV U U (aI (s_13 (bX ?_)))))))))
 have sQ:=ra.rsl
 have hcq:=sQ.cap63
 refine At.empty (At.loop (fun fr_ hp_ ms_=> ∃(i k:Nat) (b:Option Addr) (d:Nat) (Nb:Heaplet),fr_= [(7,.slice a m c),(8,.slice b k d),(9,.int .i64 (i:Int))]∧hp_= [Nb,Na,R]∧m- i=ms_∧(i≤m)∧(i=2*k)∧(Row Nb 5 1 b k d (u8s (packN ((rowL leaf l).take i))))) ?_ aZ ⟨0,0,none,0,nilH,rfl,rfl,rfl,Nat.zero_le _,rfl,Row.nil _ _ _⟩ ?_)
 ·repeat first|apply cW|exact .nil|exact lkI rfl (by omega)|rfl
 rintro _ _ _ ⟨i,k,b,d,Nb,rfl,rfl,rfl,hi,hik,rb⟩
 refine aH fun _ s_14=>aH fun _ s_15=>aB (bC U U (bC U U (dB aN se37 U U (op_lss aN U U U (aI (s_15 (cD U (fun c29=>?_) (fun c29=>?_))))))))
 ·have e1:=nib_getD hQ i
  have e2:=nib_getD hQ (i+1)
  refine cG (aS (s_14 (aH fun _ s_16=>bX (cS [Na,R] [12,13] [0] [0,1,2,3,4,5,6,7,8,9,10,11,12,13,14] (by kernel_rfl) (by kernel_rfl) (.cons _ (.refl _)) (aR (bB U U U) U U (aR (bB U U U) U U (aR (bB U U U) U U (op_idx1 (bB U U U) se37 U U sQ (show _=(((i:Nat)):Int)from by omega) (by omega) U ?_))))))))
  refine op_loadE (bB U U U) sc5 U sQ (by first|exact get8 (by omega)|exact get64 (by omega)|exact get32 (by omega)) (by simp) U ?_
  refine op_shlW (bB U U U) U U (by omega) U ?_
  rw [shlN4 _ e1]
  refine aR (bB U U U) U U (aR (bB U U U) U U (dD (bB U U U) U U (by omega) (by omega) U (op_idx1 (bB U U U) se37 U U sQ (show _=(((i+1:Nat)):Int)from by omega) (by omega) U ?_)))
  refine op_loadE (bB U U U) sc5 U sQ (by first|exact get8 (by omega)|exact get64 (by omega)|exact get32 (by omega)) (by simp) U ?_
  refine op_bits (by simp) (bB U U U) U U U ?_
  rw [orN _ _ e1 e2]
  refine op_lit (Nx.agree (nxss U U U U)) Tryz.underlying37 ze5 sz5 (.cons U .nil) U U (by simp [Value.cells]) U U U (fun N44 a44 r44=>?_)
  simp only [flatV,List.flatMap_cons,List.flatMap_nil,Value.cells,List.append_nil,List.cons_append,List.nil_append]at r44
  have s44:=r44.rsl
  refine At.anyS (.refl _) ?_
  rw [vb1 (a:=16*(rowL leaf l).getD i 0+(rowL leaf l).getD (i+1) 0) (by rw [nib_two e1 e2])]at s44
  refine op_append (nxss rfl rfl rfl rfl) Tryz.underlying37 Tryz.underlying37 te5 rfl rfl rb s44 (by simp) (by first|exact one_u8s _|exact one_u64s _|exact one_u32s _|(intro u hu;simp at hu;subst hu;rfl)) (by omega) (by omega) sel1 rfl (fun N45 a45 p45 r45=>?_)
  have s45:=r45.rsl
  refine At.anyS (.refl _) ?_
  rw [←u8s_app, ←pack_take (by omega) (by omega)]at r45
  refine cZ (bB U U U) U U (dH (cJ (aS (s_16 (aB (bC U U (dD aN U U (by omega) (by omega) U (bV U U (aI (cT (At.back ?_ aZ ⟨i+2,k+1,a45,p45,N45,rfl,rfl,rfl,by omega,by omega,r45⟩ ?_)))))))))))
  ·repeat first|apply cW|exact .nil|exact lkI rfl (by omega)|rfl
  ·omega
 refine At.exit (bD (bD (dE (aS (s_12 (aH fun _ s_17=>aB (bC U U (bV U U (bV U U (aI (s_17 (cK ((cT (At.retN (L1:= [Nb]) U (.tmp U (.tmp U .nil)) U (.refl _) aZ ?_)))))))))))))))
 have e:i=m:=by omega
 rw [List.take_of_length_le (by omega),rowL_pack]at rb
 have ek:k=(cpt l leaf).length:=by rw [cpt_len];omega
 rw [ek]at rb⊢
 exact .inl ⟨hN,Nb,b,d,rfl,rfl,rb⟩
end
def NodeP (Ns:List Heaplet) (t:It) (v:Value) (L:List Heaplet):Prop:= ∃M, ∃x:IV,v=.agg #[.bool x.l,.slice x.ab x.nb x.cb,.slice x.ai x.ni x.ci]∧L= [M]∧ ∀J:Heaplet,M.le J→(∀N∈Ns,N.le J)→ItN J t x
structure PsR (N:Heaplet) (f:Nat) (l:List PR) (xs:List PV) (ao:Option Addr) (n cap:Nat):Prop where
 row:RSl N 2 ao n cap (cellsP xs)
 ps:PsN N l xs
 ris:Ris l
 fit:Fit f l
 small:n≤1099511627776
theorem PsR.xn {N:Heaplet} {f:Nat} {l:List PR} {xs:List PV} {ao:Option Addr} {n cap:Nat} (h:PsR N f l xs ao n cap):xs.length=n∧l.length=n:=by
 have h1:=h.row.1
 rw [cellsP_len]at h1
 have h2:=h.ps.len
 omega
def PsL (Ns:List Heaplet) (f:Nat) (l:List PR) (xs:List PV) (ao:Option Addr) (n cap:Nat):Prop:= ∀J:Heaplet,(∀N∈Ns,N.le J)→PsR J f l xs ao n cap
def NodeF (f:Nat):Prop:= ∀(Ns:List Heaplet) (l:List PR) (xs:List PV) (ao:Option Addr) (n cap:Nat),PsL Ns f l xs ao n cap→Fn Tryz.prog 112 #[.slice ao n cap] [] Ns (NodeP Ns (nodeF f l))
def LinkF (f:Nat):Prop:= ∀(Ns:List Heaplet) (l:List PR) (xs:List PV) (ao:Option Addr) (n cap:Nat),PsL Ns f l xs ao n cap→Fn Tryz.prog 129 #[.slice ao n cap] [] Ns (NodeP Ns (linkI (nodeF f l)))
theorem Fn.liftN {P:Program} {f:FuncId} {args:Array Value} {L0 Ns:List Heaplet} {R:Heaplet} {Post:Value→List Heaplet→Prop} (h:Fn P f args L0 Ns Post) (hR: ∀N∈Ns,N.le R):Fn P f args L0 [R] Post:=fun E w F hp hr=>
 h E w F hp fun N hN=>Heaplet.le_trans (hR N hN) (hr R (by simp))
theorem Fn.liftM {P:Program} {f:FuncId} {args:Array Value} {L0 Ns:List Heaplet} {M R:Heaplet} {Post:Value→List Heaplet→Prop} (h:Fn P f args L0 (M::Ns) Post) (hR: ∀N∈Ns,N.le R):Fn P f args L0 [M,R] Post:=fun E w F hp hr=>
 h E w F hp fun N hN=>by
  rcases List.mem_cons.1 hN with rfl|hN
  ·exact hr _ (by simp)
  ·exact Heaplet.le_trans (hR N hN) (hr R (by simp))
theorem kec8 (l:List UInt8):(u8s (kec l)).length=32:=by rw [u8s,List.length_map,kec_len]
set_option maxHeartbeats 1000000 in
theorem FLink {f:Nat} (hF:NodeF f):LinkF f:=fun Ns l xs ao n cap h=>by
 have hN:=hF Ns l xs ao n cap h
 have hdp:=node_depth f l
 have hsm:(nodeF f l).form.length≤2000000∨ ∀R:Heaplet, ¬ ∀N∈Ns,N.le R:=by
  rcases Classical.em (∃R:Heaplet, ∀N∈Ns,N.le R)with ⟨R,hR⟩|k
  ·exact .inl (node_small f (h R hR).fit.sml)
  ·exact .inr fun R hR=>k ⟨R,hR⟩
 obtain⟨t,ht⟩: ∃t,nodeF f l=t:=⟨_,rfl⟩
 rw [ht]at hsm hdp hN⊢
 refine Fn.enter (vs:= [.slice ao n cap]) Tryz.func129 U U U ?_
 intro E R hR
 have hsm:t.form.length≤2000000:=hsm.elim id fun k=>absurd hR (k R)
 change At _ _ E [R] _
 refine aH fun _ s_1=>aB (bZ bT ze137 U (fun N2 b2 B2=>?_))
 change Blk N2 b2 _ [.bool false,.slice none 0 0,.slice none 0 0]at B2
 refine aI (s_1 (aH fun _ s_2=>aB (bC U U (bG bT (.cons U .nil) (hN.liftN hR) Tryz.func112 U U (by simp) U ?_))))
 rintro _ _ ⟨M8,x,rfl,rfl,hx⟩
 show At _ _ _ [M8,N2,R] _
 refine bZ bT ze137 U (fun N3 b3 B3=>?_)
 change Blk N3 b3 _ [.bool false,.slice none 0 0,.slice none 0 0]at B3
 refine bP nxQ sz137 U U U U U B3 (by simp) sel0 (fun N3 B3=>?_)
 simp only [setL,List.set]at B3
 refine aI (s_2 (aH fun _ s_3=>aB (aK (ds:= [_,_,_]) aN ag137 U B3 U U cO U (bG bT (.cons U .nil) (Fn.overJ (Ns:= [M8,R]) fun J hJ=>Encode_ok (hx J (hJ _ (by simp)) (fun N hN=>Heaplet.le_trans (hR N hN) (hJ _ (by simp)))) (by omega) (by omega)) Tryz.func82 U U (by simp) U ?_))))
 rintro _ _ ⟨M11,a11,c11,rfl,rfl,r11⟩
 show At _ _ _ [M11,N3,M8,N2,R] _
 refine bC U U (bW aN U U U (bW aN U U U (bV U U (bV U U (aI (s_3 (aH fun _ s_4=>aH fun _ s_5=>aB (bC U U (dB aN se37 U U (op_lss aN U U U (aI (s_5 (cD U (fun c16=>?_) (fun c16=>?_))))))))))))))
 ·refine aH fun _ s_6=>aB (aK (ds:= [_,_,_]) aN ag137 U B3 U U dG U (bP nxQ sz137 U U U U U B2 (by simp) sel3 (fun N2 B2=>?_)))
  simp only [setL,List.set]at B2
  refine aI (s_6 (cK (dC ((dropAt2 (cT (cF (L1:= [M8]) U (.cell U (res_agg (ds:= [_,_,_]) ag137 B2 U U cO) .nil) (.cons _ (.refl _)) aZ ?_)))))))
  exact⟨M8,x,rfl,rfl,fun J h1 h2=>by rw [linkI,if_pos (by omega)];exact hx J h1 h2⟩
 refine cG (aS (s_4 (aH fun _ s_7=>aB (bC U U (bG bT (.cons U .nil) (FKeccak_f r11.rsl (by omega)) Tryz.func80 U U (by simp) U ?_)))))
 rintro _ _ ⟨rfl,rfl⟩
 show At _ _ _ [M11,N3,M8,N2,R] _
 refine bZ bT ze44 U (fun N6 b6 B6=>?_)
 change Blk N6 b6 _ [.int .u8 0,.int .u8 0,.int .u8 0,.int .u8 0,.int .u8 0,.int .u8 0,.int .u8 0,.int .u8 0,.int .u8 0,.int .u8 0,.int .u8 0,.int .u8 0,.int .u8 0,.int .u8 0,.int .u8 0,.int .u8 0,.int .u8 0,.int .u8 0,.int .u8 0,.int .u8 0,.int .u8 0,.int .u8 0,.int .u8 0,.int .u8 0,.int .u8 0,.int .u8 0,.int .u8 0,.int .u8 0,.int .u8 0,.int .u8 0,.int .u8 0,.int .u8 0]at B6
 refine bP nxQ sz44 U U U (kec8 _) (all8x2 _) B6 (by rw [kec8];exact Nat.le_refl 32) sel0 (fun N6 B6=>?_)
 rw [setL_whole (by rw [kec8];rfl)]at B6
 refine aI (s_7 (aH fun _ s_8=>aB (op_sliceA aN ae44 U .none .none .none (by omega) (by omega) (by omega) (by simp) U (bG bT (.cons U .nil) (FText_t) Tryz.func124 U U (by simp) U ?_))))
 rintro _ _ ⟨rfl,rfl⟩
 show At _ _ _ [N6,M11,N3,M8,N2,R] _
 refine bP nxQ sz137 U U U U U B2 (by simp) sel4 (fun N2 B2=>?_)
 simp only [setL,List.set]at B2
 refine aI (s_8 (cK ((dropAt4 (dropAt3 (dropAt2 (cF (L1:= [N6]) U (.cell U (res_agg (ds:= [_,_,_]) ag137 B2 U U cO) .nil) (.cons _ (.refl _)) aZ ?_)))))))
 exact⟨N6,ivS (some ⟨b6,0+0*1,none⟩) (32- 0) (32- 0),rfl,rfl,fun J h1 _=>by rw [linkI,if_neg (by omega)];exact ItN_S ((blk8 B6 (kec_len _) (by decide)).le h1)⟩
theorem FCompact_ok {N:Heaplet} {ao:Option Addr} {n cap:Nat} {l:List UInt8} (h:RSl N 1 ao n cap (u8s l)) (hn:n≤1099511627776) (leaf:Bool) (hN:Nib l):Fn Tryz.prog 125 #[.slice ao n cap,.bool leaf] [] [N] (fun v L=> ∃M a c,v=.tuple #[.slice a (cpt l leaf).length c,.int .i64 0]∧L= [M]∧Row M 5 1 a (cpt l leaf).length c (u8s (cpt l leaf))):=
 (FCompact h hn leaf).mono fun v L hp=>by
  rcases hp with ⟨_,M,a,c,h1,h2,h3⟩|⟨h1,_⟩
  ·exact⟨M,a,c,h1,h2,h3⟩
  ·exact absurd hN h1
theorem FNode_nil (Ns:List Heaplet) (f:Nat) (xs:List PV) (ao:Option Addr) (n cap:Nat) (h:PsL Ns f [] xs ao n cap):Fn Tryz.prog 112 #[.slice ao n cap] [] Ns (NodeP Ns (itS [])):=by
 refine Fn.enter (vs:= [.slice ao n cap]) Tryz.func112 U U U ?_
 intro E R hR
 have h:=h R hR
 have hn:n=0:=h.xn.2.symm
 change At _ _ E [R] _
 refine aH fun _ s_1=>aB (bZ bT ze137 U (fun N2 b2 B2=>?_))
 change Blk N2 b2 _ [.bool false,.slice none 0 0,.slice none 0 0]at B2
 refine aI (s_1 (aH fun _ s_2=>aH fun _ s_3=>aB (bC U U (dB aN se142 U U (op_eql aN U U U (aI (s_3 (cD U (fun c12=>?_) (fun c12=>?_)))))))))
 rotate_left
 ·exact absurd (by omega) c12
 refine aH fun _ s_4=>aB (bG bT (.cons U .nil) (FText_t) Tryz.func124 U U (by simp) U ?_)
 rintro _ _ ⟨rfl,rfl⟩
 show At _ _ _ [N2,R] _
 refine bP nxQ sz137 U U U U U B2 (by simp) sel0 (fun N2 B2=>?_)
 simp only [setL,List.set]at B2
 refine aI (s_4 (cK (dC ((At.empty (bF (cH (bF (cF (L1:= [nilH]) U (.cell U (res_agg (ds:= [_,_,_]) ag137 B2 U U cO) .nil) (.cons _ (.refl _)) aZ ?_)))))))))
 exact⟨nilH,ivS none 0 0,rfl,rfl,fun J _ _=>ItN_S (RSl.nil _ _)⟩
set_option maxHeartbeats 1000000 in
theorem FNode_one (Ns:List Heaplet) (f:Nat) (p:PR) (xs:List PV) (ao:Option Addr) (n cap:Nat) (h:PsL Ns f [p] xs ao n cap):Fn Tryz.prog 112 #[.slice ao n cap] [] Ns (NodeP Ns (itL [itS (cpt p.1 true),itS p.2])):=by
 refine Fn.enter (vs:= [.slice ao n cap]) Tryz.func112 U U U ?_
 intro E R hR
 have hP:=h
 have h:=h R hR
 have hn:n=1:=h.xn.2.symm
 obtain⟨p',x,hp',hx,hpx⟩:=h.ps.at (i:=0) (by simp)
 obtain rfl:p=p':=by simpa using hp'
 have hs:=h.row
 have hsm:ao.isSome=true:=hs.isSome (by omega)
 have hcap:=hs.cap63
 have srow:=hpx.row
 have hrn:=hpx.rn
 have hvn:=hpx.vn
 have hsml:=h.fit.sml p (by simp)
 have hval: ∀J:Heaplet,(∀N∈Ns,N.le J)→RSl J 1 x.va p.2.length x.vc (u8s p.2):=fun J hJ=>by
  have h2:=hP J hJ
  have e:=cellsP_len xs
  have:=h2.ps.each 0 p x (by simp) hx
  rw [←this.vn];exact this.val
 change At _ _ E [R] _
 refine aH fun _ s_1=>aB (bZ bT ze137 U (fun N2 b2 B2=>?_))
 change Blk N2 b2 _ [.bool false,.slice none 0 0,.slice none 0 0]at B2
 refine aI (s_1 (aH fun _ s_2=>aH fun _ s_3=>aB (bC U U (dB aN se142 U U (op_eql aN U U U (aI (s_3 (cD U (fun c12=>?_) (fun c12=>?_)))))))))
 ·omega
 refine cG (aS (s_2 (aH fun _ s_4=>aH fun _ s_5=>aB (bC U U (dB aN se142 U U (op_eql aN U U U (aI (s_5 (cD U (fun c16=>?_) (fun c16=>?_))))))))))
 rotate_left
 ·omega
 refine aH fun _ s_6=>aB (bC U U (op_idxE aN se142 U U hs (show _=(((0:Nat)):Int)from by omega) (by omega) U ?_))
 refine dA aN fl173_0 U (by first|rfl|assumption) U ?_
 refine op_loadE aN sc37 U hs (by first|exact get8 (by omega)|exact get64 (by omega)|exact get32 (by omega)|exact cellsP_row hx) (by simp) U ?_
 refine bG bT (.cons U (.cons U .nil)) (FCompact_ok srow (by omega) true (h.fit.nib p (by simp))) Tryz.func125 U U (by simp) U ?_
 rintro _ _ ⟨M22,a22,c22,rfl,rfl,r22⟩
 show At _ _ _ [M22,N2,R] _
 refine bC U U (bW aN U U U (bW aN U U U (bV U U (bV U U (aI (s_6 (aH fun _ s_7=>cS [R] [6,7,8,9] [2] [0,2,3,4,5,1,6,7,8,9] (by kernel_rfl) (by kernel_rfl) (.cons _ (.cons _ (.refl _))) (aR (bB U U U) U U (aR (bB U U U) U U (op_idxE (bB U U U) se142 U U hs (show _=(((0:Nat)):Int)from by omega) (by omega) U ?_))))))))))
 refine dA (bB U U U) fl173_1 U (by first|rfl|assumption) U ?_
 refine op_loadE (bB U U U) sc37 U hs (by first|exact get8 (by omega)|exact get64 (by omega)|exact get32 (by omega)|exact cellsP_val hx) (by simp) U ?_
 refine bG (Nx.agree (nxsm U U U)) (.cons U .nil) (FText_t) Tryz.func124 U U (by simp) U ?_
 rintro v26 L26 ⟨rfl,rfl⟩
 show At _ _ _ [M22,N2,R] _
 refine At.moreS (Lst:= [R]) (Lst':= [R]) (.refl _) (.cons _ (.cons _ (.refl _))) (bG (Nx.agree (nxss U U U U)) (.cons U .nil) (FText_t) Tryz.func124 U U (by simp) U ?_)
 rintro _ _ ⟨rfl,rfl⟩
 show At _ _ _ [M22,N2,R] _
 refine At.anyS (.refl _) (op_lit (Nx.agree (nxss U U U U)) Tryz.underlying135 ze137 sz137 (.cons U (.cons U .nil)) U U (by simp [Value.cells]) U U U (fun N32 a32 r32=>?_))
 simp only [flatV,List.flatMap_cons,List.flatMap_nil,Value.cells,List.append_nil,List.cons_append,List.nil_append]at r32
 have s32:=r32.rsl
 refine At.anyS (.refl _) ?_
 rw [hvn]at r32
 change Row N32 _ 3 a32 2 2 (cellsI [ivS a22 (cpt p.1 true).length c22,ivS x.va p.2.length x.vc])at r32
 have s32:=r32.rsl
 refine bG (Nx.agree (nxss U U U U)) (.cons U .nil) (FList_t) Tryz.func126 U U (by simp) U ?_
 rintro v33 L33 ⟨rfl,rfl⟩
 show At _ _ _ [N32,M22,N2,R] _
 refine At.anyS (.refl _) (bP (nxsl U U U U) sz137 U U U U U B2 (by simp) sel2 (fun N2 B2=>?_))
 simp only [setL,List.set]at B2
 refine dH (aS (s_7 (cK (dC ((bI (cH (bI (bI (cV (fun Q Q1 Q2=>bF (cH (bF (cF (L1:= [Q]) U (.cell U (res_agg (ds:= [_,_,_]) ag137 B2 U U cO) .nil) (.cons _ (.refl _)) aZ ?_))))))))))))))
 exact⟨Q,ivL a32 2 2,rfl,rfl,fun J h1 h2=>ItN_L (s32.le (Heaplet.le_trans Q1 h1)) (ItsN_cons (ItN_S (r22.rsl.le (Heaplet.le_trans Q2 h1))) (ItsN_cons (ItN_S (hval J h2)) ItsN_nil))⟩
theorem head_last {l:List PR} (h:2≤l.length): ∃p q,l[0]? =some p∧l[l.length- 1]? =some q∧l.head?=some p∧l.getLast?=some q:=by
 have h0:0<l.length:=by omega
 refine⟨l[0],l[l.length- 1],List.getElem?_eq_getElem h0,List.getElem?_eq_getElem (by omega),?_,?_⟩
 ·rw [List.head?_eq_getElem?,List.getElem?_eq_getElem h0]
 ·rw [List.getLast?_eq_getElem?,List.getElem?_eq_getElem (by omega)]
set_option maxHeartbeats 1000000 in
theorem FNode_ext {f:Nat} (hF:LinkF f) (Ns:List Heaplet) (l:List PR) (xs:List PV) (ao:Option Addr) (n cap:Nat) (h:PsL Ns (f+1) l xs ao n cap) (h2:2≤l.length) (hs0:0<shar l):Fn Tryz.prog 112 #[.slice ao n cap] [] Ns (NodeP Ns (nodeF (f+1) l)):=by
 obtain⟨p,q,hp,hq,hh,hl⟩:=head_last h2
 have hne:l≠ []:=fun e=>by rw [e]at h2;simp at h2
 have hpm:p∈l:=List.mem_of_getElem? hp
 rw [node_ext h2 hs0,show(l.headD ([],[]))=p from by cases l with|nil=>exact absurd rfl hne|cons x r=>simpa using hp]
 obtain⟨k,hk⟩: ∃k,shar l=k:=⟨_,rfl⟩
 rw [hk]
 refine Fn.enter (vs:= [.slice ao n cap]) Tryz.func112 U U U ?_
 intro E R hR
 have hP:=h
 have h:=h R hR
 have hxn:=h.xn
 obtain⟨p',x,hp',hx,hpx⟩:=h.ps.at (i:=0) (by omega)
 obtain rfl:p=p':=Option.some.inj (hp.symm.trans hp')
 have hs:=h.row
 have hsmall:=h.small
 have hsm:ao.isSome=true:=hs.isSome (by omega)
 have hcap:=hs.cap63
 have srow:=hpx.row
 have hrn:=hpx.rn
 have hrc:=srow.cap63
 have hsml:=h.fit.sml p hpm
 have hsh:lcp p.1 q.1=k:=by rw [←hk,shar_ends h.ris p q hh hl]
 have hkl: ∀y∈l,k≤y.1.length:=fun y hy=>(shar_take hy hy (Nat.le_of_eq hk.symm)).2
 have hkp:=hkl p hpm
 have hfs:=FShared hs h.ps h.small hp hq (by omega)
 rw [hsh]at hfs
 have hcut:=FCut hs hxn.1 (h.ps.rows hkl) h.small
 have hlen:(xs.map (PV.cut k)).length=n:=by rw [List.length_map,hxn.1]
 have hL: ∀(M:Heaplet) (a:Option Addr) (c:Nat),Row M 173 2 a (xs.map (PV.cut k)).length c (cellsP (xs.map (PV.cut k)))→PsL (M::Ns) f (cutR k l) (xs.map (PV.cut k)) a (xs.map (PV.cut k)).length c:=fun M a c hr J hJ=>by
  have h3:=hP J fun N hN=>hJ N (List.mem_cons_of_mem _ hN)
  exact⟨hr.rsl.le (hJ M (List.mem_cons_self ..)),h3.ps.take_cut hkl,hk▸h3.ris.cuts,h3.fit.cut (Nat.le_of_eq hk.symm) (by omega),by rw [hlen];exact hsmall⟩
 change At _ _ E [R] _
 refine aH fun _ s_1=>aB (bZ bT ze137 U (fun N2 b2 B2=>?_))
 change Blk N2 b2 _ [.bool false,.slice none 0 0,.slice none 0 0]at B2
 refine aI (s_1 (aH fun _ s_2=>aH fun _ s_3=>aB (bC U U (dB aN se142 U U (op_eql aN U U U (aI (s_3 (cD U (fun c12=>?_) (fun c12=>?_)))))))))
 ·omega
 refine cG (aS (s_2 (aH fun _ s_4=>aH fun _ s_5=>aB (bC U U (dB aN se142 U U (op_eql aN U U U (aI (s_5 (cD U (fun c16=>?_) (fun c16=>?_))))))))))
 ·omega
 refine cG (aS (s_4 (aH fun _ s_6=>aH fun _ s_7=>aB (bC U U (bG bT (.cons U .nil) (hfs) Tryz.func127 U U (by simp) U ?_)))))
 rintro v35 L35 ⟨rfl,rfl⟩
 show At _ _ _ [N2,R] _
 refine bV U U (aI (s_7 (aH fun _ s_8=>aB (bC U U (op_gtr aN U U U (aI (s_8 (cD U (fun c37=>?_) (fun c37=>?_)))))))))
 rotate_left
 ·omega
 refine aH fun _ s_9=>aB (bC U U (op_idxE aN se142 U U hs (show _=(((0:Nat)):Int)from by omega) (by omega) U ?_))
 refine dA aN fl173_0 U (by first|rfl|assumption) U ?_
 refine op_loadE aN sc37 U hs (by first|exact get8 (by omega)|exact get64 (by omega)|exact get32 (by omega)|exact cellsP_row hx) (by simp) U ?_
 refine bC U U (op_slice0 aN se37 U (.some U (show _=(((k:Nat)):Int)from by omega)) .none (by omega) (by omega) (by simp) U ?_)
 refine bG bT (.cons U (.cons U .nil)) (FCompact_ok (srow.take8 (hi:=k) (m:=x.rc) (by omega) (Nat.le_refl _) (by omega)) (by omega) false ((h.fit.nib p hpm).take k)) Tryz.func125 U U (by simp) U ?_
 rintro _ _ ⟨M45,a45,c45,rfl,rfl,r45⟩
 show At _ _ _ [M45,N2,R] _
 refine bC U U (bW aN U U U (bW aN U U U (bV U U (bV U U (aI (s_9 (aH fun _ s_10=>aB (bC U U (bG bT (.cons U .nil) (FText_t) Tryz.func124 U U (by simp) U ?_)))))))))
 rintro _ _ ⟨rfl,rfl⟩
 show At _ _ _ [M45,N2,R] _
 refine bC U U (bC U U (bG bT (.cons U (.cons U .nil)) (hcut) Tryz.func128 U U (by simp) U ?_))
 rintro _ _ ⟨M52,a52,c52,rfl,rfl,r52⟩
 show At _ _ _ [M52,M45,N2,R] _
 refine bG bT (.cons U .nil) ((hF _ _ _ _ _ _ (hL M52 a52 c52 r52)).liftM hR) Tryz.func129 U U (by simp) U ?_
 rintro v53 L53 ⟨M53,x53,rfl,rfl,hx53⟩
 show At _ _ _ [M53,M52,M45,N2,R] _
 refine op_lit bT Tryz.underlying135 ze137 sz137 (.cons U (.cons U .nil)) U U (by simp [Value.cells]) U U U (fun N54 a54 r54=>?_)
 simp only [flatV,List.flatMap_cons,List.flatMap_nil,Value.cells,List.append_nil,List.cons_append,List.nil_append]at r54
 have s54:=r54.rsl
 change Row N54 _ 3 a54 2 2 (cellsI [ivS a45 (cpt (p.1.take k) false).length c45,x53])at r54
 have s54:=r54.rsl
 refine bG bT (.cons U .nil) (FList_t) Tryz.func126 U U (by simp) U ?_
 rintro _ _ ⟨rfl,rfl⟩
 show At _ _ _ [N54,M53,M52,M45,N2,R] _
 refine bP nxQ sz137 U U U U U B2 (by simp) sel4 (fun N2 B2=>?_)
 simp only [setL,List.set]at B2
 refine aI (s_10 (cK (dC ((bS (bA (bA (bI (bS (bS (cV (fun Q Q1 Q2=>bA (bA (bI (bA (bA (cV (fun P P1 P2=>bI (bF (bI (bI (cV (fun Z Z1 Z2=>bF (cH (bF (cF (L1:= [Z]) U (.cell U (res_agg (ds:= [_,_,_]) ag137 B2 U U cO) .nil) (.cons _ (.refl _)) aZ (⟨Z,ivL a54 2 2,rfl,rfl,fun J h1 h2=>ItN_L (s54.le (Heaplet.le_trans Q1 (Heaplet.le_trans P1 (Heaplet.le_trans Z1 h1)))) (ItsN_cons (ItN_S (r45.rsl.le (Heaplet.le_trans Q2 (Heaplet.le_trans P1 (Heaplet.le_trans Z1 h1))))) (ItsN_cons (hx53 J (Heaplet.le_trans P2 (Heaplet.le_trans Z1 h1)) fun N hN=>?_) ItsN_nil))⟩)))))))))))))))))))))))))))
 rcases List.mem_cons.1 hN with rfl|hN
 ·exact Heaplet.le_trans Z2 h1
 ·exact h2 N hN
theorem last_ris {p:PR} {l:List PR} (h:Ris (p::l)):lastV (p::l)=if p.1.length=0 then p.2 else []:=by
 split
 ·rename_i e
  exact lastV_of h.dis (List.mem_cons_self ..) (List.eq_nil_of_length_eq_zero e)
 ·rename_i e
  refine lastV_no fun q hq e2=>?_
  rcases List.mem_cons.1 hq with rfl|hq
  ·exact e (by rw [e2];rfl)
  ·have:=(List.pairwise_cons.1 h).1 q hq
   rw [e2]at this
   exact absurd this (List.not_lt_nil _)
def zIV:IV:=⟨false,none,0,0,none,0,0⟩
theorem made51:(madeCells (Value.agg #[.bool false,.slice none 0 0,.slice none 0 0]).cells (17*3)).toList=cellsI []++cellsI (List.replicate 17 zIV):=by kernel_rfl
theorem parts_set {ys:List IV} {i j:Nat} {x:IV} (h:ys.length=i) (hj:0<j):setL (cellsI ys++cellsI (List.replicate j zIV)) (i*3) [.bool x.l,.slice x.ab x.nb x.cb,.slice x.ai x.ni x.ci]=cellsI (ys++ [x])++cellsI (List.replicate (j- 1) zIV):=by
 obtain⟨k,rfl⟩: ∃k,j=k+1:=⟨j- 1,by omega⟩
 have e:cellsI (List.replicate (k+1) zIV)=zIV.cells++cellsI (List.replicate k zIV):=by simp [cellsI,List.replicate_succ]
 have e2:i*3=(cellsI ys).length:=by rw [length_cellsI,h]
 have e3:cellsI (ys++ [x])=cellsI ys++x.cells:=by simp [cellsI]
 rw [e,e2,e3, ←List.append_assoc,Nat.add_sub_cancel]
 exact setL_append x.cells (cellsI ys) zIV.cells _ U
set_option maxHeartbeats 2000000 in
theorem FNode_bra {f:Nat} (hF:LinkF f) (Ns:List Heaplet) (l:List PR) (xs:List PV) (ao:Option Addr) (n cap:Nat) (h:PsL Ns (f+1) l xs ao n cap) (h2:2≤l.length) (hs0: ¬0<shar l):Fn Tryz.prog 112 #[.slice ao n cap] [] Ns (NodeP Ns (nodeF (f+1) l)):=by
 obtain⟨p,q,hp,hq,hh,hl⟩:=head_last h2
 have hne:l≠ []:=fun e=>by rw [e]at h2;simp at h2
 have hpm:p∈l:=List.mem_of_getElem? hp
 rw [node_bra h2 hs0]
 refine Fn.enter (vs:= [.slice ao n cap]) Tryz.func112 U U U ?_
 intro E R hR
 have hP:=h
 have h:=h R hR
 have hxn:=h.xn
 obtain⟨p',x,hp',hx,hpx⟩:=h.ps.at (i:=0) (by omega)
 obtain rfl:p=p':=Option.some.inj (hp.symm.trans hp')
 have hs:=h.row
 have hsmall:=h.small
 have hsm:ao.isSome=true:=hs.isSome (by omega)
 have hcap:=hs.cap63
 have hrn:=hpx.rn
 have hvn:=hpx.vn
 have hrc:=hpx.row.cap63
 have hvl: ∀J:Heaplet,(∀N∈Ns,N.le J)→RSl J 1 x.va p.2.length x.vc (u8s p.2):=fun J hJ=>by
  have:=(hP J hJ).ps.each 0 p x hp hx
  rw [←this.vn];exact this.val
 have hsml:=h.fit.sml p hpm
 have hlast:lastV l=if p.1.length=0 then p.2 else []:=by
  cases l with
  |nil=>exact absurd rfl hne
  |cons y r=>
   obtain rfl:y=p:=by simpa using hp
   exact last_ris h.ris
 have hfs:=FShared hs h.ps h.small hp hq (by omega)
 rw [show lcp p.1 q.1=0 from by rw [←shar_ends h.ris p q hh hl];omega]at hfs
 have hL: ∀(c:UInt8) (M:Heaplet) (ys:List PV) (a:Option Addr) (cp:Nat),Row M 173 2 a ys.length cp (cellsP ys)→PsN R (cutR 1 (undR c l)) ys→(∀J:Heaplet,(∀N∈Ns,N.le J)→PsN J (cutR 1 (undR c l)) ys)→PsL (M::Ns) f (cutR 1 (undR c l)) ys a ys.length cp:=fun c M ys a cp hr hp0 hps J hJ=>by
  have h3:=hP J fun N hN=>hJ N (List.mem_cons_of_mem _ hN)
  have hle:ys.length≤n:=by
   rw [hp0.len,cutR,List.length_map, ←hxn.2];exact List.length_filter_le _ _
  exact⟨hr.rsl.le (hJ M (List.mem_cons_self ..)),hps J fun N hN=>hJ N (List.mem_cons_of_mem _ hN),h3.ris.und c,h3.fit.und c,by omega⟩
 change At _ _ E [R] _
 refine aH fun _ s_1=>aB (bZ bT ze137 U (fun N2 b2 B2=>?_))
 change Blk N2 b2 _ [.bool false,.slice none 0 0,.slice none 0 0]at B2
 refine aI (s_1 (aH fun _ s_2=>aH fun _ s_3=>aB (bC U U (dB aN se142 U U (op_eql aN U U U (aI (s_3 (cD U (fun c12=>?_) (fun c12=>?_)))))))))
 ·omega
 refine cG (aS (s_2 (aH fun _ s_4=>aH fun _ s_5=>aB (bC U U (dB aN se142 U U (op_eql aN U U U (aI (s_5 (cD U (fun c16=>?_) (fun c16=>?_))))))))))
 ·omega
 refine cG (aS (s_4 (aH fun _ s_6=>aH fun _ s_7=>aB (bC U U (bG bT (.cons U .nil) (hfs) Tryz.func127 U U (by simp) U ?_)))))
 rintro v35 L35 ⟨rfl,rfl⟩
 show At _ _ _ [N2,R] _
 refine bV U U (aI (s_7 (aH fun _ s_8=>aB (bC U U (op_gtr aN U U U (aI (s_8 (cD U (fun c37=>?_) (fun c37=>?_)))))))))
 ·omega
 refine cG (aS (s_6 (aH fun _ s_9=>aB ?_)))
 refine op_make bT Tryz.underlying135 te137 U U (show _=(((17:Nat)):Int)from by omega) (show _=(((17:Nat)):Int)from by omega) (by omega) (by unfold maxLen;omega) U (fun N56 a56 r56=>?_)
 skip
 have s56:=r56.rsl
 refine bV U U (aI (s_9 (aH fun _ s_10=>aH fun _ s_11=>aB (bC U U (aI (s_11 (bX ?_)))))))
 rw [made51]at r56
 refine At.empty (bI (bI (bF (bI (At.loop (fun fr_ hp_ ms_=> ∃(i:Nat) (ys:List IV) (Na NJ:Heaplet),fr_= [(0,.slice ao n cap),(2,.pointer (some ⟨b2,0,none⟩)),(8,.slice a56 17 17),(57,.int .i64 (i:Int))]∧hp_= [Na,NJ,N2,R]∧16- i=ms_∧(i≤16)∧(ys.length=i)∧(Row Na 137 3 a56 17 17 (cellsI ys++cellsI (List.replicate (17- i) zIV)))∧(∀J:Heaplet,NJ.le J→(∀N∈Ns,N.le J)→ItsN J ((List.range i).map (fun c=>linkI (nodeF f (cutR 1 (undR (UInt8.ofNat c) l))))) ys)) ?_ aZ ⟨0,[],N56,nilH,rfl,rfl,rfl,Nat.zero_le _,rfl,r56,fun J _ _=>ItsN_nil⟩ ?_)))))
 ·repeat first|apply cW|exact .nil|exact lkI rfl (by omega)|rfl
 rintro _ _ _ ⟨i,ys,Na,NJ,rfl,rfl,rfl,hi,hyl,ra,hy⟩
 refine aH fun _ s_12=>aB (op_lss aN U U U (aI (s_12 (aH fun _ s_13=>cD U (fun c58=>?_) (fun c58=>?_)))))
 ·have sa:=ra.rsl
  have hcl:=ra.1
  refine cG (aS (s_13 (aH fun _ s_14=>bX (aH fun _ s_15=>aB (bC U U (bV U U (aI (s_15 (aB (bC U U (bC U U (bC U U (bC U U (op_conv8 aN (und_some Tryz.underlying3) Tryz.underlying5 U (by first|rfl|exact(Int.toNat_of_nonneg (by omega)).symm) U ?_))))))))))))))
  refine bG bT (.cons U (.cons U .nil)) (FUnder hs h.ps hsmall (UInt8.ofNat i)) Tryz.func130 U U (by simp) U ?_
  rintro _ _ ⟨ys65,⟨M65,a65,c65,rfl,rfl,r65⟩,hp65⟩
  show At _ _ _ [M65,Na,NJ,N2,R] _
  refine bG bT (.cons U .nil) ((hF _ _ _ _ _ _ (hL (UInt8.ofNat i) M65 ys65 a65 c65 r65 (hp65 R h.ps) (fun J hJ=>hp65 J (hP J hJ).ps))).liftM hR) Tryz.func129 U U (by simp) U ?_
  rintro _ _ ⟨M66,x66,rfl,rfl,hx66⟩
  show At _ _ _ [M66,M65,Na,NJ,N2,R] _
  refine op_idxE aN se135 U U sa (show _=(((i:Nat)):Int)from by omega) (by omega) U ?_
  refine op_storeE nxQ sz137 U U U U U ra (by rw [hcl];show i*3+3≤17*3;omega) (by simp) sel2 (fun Na ra=>?_)
  rw [parts_set hyl (by omega)]at ra
  have sa:=ra.rsl
  refine cE (cJ (aS (s_14 (aB (dD aN U U (by omega) (by omega) U (bC U U (aI (bS (bS (bA (bI (bA (bS (cV (fun P P1 P2=>bA (bA (bI (bA (bA (cV (fun J J1 J2=>bI (bI (bF (bI ?_))))))))))))))))))))))))
  refine At.back ?_ aZ ⟨i+1,ys++ [x66],Na,J,rfl,rfl,rfl,by omega,by simp [hyl],by rw [show 17- (i+1)=17- i- 1 by omega];exact ra,fun J' h1 h2=>by rw [List.range_succ,List.map_append];exact(hy J' (Heaplet.le_trans P1 (Heaplet.le_trans J1 h1)) h2).snoc (hx66 J' (Heaplet.le_trans P2 (Heaplet.le_trans J1 h1)) fun N hN=>by rcases List.mem_cons.1 hN with rfl|hN;exact Heaplet.le_trans J2 h1;exact h2 N hN)⟩ ?_
  ·repeat first|apply cW|exact .nil|exact lkI rfl (by omega)|rfl
  ·omega
 have hi16:i=16:=by omega
 have sa:=ra.rsl
 rw [hi16]at hyl hy ra
 have hcl:=ra.1
 refine At.exit (bD (bD (dE (aS (s_10 (aH fun _ s_16=>At.meet (fun fr_ hp_=> ∃(z:IV) (Na:Heaplet),fr_= [(2,.pointer (some ⟨b2,0,none⟩)),(8,.slice a56 17 17)]∧hp_= [Na,NJ,N2,R]∧(Row Na 137 3 a56 17 17 (cellsI (ys++ [z])))∧(∀J:Heaplet,(∀N∈Ns,N.le J)→ItN J (itS (lastV l)) z)) ?_ (fun K16_ jk_16=>?_)))))))
 rotate_left
 ·skip
  refine aH fun _ s_17=>aB (bC U U (op_idxE aN se142 U U hs (show _=(((0:Nat)):Int)from by omega) (by omega) U ?_))
  refine dA aN fl173_0 U (by first|rfl|assumption) U ?_
  refine op_loadE aN sc37 U hs (by first|exact get8 (by omega)|exact get64 (by omega)|exact get32 (by omega)|exact cellsP_row hx) (by simp) U ?_
  refine dB aN se37 U U (op_eql aN U U U (aI (s_17 (cD U (fun c74=>?_) (fun c74=>?_)))))
  ·refine aB (bC U U (bC U U (op_idxE aN se142 U U hs (show _=(((0:Nat)):Int)from by omega) (by omega) U ?_)))
   refine dA aN fl173_1 U (by first|rfl|assumption) U ?_
   refine op_loadE aN sc37 U hs (by first|exact get8 (by omega)|exact get64 (by omega)|exact get32 (by omega)|exact cellsP_val hx) (by simp) U ?_
   refine bG bT (.cons U .nil) (FText_t) Tryz.func124 U U (by simp) U ?_
   rintro _ _ ⟨rfl,rfl⟩
   show At _ _ _ [Na,NJ,N2,R] _
   refine op_idxE aN se135 U U sa (show _=(((16:Nat)):Int)from by omega) (by omega) U ?_
   refine op_storeE nxQ sz137 U U U U U ra (by rw [hcl];exact show 16*3+3≤17*3 by decide) (by simp) sel0 (fun Na ra=>?_)
   rw [parts_set (x:=⟨false,x.va,x.vn,x.vc,none,0,0⟩) hyl (by omega)]at ra
   have sa:=ra.rsl
   refine cE ?_
   refine aS (jk_16 ?_ aZ ⟨⟨false,x.va,x.vn,x.vc,none,0,0⟩,Na,rfl,rfl,by simpa [cellsI]using ra,fun J hJ=>by rw [hlast,if_pos (by omega)];rw [hvn];exact ItN_S (hvl J hJ)⟩)
   repeat first|apply cW|exact .nil|exact lkI rfl (by omega)|rfl
  refine cG ?_
  refine aS (jk_16 ?_ aZ ⟨zIV,Na,rfl,rfl,by simpa [cellsI]using ra,fun J hJ=>by rw [hlast,if_neg (by omega)];exact ItN_S (RSl.nil _ _)⟩)
  repeat first|apply cW|exact .nil|exact lkI rfl (by omega)|rfl
 rintro _ _ ⟨z,Na,rfl,rfl,ra,hz⟩
 refine s_16 (aH fun _ s_18=>aB (bC U U (bG bT (.cons U .nil) (FList_t) Tryz.func126 U U (by simp) U ?_)))
 rintro _ _ ⟨rfl,rfl⟩
 show At _ _ _ [Na,NJ,N2,R] _
 refine bP nxQ sz137 U U U U U B2 (by simp) sel2 (fun N2 B2=>?_)
 simp only [setL,List.set]at B2
 refine aI (s_18 (cK ((bI (cH (bI (bI (cV (fun Q Q1 Q2=>bF (cH (bF (cF (L1:= [Q]) U (.cell U (res_agg (ds:= [_,_,_]) ag137 B2 U U cO) .nil) (.cons _ (.refl _)) aZ ?_))))))))))))
 exact⟨Q,ivL a56 17 17,rfl,rfl,fun J h1 h2=>ItN_L (ra.rsl.le (Heaplet.le_trans Q1 h1)) ((hy J (Heaplet.le_trans Q2 h1) h2).snoc (hz J h2))⟩
theorem FNode: ∀f:Nat,NodeF f
 |0=>fun Ns l xs ao n cap h E w R hw hr=>by
  have hf:=(h R hr).fit
  obtain rfl:l= []:=by
   cases l with
   |nil=>rfl
   |cons p l=>exact absurd (hf.len p (by simp)) (by omega)
  exact FNode_nil Ns 0 xs ao n cap h E w R hw hr
 |f+1=>fun Ns l xs ao n cap h=>by
  match l,h with
  | [],h=>exact FNode_nil Ns (f+1) xs ao n cap h
  | [p],h=>exact FNode_one Ns (f+1) p xs ao n cap h
  |p::q::r,h=>
   by_cases hs:0<shar (p::q::r)
   ·exact FNode_ext (FLink (FNode f)) Ns _ xs ao n cap h (by simp) hs
   ·exact FNode_bra (FLink (FNode f)) Ns _ xs ao n cap h (by simp) hs
theorem FForm {f:Nat} {Ns:List Heaplet} {l:List PR} {xs:List PV} {ao:Option Addr} {n cap:Nat} (h:PsL Ns f l xs ao n cap):Fn Tryz.prog 87 #[.slice ao n cap] [] Ns (fun v L=> ∃M a c,v=.slice a (nodeF f l).form.length c∧L= [M]∧Row M 5 1 a (nodeF f l).form.length c (u8s (nodeF f l).form)):=by
 have hN:=FNode f Ns l xs ao n cap h
 have hdp:=node_depth f l
 have hsm:(nodeF f l).form.length≤2000000∨ ∀R:Heaplet, ¬ ∀N∈Ns,N.le R:=by
  rcases Classical.em (∃R:Heaplet, ∀N∈Ns,N.le R)with ⟨R,hR⟩|k
  ·exact .inl (node_small f (h R hR).fit.sml)
  ·exact .inr fun R hR=>k ⟨R,hR⟩
 obtain⟨t,ht⟩: ∃t,nodeF f l=t:=⟨_,rfl⟩
 rw [ht]at hsm hdp hN⊢
 refine Fn.enter (vs:= [.slice ao n cap]) Tryz.func87 U U U ?_
 intro E R hR
 have hsm:t.form.length≤2000000:=hsm.elim id fun k=>absurd hR (k R)
 change At _ _ E [R] _
 refine aH fun _ s_1=>aB (bV U U (aI (s_1 (aH fun _ s_2=>aB (bC U U (bG bT (.cons U .nil) (hN.liftN hR) Tryz.func112 U U (by simp) U ?_))))))
 rintro _ _ ⟨M7,x,rfl,rfl,hx⟩
 show At _ _ _ [M7,R] _
 refine bG bT (.cons U .nil) (Fn.overJ (Ns:= [M7,R]) fun J hJ=>Encode_ok (hx J (hJ _ (by simp)) (fun N hN=>Heaplet.le_trans (hR N hN) (hJ _ (by simp)))) (by omega) (by omega)) Tryz.func82 U U (by simp) U ?_
 rintro _ _ ⟨M8,a8,c8,rfl,rfl,r8⟩
 show At _ _ _ [M8,M7,R] _
 refine bC U U (bW aN U U U (bW aN U U U (bV U U (bV U U (aI (s_2 (aH fun _ s_3=>aB (bC U U (bV U U (aI (s_3 (cK ((cT (cF (L1:= [M8]) U (.tmp U .nil) (.refl _) aZ ?_)))))))))))))))
 exact⟨M8,a8,c8,rfl,rfl,r8⟩
theorem get_del {R:List PR} (h:Dis R) (k j:List UInt8):getR (delM k R) j=if j=k then none else getR R j:=by
 split
 ·rename_i e
  exact get_none fun p hp e2=>(mem_del.1 hp).2 (e2.trans e)
 ·rename_i e
  refine get_ext (h.del k) h fun v=>?_
  rw [mem_del]
  exact⟨fun x=>x.1,fun x=>⟨x,e⟩⟩
theorem get_put {R:List PR} (h:Dis R) {k v:List UInt8} (h0:v≠ []) (j:List UInt8):getR (putM k v R) j=if j=k then some v else getR R j:=by
 have e:putM k v R=delM k R++ [(k,v)]:=if_neg h0
 split
 ·rename_i ej
  refine(get_iff (h.put k v)).2 ?_
  rw [e,ej];simp
 ·rename_i ej
  refine get_ext (h.put k v) h fun u=>?_
  rw [e,List.mem_append,mem_del,List.mem_singleton]
  constructor
  ·rintro(x|x)
   ·exact x.1
   ·simp only [Prod.mk.injEq]at x;exact absurd x.1 ej
  ·intro x;exact .inl ⟨x,ej⟩
theorem has_get {R:List PR} (h:Dis R) {k:List UInt8} :hasM k R=true↔getR R k≠none:=by
 rw [←get_has h]
 cases getR R k<;>simp
theorem get_perm {R S:List PR} (hr:Dis R) (hs:Dis S) (h: ∀k,getR R k=getR S k):R.Perm S:=
 perm_mem hr hs fun p=>by rw [show p=(p.1,p.2)from rfl, ←get_iff hr, ←get_iff hs,h]
structure Ord2 (T Uq:List PR) (oth ks:List (List UInt8)) (i:Nat):Prop where
 good:Good Uq
 out: ∀k,(∀j,j<i→oth[j]? ≠some k)→((∃j,j<i∧ks[j]? =some k)→getR Uq k=getR T k)∧((∀j,j<i→ks[j]? ≠some k)→getR Uq k=none)
 inn: ∀j,j<i→ ∀k,oth[j]? =some k→hasM k Uq=true
theorem Ord2.start (T:List PR) (oth ks:List (List UInt8)):Ord2 T [] oth ks 0:=
 ⟨Good.nil,fun k _=>⟨fun⟨j,h,_⟩=>absurd h (Nat.not_lt_zero j),fun _=>rfl⟩,fun j h=>absurd h (Nat.not_lt_zero j)⟩
theorem Ord2.step {T Uq V:List PR} {oth ks:List (List UInt8)} {i:Nat} {k v:List UInt8} (h:Ord2 T Uq oth ks i) (hT:Good T) (hk:ks[i]? =some k) (hg:getR T k=some v)
 (hV:(∃o,oth[i]? =some o∧o.length≤40∧V=putM o [120] Uq)∨(oth[i]? =none∧V=Uq)):Ord2 T (putM k v V) oth ks (i+1):=by
 have hkv:=(get_iff hT.dis).1 hg
 have hv0:=(hT.val _ hkv).1
 have gV:Good V:=by
  rcases hV with ⟨o,_,h1,rfl⟩|⟨_,rfl⟩
  ·exact h.good.put h1 (by simp)
  ·exact h.good
 have hVget: ∀j,(oth[i]? ≠some j)→getR V j=getR Uq j:=fun j hj=>by
  rcases hV with ⟨o,e,h1,rfl⟩|⟨_,rfl⟩
  ·rw [get_put h.good.dis (by simp),if_neg (fun e2=>hj (by rw [e,e2]))]
  ·rfl
 have hVhas: ∀j,hasM j Uq=true→hasM j V=true:=fun j hj=>by
  rcases hV with ⟨o,e,h1,rfl⟩|⟨_,rfl⟩
  ·rw [has_get (h.good.dis.put _ _),get_put h.good.dis (by simp)]
   split
   ·simp
   ·exact(has_get h.good.dis).1 hj
  ·exact hj
 refine⟨gV.put (hT.key _ hkv) (hT.val _ hkv).2,fun j hj=>?_,fun j hj o ho=>?_⟩
 ·have h1:=h.out j fun a ha=>hj a (by omega)
  rw [get_put gV.dis hv0]
  refine⟨fun hx=>?_,fun hx=>?_⟩
  ·split
   ·rename_i e;rw [e,hg]
   ·rename_i e
    rw [hVget j (hj i (by omega))]
    obtain⟨a,ha,hka⟩:=hx
    refine h1.1 ⟨a,?_,hka⟩
    rcases Nat.lt_or_ge a i with q|q
    ·exact q
    ·have:a=i:=by omega
     rw [this,hk]at hka
     exact absurd (Option.some.inj hka).symm e
  ·split
   ·rename_i e;exact absurd (by rw [e];exact hk) (hx i (by omega))
   ·rw [hVget j (hj i (by omega))]
    exact h1.2 fun a ha=>hx a (by omega)
 ·rw [has_get (gV.dis.put _ _),get_put gV.dis hv0]
  split
  ·simp
  ·refine(has_get gV.dis).1 ?_
   rcases Nat.lt_or_ge j i with q|q
   ·exact hVhas o (h.inn j q o ho)
   ·have:j=i:=by omega
    rw [this]at ho
    rcases hV with ⟨o',e,h1,rfl⟩|⟨e,_⟩
    ·rw [ho]at e
     rw [←Option.some.inj e,has_get (h.good.dis.put _ _),get_put h.good.dis (by simp),if_pos rfl]
     simp
    ·rw [ho]at e;cases e
structure Ord3 (T Uq:List PR) (oth:List (List UInt8)) (n i:Nat):Prop where
 good:Good Uq
 out: ∀k,(∀j,i≤j→j<n→oth[j]? ≠some k)∨(∃j,j<i∧oth[j]? =some k)→getR Uq k=getR T k
 inn: ∀j,i≤j→j<n→ ∀k,oth[j]? =some k→(∀a,a<i→oth[a]? ≠some k)→hasM k Uq=true
theorem Ord2.ends {T Uq:List PR} {oth ks:List (List UInt8)} {n:Nat} (h:Ord2 T Uq oth ks n) (hT:Dis T) (hks: ∀k,hasM k T=true→ ∃j:Nat,j<n∧ks[j]? =some k) (hks2: ∀(j:Nat) (k:List UInt8),ks[j]? =some k→hasM k T=true):Ord3 T Uq oth n 0:=by
 refine⟨h.good,fun k hk=>?_,fun j _ hj k ho _=>h.inn j hj k ho⟩
 rcases hk with hk|⟨j,hj,_⟩
 ·have h1:=h.out k fun j hj=>hk j (Nat.zero_le _) hj
  cases hh:hasM k T with
  |true=>exact h1.1 (hks k hh)
  |false=>
   have e:getR T k=none:=by
    cases hg:getR T k with
    |none=>rfl
    |some v=>have:=(has_get hT (k:=k)).2 (by rw [hg];simp);rw [hh]at this;cases this
   rw [e]
   refine h1.2 fun j _ hj=>?_
   have:=hks2 j k hj
   rw [hh]at this;cases this
 ·exact absurd hj (Nat.not_lt_zero j)
theorem Ord3.put {T Uq:List PR} {oth:List (List UInt8)} {n i:Nat} {k v:List UInt8} (h:Ord3 T Uq oth n i) (hT:Good T) (ho:oth[i]? =some k) (hg:getR T k=some v):Ord3 T (putM k v Uq) oth n (i+1):=by
 have hkv:=(get_iff hT.dis).1 hg
 have hv0:=(hT.val _ hkv).1
 refine⟨h.good.put (hT.key _ hkv) (hT.val _ hkv).2,fun j hj=>?_,fun j h1 h2 o h3 h4=>?_⟩
 ·rw [get_put h.good.dis hv0]
  split
  ·rename_i e;rw [e,hg]
  ·rename_i e
   refine h.out j ?_
   rcases hj with hj|⟨a,ha,e2⟩
   ·refine .inl fun a h1 h2 h3=>?_
    rcases Nat.lt_or_ge i a with q|q
    ·exact hj a (by omega) h2 h3
    ·have:a=i:=by omega
     rw [this,ho]at h3
     exact e (Option.some.inj h3).symm
   ·rcases Nat.lt_or_ge a i with q|q
    ·exact .inr ⟨a,q,e2⟩
    ·have:a=i:=by omega
     rw [this,ho]at e2
     exact absurd (Option.some.inj e2).symm e
 ·rw [has_get (h.good.dis.put _ _),get_put h.good.dis hv0]
  split
  ·simp
  ·exact(has_get h.good.dis).1 (h.inn j (by omega) h2 o h3 fun a ha=>h4 a (by omega))
theorem Ord3.del {T Uq:List PR} {oth:List (List UInt8)} {n i:Nat} {k:List UInt8} (h:Ord3 T Uq oth n i) (ho:oth[i]? =some k) (hg:getR T k=none):Ord3 T (delM k Uq) oth n (i+1):=by
 refine⟨h.good.del k,fun j hj=>?_,fun j h1 h2 o h3 h4=>?_⟩
 ·rw [get_del h.good.dis]
  split
  ·rename_i e;rw [e,hg]
  ·rename_i e
   refine h.out j ?_
   rcases hj with hj|⟨a,ha,e2⟩
   ·refine .inl fun a h1 h2 h3=>?_
    rcases Nat.lt_or_ge i a with q|q
    ·exact hj a (by omega) h2 h3
    ·have:a=i:=by omega
     rw [this,ho]at h3
     exact e (Option.some.inj h3).symm
   ·rcases Nat.lt_or_ge a i with q|q
    ·exact .inr ⟨a,q,e2⟩
    ·have:a=i:=by omega
     rw [this,ho]at e2
     exact absurd (Option.some.inj e2).symm e
 ·rw [has_get (h.good.dis.del _),get_del h.good.dis]
  split
  ·rename_i e
   exact absurd (by rw [e];exact ho) (h4 i (by omega))
  ·exact(has_get h.good.dis).1 (h.inn j (by omega) h2 o h3 fun a ha=>h4 a (by omega))
theorem Ord3.again {T Uq:List PR} {oth:List (List UInt8)} {n i:Nat} {k:List UInt8} (h:Ord3 T Uq oth n i) (hi:i<n) (ho:oth[i]? =some k) (hd:hasM k Uq=false): ∃a,a<i∧oth[a]? =some k:=by
 refine Classical.byContradiction fun hn=>?_
 have:=h.inn i (Nat.le_refl _) hi k ho fun a ha e=>hn ⟨a,ha,e⟩
 rw [hd]at this;cases this
theorem Ord3.perm {T Uq:List PR} {oth:List (List UInt8)} {n i:Nat} (h:Ord3 T Uq oth n i) (hT:Dis T) (hi: ∀j,i≤j→j<n→oth[j]? =none):Uq.Perm T:=
 get_perm h.good.dis hT fun k=>h.out k (.inl fun j h1 h2 h3=>by rw [hi j h1 h2]at h3;cases h3)
def TrieN (N:Heaplet) (bt c:Nat) (R:List PR):Prop:= ∃mb D,Blk N bt 155 [.map (some mb)]∧MapV Tryz.prog 9 N mb c D∧MapIs D N R∧Good R
theorem TrieN.le {N M:Heaplet} {bt c:Nat} {R:List PR} (h:TrieN N bt c R) (hl:N.le M):TrieN M bt c R:=by
 obtain⟨mb,D,h1,h2,h3,h4⟩:=h
 exact⟨mb,D,h1.le hl,h2.le hl,h3.le hl,h4⟩
theorem TrieN.mono {N:Heaplet} {bt c d:Nat} {R:List PR} (h:TrieN N bt c R) (hl:c≤d):TrieN N bt d R:=by
 obtain⟨mb,D,h1,h2,h3,h4⟩:=h
 exact⟨mb,D,h1,h2.mono hl,h3,h4⟩
theorem MapIs.off {P:Program} {k:TypeId} {D D0:DataW Value} {N N':Heaplet} {b n:Nat} {R:List PR} (h:MapIs D N R) (hm:MapV P k N b n D0) (ho: ∀j,j≠b→N' j=N j):MapIs D N' R:=
 ⟨h.dis,h.tidy,h.size,h.has,fun p hp=>let ⟨a,c,h1,h2⟩:=h.val p hp;⟨a,c,h1,hm.rsl ho h2⟩⟩
theorem MapIs.look {D:DataW Value} {N:Heaplet} {R:List PR} (h:MapIs D N R) (k:List UInt8): ∃a n c,D.atKey (.string k) (.held (.slice none 0 0))=.held (.slice a n c)∧n=((getR R k).getD []).length∧RSl N 1 a n c (u8s ((getR R k).getD [])):=by
 cases hg:getR R k with
 |none=>
  have hh:Maps.has D (.string k)=false:=by
   rw [h.has k]
   cases hk:hasM k R with
   |false=>rfl
   |true=>exact absurd hg ((has_get h.dis).1 hk)
  exact⟨none,0,0,Maps.atKey_of_not_has hh _,rfl,RSl.nil _ _⟩
 |some v=>
  obtain⟨a,c,h1,h2⟩:=h.val (k,v) ((get_iff h.dis).1 hg)
  exact⟨a,_,c,h1 _,rfl,h2⟩
theorem FNew:Fn Tryz.prog 79 #[] [] [] (fun v L=> ∃N bt,v=.pointer (some ⟨bt,0,none⟩)∧L= [N]∧TrieN N bt 0 []):=by
 refine Fn.enter (vs:= []) Tryz.func79 U U U ?_
 intro E R hR
 change At _ _ E [R] _
 refine aH fun _ s_1=>aB (bV U U (aI (s_1 (aH fun _ s_2=>aB (op_makeMapV 9 bT U (fun N1 b1 M1=>op_build (out:= [_]) aN ze155 pl155 (.cons U .nil) U U (cU bT U U U (fun N3 b3 B3=>bV U U (aI (s_2 (cK ((cV (fun Q Q1 Q2=>cF (L1:= [Q]) U (.tmp U .nil) (.refl _) aZ ?_))))))))))))))
 exact⟨Q,b3,rfl,rfl,b1,_,B3.le Q1,M1.le Q2,MapIs.nil _,Good.nil⟩
section
variable {Nt K V : Heaplet} {bt c : Nat} {R0 : List PR} {ka va : Option Addr} {kn kc vn vc : Nat} {k v : List UInt8}
set_option maxHeartbeats 1000000 in
theorem FPut (h:TrieN Nt bt c R0) (hk:RSl K 1 ka kn kc (u8s k)) (hv:RSl V 1 va vn vc (u8s v)) (hkn:kn≤40) (hvn:vn≤1000000) (hc:c≤1099511627776):Fn Tryz.prog 85 #[.pointer (some ⟨bt,0,none⟩),.slice ka kn kc,.slice va vn vc] [Nt] [K,V] (fun x L=> ∃N',x=.tuple #[]∧L= [N']∧TrieN N' bt (c+1) (putM k v R0)):=by
 obtain⟨mb,D,Bt,hM,hI,hG⟩:=h
 have hkl:=hk.len8
 have hvl:=hv.len8
 have hne:=hM.ne Bt
 refine Fn.enter (vs:= [.pointer (some ⟨bt,0,none⟩),.slice ka kn kc,.slice va vn vc]) Tryz.func85 U U U ?_
 intro E R hR
 have hk:=hk.le (hR K (by simp))
 have hv:=hv.le (hR V (by simp))
 have hkey:keyOf Tryz.prog 9 (str k)=some (.string k):=keyOf_strV Tryz.underlying9 (by unfold maxLen;omega)
 change At _ _ E [Nt,R] _
 refine aH fun _ s_1=>aH fun _ s_2=>aB (bC U U (dB aN se37 U U (op_eql aN U U U (aI (s_2 (cD U (fun c8=>?_) (fun c8=>?_)))))))
 ·refine aH fun _ s_3=>permSel0 (cH (cS [R,Nt] [6] [] [0,1,2,3,4,5,6] (by kernel_rfl) (by kernel_rfl) (.refl _) (aR (bB U U U) U U (bH (bB U U U) U U (aJ (bB U U U) fl155_0 U U (aU (bB U U U) sc153 U Bt U dG U ?_))))))
  refine aR (bB U U U) U U (op_str (bB U U U) Tryz.underlying37 Tryz.underlying5 Tryz.underlying9 U (by assumption) (by simp) U ?_)
  refine op_deleteV (nxsl U U U U) (Maps.string_keyed Tryz.underlying9) Tryz.underlying153 U U hM hkey sel1 (fun N1 hM1 ho1=>dH (aS (s_3 (cK (dC ((At.retN (L1:= [N1]) U .nil U (.refl _) aZ ?_)))))))
  have e:v= []:=List.eq_nil_of_length_eq_zero (by omega)
  exact⟨N1,rfl,rfl,mb,_,hM.blk ho1 Bt,hM1.mono (by omega),by rw [putM,if_pos e];exact(hI.off hM ho1).del k,hG.put (by omega) (by omega)⟩
 refine cG (aS (s_1 (permSel0 (cH (cS [R,Nt] [8] [0,4] [0,1,2,3,4,5,6,7,8] (by kernel_rfl) (by kernel_rfl) (.refl _) (aR (bB U U U) U U (bH (bB U U U) U U (aJ (bB U U U) fl155_0 U U (aU (bB U U U) sc153 U Bt U dG U ?_)))))))))
 refine aR (bB U U U) U U (op_str (bB U U U) Tryz.underlying37 Tryz.underlying5 Tryz.underlying9 U (by assumption) (by simp) U ?_)
 refine aR (bB U U U) U U (bG (Nx.agree (nxsm U U U)) (.cons U .nil) (FClone hv (by omega)) Tryz.func108 U U (by simp) U ?_)
 rintro _ _ ⟨M22,a22,c22,rfl,rfl,r22⟩
 show At _ _ _ [M22,R,Nt] _
 refine At.moreS (Lst:= [R,Nt]) (Lst':= [M22,R,Nt]) (.cons _ (.refl _)) (.refl _) ?_
 refine op_mapUpdateV (nxsl U U U U) (Maps.string_keyed Tryz.underlying9) Tryz.underlying153 U U U hM (by unfold maxLen;omega) hkey sel2 (fun N2 hM2 ho2=>?_)
 refine dH (cV (fun Q Q1 Q2=>cQ (L1:= [Q]) U .nil U (.refl _) aZ ?_))
 have e:v≠ []:=fun e=>c8 (by rw [←hvl,e];rfl)
 rw [←hvl]at r22
 exact⟨Q,rfl,rfl,mb,_,(hM.blk ho2 Bt).le Q1,(hvl▸hM2).le Q1,((hI.off hM ho2).le Q1).put e (r22.rsl.le Q2),hG.put (by omega) (by omega)⟩
end
end Go.Proofs.YtalmjkcapecpiaaGreat
namespace Go.Proofs
open Go.RowKit Go.Maps Go.Sort Go.Shelf
def Tryz.keys110_ren:Go.Shelf.Ren:=⟨fun|7=>110|10=>123|n=>n,fun|23=>153|26=>9|3=>37|28=>170|0=>0|27=>169|33=>186|4=>4|n=>n,fun|n=>n⟩
theorem Tryz.keys110:Go.Proofs.SlLaysZ.n7 Tryz.prog Tryz.keys110_ren:= {
 mixed:=by kernel_rfl
 f7:=⟨Tryz.f110.name,by decide,Tryz.func110.trans (congrArg some (by kernel_rfl))⟩
 f10:=⟨Tryz.f123.name,by decide,Tryz.func123.trans (congrArg some (by kernel_rfl))⟩
 t0:=Tryz.underlying0
 a0:=Tryz.isAgg0
 z0:=Tryz.sizeOf0
 v0:=Tryz.zeroValue0
 t4:=Tryz.underlying4
 a4:=Tryz.isAgg4
 z4:=Tryz.sizeOf4
 v4:=Tryz.zeroValue4
 t23:=Tryz.underlying153
 a23:=Tryz.isAgg153
 z23:=Tryz.sizeOf153
 v23:=Tryz.zeroValue153
 t26:=Tryz.underlying9
 a26:=Tryz.isAgg9
 z26:=Tryz.sizeOf9
 v26:=Tryz.zeroValue9
 t27:=Tryz.underlying169
 a27:=Tryz.isAgg169
 z27:=Tryz.sizeOf169
 v27:=Tryz.zeroValue169
 t28:=Tryz.underlying170
 a28:=Tryz.isAgg170
 z28:=Tryz.sizeOf170
 v28:=Tryz.zeroValue170
 t33:=Tryz.underlying186
 a33:=Tryz.isAgg186
 z33:=Tryz.sizeOf186
 v33:=Tryz.zeroValue186 }
def Tryz.sorted109_ren:Go.Shelf.Ren:=⟨fun|6=>109|8=>121|9=>122|11=>154|13=>115|12=>155|23=>139|24=>140|14=>168|15=>169|16=>170|17=>171|18=>172|19=>173|20=>174|21=>175|22=>176|25=>181|26=>159|27=>160|28=>182|29=>183|30=>184|31=>185|n=>n,fun|26=>9|28=>170|24=>167|0=>0|3=>3|37=>178|48=>201|50=>34|4=>4|40=>194|39=>193|45=>198|5=>5|9=>9|51=>216|55=>219|57=>233|58=>234|33=>186|n=>n,fun|n=>n⟩
theorem Tryz.sorted109:Go.Proofs.SlLaysZ.n6 Tryz.prog Tryz.sorted109_ren:= {
 mixed:=by kernel_rfl
 f6:=⟨Tryz.f109.name,by decide,Tryz.func109.trans (congrArg some (by kernel_rfl))⟩
 f8:=⟨Tryz.f121.name,by decide,Tryz.func121.trans (congrArg some (by kernel_rfl))⟩
 f11:=⟨Tryz.f154.name,by decide,Tryz.func154.trans (congrArg some (by kernel_rfl))⟩
 t0:=Tryz.underlying0
 a0:=Tryz.isAgg0
 z0:=Tryz.sizeOf0
 v0:=Tryz.zeroValue0
 t24:=Tryz.underlying167
 a24:=Tryz.isAgg167
 z24:=Tryz.sizeOf167
 v24:=Tryz.zeroValue167
 t26:=Tryz.underlying9
 a26:=Tryz.isAgg9
 z26:=Tryz.sizeOf9
 v26:=Tryz.zeroValue9
 t28:=Tryz.underlying170
 a28:=Tryz.isAgg170
 z28:=Tryz.sizeOf170
 v28:=Tryz.zeroValue170
 i26:=by kernel_rfl }
def Tryz.sort122_ren:Go.Shelf.Ren:=⟨fun|6=>122|8=>115|9=>155|19=>139|20=>140|21=>168|22=>169|23=>170|24=>171|25=>172|26=>173|27=>174|28=>175|29=>176|36=>181|31=>159|32=>160|37=>182|38=>183|39=>184|41=>185|n=>n,fun|27=>167|29=>9|3=>3|32=>178|26=>167|0=>0|44=>201|46=>34|4=>4|36=>194|35=>193|41=>198|5=>5|9=>9|53=>216|57=>219|63=>233|64=>234|n=>n,fun|n=>n⟩
theorem Tryz.sort122:Go.Proofs.SlLaysM.n6 Tryz.prog Tryz.sort122_ren:= {
 mixed:=by kernel_rfl
 f6:=⟨Tryz.f122.name,by decide,Tryz.func122.trans (congrArg some (by kernel_rfl))⟩
 f8:=Tryz.func115.trans (congrArg some (by kernel_rfl))
 f9:=⟨Tryz.f155.name,by decide,Tryz.func155.trans (congrArg some (by kernel_rfl))⟩
 f19:=Tryz.func139.trans (congrArg some (by kernel_rfl))
 f20:=Tryz.func140.trans (congrArg some (by kernel_rfl))
 f21:=⟨Tryz.f168.name,by decide,Tryz.func168.trans (congrArg some (by kernel_rfl))⟩
 f22:=⟨Tryz.f169.name,by decide,Tryz.func169.trans (congrArg some (by kernel_rfl))⟩
 f23:=⟨Tryz.f170.name,by decide,Tryz.func170.trans (congrArg some (by kernel_rfl))⟩
 f24:=⟨Tryz.f171.name,by decide,Tryz.func171.trans (congrArg some (by kernel_rfl))⟩
 f25:=⟨Tryz.f172.name,by decide,Tryz.func172.trans (congrArg some (by kernel_rfl))⟩
 f26:=⟨Tryz.f173.name,by decide,Tryz.func173.trans (congrArg some (by kernel_rfl))⟩
 f27:=⟨Tryz.f174.name,by decide,Tryz.func174.trans (congrArg some (by kernel_rfl))⟩
 f28:=⟨Tryz.f175.name,by decide,Tryz.func175.trans (congrArg some (by kernel_rfl))⟩
 f29:=⟨Tryz.f176.name,by decide,Tryz.func176.trans (congrArg some (by kernel_rfl))⟩
 f31:=Tryz.func159.trans (congrArg some (by kernel_rfl))
 f32:=Tryz.func160.trans (congrArg some (by kernel_rfl))
 f36:=⟨Tryz.f181.name,by decide,Tryz.func181.trans (congrArg some (by kernel_rfl))⟩
 f37:=⟨Tryz.f182.name,by decide,Tryz.func182.trans (congrArg some (by kernel_rfl))⟩
 f38:=⟨Tryz.f183.name,by decide,Tryz.func183.trans (congrArg some (by kernel_rfl))⟩
 f39:=⟨Tryz.f184.name,by decide,Tryz.func184.trans (congrArg some (by kernel_rfl))⟩
 f41:=⟨Tryz.f185.name,by decide,Tryz.func185.trans (congrArg some (by kernel_rfl))⟩
 t0:=Tryz.underlying0
 a0:=Tryz.isAgg0
 z0:=Tryz.sizeOf0
 v0:=Tryz.zeroValue0
 t3:=Tryz.underlying3
 a3:=Tryz.isAgg3
 z3:=Tryz.sizeOf3
 v3:=Tryz.zeroValue3
 t4:=Tryz.underlying4
 a4:=Tryz.isAgg4
 z4:=Tryz.sizeOf4
 v4:=Tryz.zeroValue4
 t5:=Tryz.underlying5
 a5:=Tryz.isAgg5
 z5:=Tryz.sizeOf5
 v5:=Tryz.zeroValue5
 t9:=Tryz.underlying9
 a9:=Tryz.isAgg9
 z9:=Tryz.sizeOf9
 v9:=Tryz.zeroValue9
 t26:=Tryz.underlying167
 a26:=Tryz.isAgg167
 z26:=Tryz.sizeOf167
 v26:=Tryz.zeroValue167
 t27:=Tryz.underlying167
 a27:=Tryz.isAgg167
 z27:=Tryz.sizeOf167
 v27:=Tryz.zeroValue167
 t29:=Tryz.underlying9
 a29:=Tryz.isAgg9
 z29:=Tryz.sizeOf9
 v29:=Tryz.zeroValue9
 t32:=Tryz.underlying178
 a32:=Tryz.isAgg178
 z32:=Tryz.sizeOf178
 v32:=Tryz.zeroValue178
 t35:=Tryz.underlying193
 a35:=Tryz.isAgg193
 z35:=Tryz.sizeOf193
 v35:=Tryz.zeroValue193
 t36:=Tryz.underlying194
 a36:=Tryz.isAgg194
 z36:=Tryz.sizeOf194
 v36:=Tryz.zeroValue194
 t41:=Tryz.underlying198
 a41:=Tryz.isAgg198
 z41:=Tryz.sizeOf198
 v41:=Tryz.zeroValue198
 t44:=Tryz.underlying201
 a44:=Tryz.isAgg201
 z44:=Tryz.sizeOf201
 v44:=Tryz.zeroValue201
 t46:=Tryz.underlying34
 a46:=Tryz.isAgg34
 z46:=Tryz.sizeOf34
 v46:=Tryz.zeroValue34
 t53:=Tryz.underlying216
 a53:=Tryz.isAgg216
 z53:=Tryz.sizeOf216
 v53:=Tryz.zeroValue216
 t57:=Tryz.underlying219
 a57:=Tryz.isAgg219
 z57:=Tryz.sizeOf219
 v57:=Tryz.zeroValue219
 t63:=Tryz.underlying233
 a63:=Tryz.isAgg233
 z63:=Tryz.sizeOf233
 v63:=Tryz.zeroValue233
 t64:=Tryz.underlying234
 a64:=Tryz.isAgg234
 z64:=Tryz.sizeOf234
 v64:=Tryz.zeroValue234 }
theorem Tryz.sorts109 (m:Nat):AnyZ.SortsIn Tryz.prog Tryz.sorted109_ren Fence.wide m:=
 ⟨fun blk off cap ss W hH hblk hsz=>callsIn_wide.2 (AnyM.slices_Sort_string Tryz.sort122 blk off cap ss W hH hblk hsz),
  fun p cap W=>callsIn_wide.2 (AnyM.slices_Sort_string_none Tryz.sort122 p cap W)⟩
end Go.Proofs
namespace Go.Proofs.YtalmjkcapecpiaaGreat
open Go Go.RowKit
def RowM (N:Heaplet) (e:TypeId) (b n cap:Nat) (xs:List Value):Prop:=
 xs.length=n∧n≤cap∧cap≤maxLen∧ ∃cs:List Value,N b=some (.cells cs.toArray e (cap,cap+1))∧cs.length=cap∧cs.take n=xs
theorem RowM.rsl {N:Heaplet} {e:TypeId} {b n cap:Nat} {xs:List Value} (h:RowM N e b n cap xs):RSl N 1 (some ⟨b,0,none⟩) n cap xs:=by
 obtain⟨h1,h2,h3,cs,hN,hl,ht⟩:=h
 refine⟨by omega,h2,h3,fun h0=>⟨b,0,rfl,fun i hi=>?_⟩⟩
 unfold cellOf
 rw [hN]
 simp only [Nat.zero_add]
 have:(cs.take n)[i]? =some xs[i]:=by rw [ht];exact List.getElem?_eq_getElem hi
 rw [List.getElem?_take]at this
 split at this
 ·simpa using this
 ·cases this
section
variable {P : Program} {n : Nat} {l : List (Nat × Value)} {E : World} {L L1 : List Heaplet} {X Y : Act → World → Prop} {N : Heaplet}
variable {d : Nat} {ty t t' e : TypeId} {pos : String} {aft : Array Edge} {g : Option (Nat × Bool)} {v : Value} {x y : Operand} {len cap : Nat} {xs : List Value} {b j : Nat}
theorem op_strB {bs:List UInt8} {src dst:TypeId} (s:NxA P n l E L ⟨some d,.convert src dst x,ty,pos,aft,g⟩ X Y) (hs:P.underlying src=some .string) (ht:P.underlying dst=some (.slice e)) (he:P.underlying e=some (.int .u8)) (hx:ev l x=some (str bs)) (hlen:bs.length≤9223372036854775807) (hn:Nat.ble (d+1) n=true)
 (h: ∀N b cap,RowM N e b bs.length cap (u8s bs)→At n ((d,.slice (some ⟨b,0,none⟩) bs.length cap)::l) E (N::L) Y):At n l E L X:=by
 refine op_new s (fun v L'=> ∃N b cap,v=.slice (some ⟨b,0,none⟩) bs.length cap∧L'=N::L∧RowM N e b bs.length cap (u8s bs)) (fun a w hf hw=>?_) rfl hn (fun v L' ⟨N,b,cap,hv,hL,hB⟩=>by subst hv;subst hL;exact h N b cap hB)
 have hsz:(⟨bs.toArray⟩:ByteArray).size=bs.length:=by simp [ByteArray.size]
 have hrun:=run_bytes_of_string (P:=P) w src dst e ⟨bs.toArray⟩ hs ht he
 rw [hsz]at hrun
 have hge:=grownCap_ge w bs.length 0 e
 have hle:=grownCap_le_maxLen w bs.length 0 e (by unfold maxLen;omega)
 obtain⟨C,hC⟩: ∃C,grownCap w bs.length 0 e=C:=⟨_,rfl⟩
 rw [hC]at hrun hge hle
 have hrow:bytesRow ⟨bs.toArray⟩ C=(u8s bs++List.replicate (C- bs.length) (Value.int .u8 0)).toArray:=by
  unfold bytesRow
  rw [hsz]
  simp [u8s]
  exact fun _ _=>rfl
 have hlr:(u8s bs++List.replicate (C- bs.length) (Value.int .u8 0)).length=C:=by
  rw [List.length_append,length_u8s,List.length_replicate];omega
 rw [hrow]at hrun
 simp only [List.size_toArray,hlr]at hrun
 obtain⟨o,ho⟩: ∃o,Obj.cells (u8s bs++List.replicate (C- bs.length) (Value.int .u8 0)).toArray e (C,C+1)=o:=⟨_,rfl⟩
 rw [ho]at hrun
 refine⟨.slice (some ⟨w.heap.size,0,none⟩) bs.length C,w.drew.alloc o,single w.heap.size o::L,?_,?_,(hw.drew).alloc o,single w.heap.size o,w.heap.size,C,rfl,rfl,?_⟩
 ·simp only [execOp,hf.eval hx,str]
  rw [Sem.run_bind,hrun]
  rfl
 ·exact Agree.alloc w.drew o
 ·exact⟨length_u8s bs,hge,hle,_,by rw [←ho];exact single_self _ _,hlr,by rw [List.take_append,length_u8s,Nat.sub_self,List.take_zero,List.append_nil,List.take_of_length_le (by rw [length_u8s];exact Nat.le_refl _)]⟩
end
end Go.Proofs.YtalmjkcapecpiaaGreat
