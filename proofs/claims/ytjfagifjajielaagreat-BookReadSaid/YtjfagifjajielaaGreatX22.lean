/- Several texts in one: see the remarks ahead of each part. No condition but those told there. -/
import Derived.Test.YtjfagifjajielaaGreatX1
import Derived.Test.YtjfagifjajielaaGreatX18
import Derived.Test.YtjfagifjajielaaGreatX21
import Derived.Test.YtjfagifjajielaaGreatX13
set_option linter.unusedSimpArgs false
set_option linter.unusedVariables false
namespace Go.Proofs.YtjfagifjajielaaGreat
open Go Go.RowKit
set_option maxRecDepth 100000
def Inv {α:Type} (E:Nat) (T R:Except Nat α):Prop:=(E=0∧T=R)∨(E≠0∧T=.error E)
theorem Inv.step {α β:Type} {E E':Nat} {T:Except Nat β} {r:Except Nat α} {f:α→Except Nat β} {x:α} (h:Inv E T (eb r f)) (s:Stp E r x E'):Inv E' T (f x):=by
 rcases h with ⟨h0,h⟩|⟨h0,h⟩
 ·rcases s with ⟨s1,s2⟩|⟨e,s1,s2,s3⟩
  ·exact .inl ⟨s2.trans h0,by rw [h,s1];rfl⟩
  ·rw [if_pos h0]at s3
   exact .inr ⟨by rw [s3];exact s2,by rw [h,s1,s3];rfl⟩
 ·have e:E'=E:=by
   rcases s with ⟨_,s2⟩|⟨e,_,_,s3⟩
   ·exact s2
   ·rw [if_neg h0]at s3;exact s3
  rw [e];exact .inr ⟨h0,h⟩
theorem Inv.err {α:Type} {E:Nat} {T R:Except Nat α} (h:Inv E T R) (he:E≠0):T=.error E:=by
 rcases h with ⟨h0,_⟩|⟨_,h⟩
 ·exact absurd h0 he
 ·exact h
theorem Inv.ok {α:Type} {E:Nat} {T R:Except Nat α} (h:Inv E T R) (he:E=0):T=R:=by
 rcases h with ⟨_,h⟩|⟨h0,_⟩
 ·exact h
 ·exact absurd he h0
theorem stp64 {E E' x:Nat} {t:It} (h:Stp E (smallE t) x E'):Stp E (n64E t) (UInt64.ofNat x) E':=by
 rcases h with ⟨h1,h2⟩|⟨e,h1,h2⟩
 ·exact .inl ⟨by simp only [n64E,eb,h1],h2⟩
 ·exact .inr ⟨e,by simp only [n64E,eb,h1],h2⟩
theorem part_one {ps:List (List Value)} {ls:List Nat} {j o i:Nat} {p:List Value} {u:Value} (hl:ps.map List.length=ls) (hp:ps[j]? =some p) (ho:(ls.take j).sum=o) (hi:i<p.length):setL ps.flatten (o+i) [u]=(ps.set j (p.set i u)).flatten:=by
 have h1:=(part_len hl j).trans ho
 obtain⟨hj,_⟩:=List.getElem?_eq_some_iff.1 hp
 rw [List.set_eq_take_append_cons_drop,if_pos hj,List.flatten_append,List.flatten_cons,part_cut hp,setL,setL,List.set_append_right _ _ (by omega),h1,Nat.add_sub_cancel_left,List.set_append_left _ _ hi]
section
variable {v : Value} {i : Nat}
variable {fi : Int} {pa om co st tx rc bl ex mx no wd be : List UInt8} {df bf : Nat} {nu gl gu ti bg xs : UInt64}
theorem u8s_set1 (l:List UInt8) (i:Nat) (x:UInt8):(u8s l).set i (.int .u8 (x.toNat:Int))=u8s (l.set i x):=by rw [set_u8s]
theorem hd_bl1 (k:HdM.Ok (⟨fi,pa,om,co,st,tx,rc,bl,df,nu,gl,gu,ti,ex,mx,no,bf,wd,bg,xs,be⟩:HdM)) (hi:i<256) (x:UInt8):setL (HdM.cells (⟨fi,pa,om,co,st,tx,rc,bl,df,nu,gl,gu,ti,ex,mx,no,bf,wd,bg,xs,be⟩:HdM) v) (0+181+i*1) [.int .u8 (x.toNat:Int)]=HdM.cells (⟨fi,pa,om,co,st,tx,rc,bl.set i x,df,nu,gl,gu,ti,ex,mx,no,bf,wd,bg,xs,be⟩:HdM) v:=by
 have h:=part_one (HdM.lens k v) (j:=7) (o:=181) (i:=i) (u:=.int .u8 (x.toNat:Int)) rfl rfl (by simp only [bL];rw [k.bl];exact hi)
 rw [u8s_set1]at h
 rw [show 0+181+i*1=181+i by omega]
 exact h
theorem hd_no1 (k:HdM.Ok (⟨fi,pa,om,co,st,tx,rc,bl,df,nu,gl,gu,ti,ex,mx,no,bf,wd,bg,xs,be⟩:HdM)) (hi:i<8) (x:UInt8):setL (HdM.cells (⟨fi,pa,om,co,st,tx,rc,bl,df,nu,gl,gu,ti,ex,mx,no,bf,wd,bg,xs,be⟩:HdM) v) (0+478+i*1) [.int .u8 (x.toNat:Int)]=HdM.cells (⟨fi,pa,om,co,st,tx,rc,bl,df,nu,gl,gu,ti,ex,mx,no.set i x,bf,wd,bg,xs,be⟩:HdM) v:=by
 have h:=part_one (HdM.lens k v) (j:=15) (o:=478) (i:=i) (u:=.int .u8 (x.toNat:Int)) rfl rfl (by simp only [bL];rw [k.no];exact hi)
 rw [u8s_set1]at h
 rw [show 0+478+i*1=478+i by omega]
 exact h
end
theorem RFields (n:Int):Fn Tryz.prog 21 #[.int .i64 n] [] [] (fun v L=>v=.bool (decide (okF n))∧L= []):=by
 refine Fn.enter (vs:= [.int .i64 n]) Tryz.func21 U U U ?_
 intro E R hR
 change At _ _ E [R] _
 refine aC fun _ s_1=>aA (aR U U (aB (s_1 (aC fun _ s_2=>aA (aH U U (dF aE U U U (aH U U (cB (d:=5) U (fun g5=>?_) (fun g5=>?_)))))))))
 ·refine aU U U U U U U U (aU U U U U U U U (cH aE U U U (aH U U (aU U U U U U U U (aU U U U U U U U (cH aE U U U (aH U U (aU U U U U U U U (aU U U U U U U U (cH aE U U U (aR U U (aB (s_2 (a0 ((cI (L1:= []) U (.tmp U .nil) (.refl _) aJ ?_))))))))))))))))
  exact⟨by congr 1;symm;first|(rw [decide_eq_true_iff];unfold okF;omega)|(rw [Bool.eq_iff_iff,decide_eq_true_iff,decide_eq_true_iff];unfold okF;omega),rfl⟩
 refine aP (bF U U U U) U U (dF (bF U U U U) U U U (cE aE U U U (aH U U (cB (d:=9) U (fun g9=>?_) (fun g9=>?_)))))
 ·refine aU U U U U U U U (aU U U U U U U U (cH aE U U U (aH U U (aU U U U U U U U (aU U U U U U U U (cH aE U U U (aR U U (aB (s_2 (a0 ((cI (L1:= []) U (.tmp U .nil) (.refl _) aJ ?_))))))))))))
  exact⟨by congr 1;symm;first|(rw [decide_eq_true_iff];unfold okF;omega)|(rw [Bool.eq_iff_iff,decide_eq_true_iff,decide_eq_true_iff];unfold okF;omega),rfl⟩
 refine aP (bF U U U U) U U (dF (bF U U U U) U U U (cE aE U U U (aH U U (cB (d:=13) U (fun g13=>?_) (fun g13=>?_)))))
 ·refine aU U U U U U U U (aU U U U U U U U (cH aE U U U (aR U U (aB (s_2 (a0 ((cI (L1:= []) U (.tmp U .nil) (.refl _) aJ ?_))))))))
  exact⟨by congr 1;symm;first|(rw [decide_eq_true_iff];unfold okF;omega)|(rw [Bool.eq_iff_iff,decide_eq_true_iff,decide_eq_true_iff];unfold okF;omega),rfl⟩
 refine aP (bF U U U U) U U (dF (bF U U U U) U U U (cE aE U U U (aR U U (aB (s_2 (a0 ((cI (L1:= []) U (.tmp U .nil) (.refl _) aJ ?_))))))))
 exact⟨by congr 1;symm;first|(rw [decide_eq_true_iff];unfold okF;omega)|(rw [Bool.eq_iff_iff,decide_eq_true_iff,decide_eq_true_iff];unfold okF;omega),rfl⟩
def RHdP (NI:Heaplet) (t:It) (v:Value) (L:List Heaplet):Prop:=
 (∃M h v1,hdE t=.ok h∧v=.tuple #[.agg (h.cells v1).toArray,.int .i64 0]∧L= [M]∧h.Ok∧okF h.fi∧ ∃ea ec,v1=.slice ea h.ex.length ec∧ ∀J:Heaplet,M.le J→NI.le J→RSl J 1 ea h.ex.length ec (u8s h.ex))∨
 (∃e:Nat,hdE t=.error e∧v=.tuple #[.agg z44.toArray,.int .i64 (e:Int)]∧e≠0∧L= [nilH])
section
variable {NI : Heaplet} {t : It} {x : IV}
set_option maxHeartbeats 16000000 in
theorem RToHeader (hx:ItN NI t x):Fn Tryz.prog 49 #[.agg #[.bool x.l,.slice x.ab x.nb x.cb,.slice x.ai x.ni x.ci]] [] [NI] (RHdP NI t):=by
 obtain⟨l,bs,its,et,o1,o2,xs,hI,hX⟩:=it_openQ hx
 obtain⟨xl,ab,nb,cb,ai,ni,ci⟩:=x
 have o1:xl=l:=o1
 have hI:RSl NI 3 ai ni ci (cellsI xs):=hI
 have hxl:=hX.length
 have hn:xs.length=ni:=by have:=hI.1;rw [length_cellsI]at this;omega
 have hcap:=hI.cap63
 refine Fn.enter (vs:= [.agg #[.bool xl,.slice ab nb cb,.slice ai ni ci]]) Tryz.func49 U U U ?_
 intro E R hR
 have hNR:=hR NI (by simp)
 have hIR:=hI.le hNR
 have hXR:=hX.le hNR
 change At _ _ E [R] _
 refine aC fun _ s_1=>aA (op_box bU U U U (fun N1 b1 B1=>bK bU ze44 U (fun N2 b2 B2=>?_)))
 change Blk N2 b2 _ z44 at B2
 refine aR U U (aB (s_1 (aC fun _ s_2=>aC fun _ s_3=>aA (aD aE fl91_0 U U (aK aE sc4 U B1 U mem1 U ?_)))))
 refine op_not aE U U (aH U U (At.part (d:=12) U (fun g12=>?_) (fun g12=>?_)))
 ·refine aU U U U U U U U (aU U U U U U U U (aU U U U U U U U (aU U U U U U U U (aU U U U U U U U (cH aE U U U (aB (s_3 (At.condT U (aC fun _ s_4=>aA (cM (out:=z44) aE ze44 pl44 .nil U U (aF cL sz44 U U U cY (by decide) B2 (by exact Nat.le_refl _) dB (fun N2 B2=>?_))))))))))))
  rw [bG rfl]at B2
  refine aR U U (aB (s_4 (a0 (aS ((cV (bJ (aM (bO (aM (bE (L1:= [nilH]) U (.cell U (bQ (ds:=_) ag44 B2 (by first|exact bY cY|exact bY (HdM.len k _)) (by first|exact cY|exact HdM.len k _) bI) (.tmp U .nil)) U (.cons _ (.refl _)) aJ ?_)))))))))))
  have hl:l=false:=by rw [←o1];simpa using g12
  exact .inr ⟨2,by rw [et,hl];rfl,rfl,by decide,rfl⟩
 refine aD (bF U U U U) fl91_2 U U (aK (bF U U U U) sc89 U B1 U mem1 U ?_)
 refine cF (bF U U U U) se89 U U (bD (nxga U U U U) (.cons U .nil) (RFields (ni:Int)) Tryz.func21 U U (by simp) U ?_)
 rintro v16 L16 ⟨rfl,rfl⟩
 show At _ _ _ [N2,N1,R] _
 refine op_notP (bF U U U U) U U (cE aE U U U (aB (s_3 (aQ U (fun c18=>?_) (fun c18=>?_)))))
 ·refine aC fun _ s_5=>aA (cM (out:=z44) aE ze44 pl44 .nil U U (aF cL sz44 U U U cY (by decide) B2 (by exact Nat.le_refl _) dB (fun N2 B2=>?_)))
  rw [bG rfl]at B2
  refine aR U U (aB (s_5 (a0 (aS ((cV (bJ (aM (bO (aM (bE (L1:= [nilH]) U (.cell U (bQ (ds:=_) ag44 B2 (by first|exact bY cY|exact bY (HdM.len k _)) (by first|exact cY|exact HdM.len k _) bI) (.tmp U .nil)) U (.cons _ (.refl _)) aJ ?_)))))))))))
  have hl:l=true:=by rw [←o1];simpa using g12
  have hno: ¬okF (ni:Int):=by simpa using c18
  exact .inr ⟨2,by rw [et,hl];refine hdE_len U (fun k=>hno ?_);simp only [List.mem_cons,List.not_mem_nil,or_false]at k;unfold okF;omega,rfl,by decide,rfl⟩
 have hl:l=true:=by rw [←o1];simpa using g12
 have hok:okF (ni:Int):=by simpa using c18
 have hin:its.length∈ [15,16,17,20]:=by
  unfold okF at hok
  simp only [List.mem_cons,List.not_mem_nil,or_false];omega
 obtain⟨t0,t1,t2,t3,t4,t5,t6,t7,t8,t9,t10,t11,t12,t13,t14,r,rfl,hrl⟩:=split15 hin
 have hT:hdE t=hdA (t0::t1::t2::t3::t4::t5::t6::t7::t8::t9::t10::t11::t12::t13::t14::r):=by rw [et,hl];exact hdE_in rfl hin
 have hni:ni=15+r.length:=by
  rw [←hn,hxl];simp only [List.length_cons];omega
 subst hni
 have inv:Inv 0 (hdE t) (hdA (t0::t1::t2::t3::t4::t5::t6::t7::t8::t9::t10::t11::t12::t13::t14::r)):=.inl ⟨rfl,hT⟩
 refine aT (aI (s_2 (aC fun _ s_6=>aA (aD aE fl91_2 U U (aK aE sc89 U B1 U mem1 U ?_)))))
 refine cM (out:= [.slice ai (15+r.length) ci,.int .i64 0,.int .i64 0]) aE ze105 pl105 (.cons U .nil) U U (op_box bU U U U (fun N23 b23 B23=>aR U U (aB (s_6 (aC fun _ s_7=>aA (aD aE fl91_2 U U (aK aE sc89 U B1 U mem2 U ?_)))))))
 refine cF aE se89 U U (cM (out:=(HdM.zero ((15+r.length:Nat):Int)).cells (.slice none 0 0)) aE ze44 pl44 (.cons U .nil) (fill_hd _) U (bK bU ze44 U (fun N5 b5 B5=>?_)))
 change Blk N5 b5 _ z44 at B5
 refine aF cL sz44 U U U (HdM.len (zeros_ok _) _) (HdM.one U) B5 (by rw [HdM.len (zeros_ok _),cY];exact Nat.le_refl _) dB (fun N5 B5=>?_)
 rw [bG (by rw [HdM.len (zeros_ok _),cY])]at B5;have k:=zeros_ok ((15+r.length:Nat):Int);rw [zeros_flat]at B5 k;have hQ:PartsQ N23 NI b23 (t0::t1::t2::t3::t4::t5::t6::t7::t8::t9::t10::t11::t12::t13::t14::r) 0 0:=⟨ai,15+r.length,ci,xs,B23,hI,hX⟩
 refine aB (s_7 (aC fun _ s_8=>aA (aH U U (aL (aL (aL (aN (aL (cA cL (.cons U .nil) ((RHash hQ (by omega)).liftB hNR) (F:= [N5,N2,N1,R]) Tryz.func97 U U aJ (by simp) U ?_)))))))))
 rintro _ _ ⟨Nq,x_pa,E_pa,rfl,l_pa,rfl,hQ,st_pa⟩
 show At _ _ _ [Nq,N5,N2,N1,R] _
 have inv:=inv.step st_pa
 refine aD aE fl44_1 U U ?_
 refine aF cL sz40 U U U (by rw [bL];exact l_pa) (all8x2 _) B5 (by rw [HdM.len k,bL,l_pa];exact show 0+1+32≤556 by decide) sel1 (fun N5 B5=>?_)
 erw [hd_pa k l_pa]at B5;have k:=ok_pa k l_pa
 refine aB (s_8 (aC fun _ s_9=>aA (aH U U (aL (aL (aL (aN (aL (cA cL (.cons U .nil) ((RHash hQ (by omega)).liftB hNR) (F:= [N5,N2,N1,R]) Tryz.func97 U U aJ (by simp) U ?_)))))))))
 rintro _ _ ⟨Nq,x_om,E_om,rfl,l_om,rfl,hQ,st_om⟩
 show At _ _ _ [Nq,N5,N2,N1,R] _
 have inv:=inv.step st_om
 refine aD aE fl44_2 U U ?_
 refine aF cL sz40 U U U (by rw [bL];exact l_om) (all8x2 _) B5 (by rw [HdM.len k,bL,l_om];exact show 0+33+32≤556 by decide) sel1 (fun N5 B5=>?_)
 erw [hd_om k l_om]at B5;have k:=ok_om k l_om
 refine aB (s_9 (aC fun _ s_10=>aA (aH U U (aL (aL (aL (aN (aL (cA cL (.cons U .nil) ((RAddr hQ (by omega)).liftB hNR) (F:= [N5,N2,N1,R]) Tryz.func41 U U aJ (by simp) U ?_)))))))))
 rintro _ _ ⟨Nq,x_co,E_co,rfl,l_co,rfl,hQ,st_co⟩
 show At _ _ _ [Nq,N5,N2,N1,R] _
 have inv:=inv.step st_co
 refine aD aE fl44_3 U U ?_
 refine aF cL sz28 U U U (by rw [bL];exact l_co) (all8x2 _) B5 (by rw [HdM.len k,bL,l_co];exact show 0+65+20≤556 by decide) sel1 (fun N5 B5=>?_)
 erw [hd_co k l_co]at B5;have k:=ok_co k l_co
 refine aB (s_10 (aC fun _ s_11=>aA (aH U U (aL (aL (aL (aN (aL (cA cL (.cons U .nil) ((RHash hQ (by omega)).liftB hNR) (F:= [N5,N2,N1,R]) Tryz.func97 U U aJ (by simp) U ?_)))))))))
 rintro _ _ ⟨Nq,x_st,E_st,rfl,l_st,rfl,hQ,st_st⟩
 show At _ _ _ [Nq,N5,N2,N1,R] _
 have inv:=inv.step st_st
 refine aD aE fl44_4 U U ?_
 refine aF cL sz40 U U U (by rw [bL];exact l_st) (all8x2 _) B5 (by rw [HdM.len k,bL,l_st];exact show 0+85+32≤556 by decide) sel1 (fun N5 B5=>?_)
 erw [hd_st k l_st]at B5;have k:=ok_st k l_st
 refine aB (s_11 (aC fun _ s_12=>aA (aH U U (aL (aL (aL (aN (aL (cA cL (.cons U .nil) ((RHash hQ (by omega)).liftB hNR) (F:= [N5,N2,N1,R]) Tryz.func97 U U aJ (by simp) U ?_)))))))))
 rintro _ _ ⟨Nq,x_tx,E_tx,rfl,l_tx,rfl,hQ,st_tx⟩
 show At _ _ _ [Nq,N5,N2,N1,R] _
 have inv:=inv.step st_tx
 refine aD aE fl44_5 U U ?_
 refine aF cL sz40 U U U (by rw [bL];exact l_tx) (all8x2 _) B5 (by rw [HdM.len k,bL,l_tx];exact show 0+117+32≤556 by decide) sel1 (fun N5 B5=>?_)
 erw [hd_tx k l_tx]at B5;have k:=ok_tx k l_tx
 refine aB (s_12 (aC fun _ s_13=>aA (aH U U (aL (aL (aL (aN (aL (cA cL (.cons U .nil) ((RHash hQ (by omega)).liftB hNR) (F:= [N5,N2,N1,R]) Tryz.func97 U U aJ (by simp) U ?_)))))))))
 rintro _ _ ⟨Nq,x_rc,E_rc,rfl,l_rc,rfl,hQ,st_rc⟩
 show At _ _ _ [Nq,N5,N2,N1,R] _
 have inv:=inv.step st_rc
 refine aD aE fl44_6 U U ?_
 refine aF cL sz40 U U U (by rw [bL];exact l_rc) (all8x2 _) B5 (by rw [HdM.len k,bL,l_rc];exact show 0+149+32≤556 by decide) sel1 (fun N5 B5=>?_)
 erw [hd_rc k l_rc]at B5;have k:=ok_rc k l_rc
 refine aB (s_13 (aC fun _ s_14=>aA (aH U U (aL (aL (aL (aN (aL (cA cL (.cons U (.cons U .nil)) ((RRawFix hQ (by omega) 256).liftB hNR) (F:= [N5,N2,N1,R]) Tryz.func42 U U aJ (by simp) U ?_)))))))))
 rintro _ _ ⟨Nq,M_bl,a_bl,y_bl,c_bl,E_bl,rfl,rfl,hQ,rb_bl,st_bl,bl_bl⟩
 show At _ _ _ [Nq,M_bl,N5,N2,N1,R] _
 have len_bl:256≤y_bl.length:=(bl_bl.elim (fun z=>by omega) fun z=>by rw [fix_len z];exact Nat.le_refl _);have hb_bl: ∀J:Heaplet,(∀N∈ [M_bl,R],N.le J)→RSl J 1 a_bl y_bl.length c_bl (u8s y_bl):=(fun J hJ=>rb_bl J (hJ M_bl (by simp)) (Heaplet.le_trans hNR (hJ R (by simp))));refine At.ex (Ns:= [M_bl,R]) hb_bl (two_mem (by simp) (by simp)) fun JX s_bl=>?_;have hc_bl:=s_bl.cap63;have inv:=inv.step (stp_take st_bl)
 refine aR U U (aB (s_14 (aC fun _ s_15=>aC fun _ s_16=>aA (aR U U (aB (s_16 (bZ (dH (At.loop (fun fr_ hp_ ms_=> ∃(i:Nat) (N5:Heaplet),fr_= [(2,.pointer (some ⟨b2,0,none⟩)),(4,.pointer (some ⟨b23,0,none⟩)),(5,.pointer (some ⟨b5,0,none⟩)),(6,.slice a_bl y_bl.length c_bl),(7,.int .i64 (i:Int))]∧hp_= [Nq,M_bl,N5,N2,R]∧256- i=ms_∧(i≤256)∧(Blk N5 b5 44 (HdM.cells (⟨((15+r.length:Nat):Int),x_pa,x_om,x_co,x_st,x_tx,x_rc,fillR 256 y_bl i,0,0,0,0,0,[],zeros8 32,zeros8 8,0,zeros8 32,0,0,zeros8 32⟩:HdM) (.slice none 0 0)))∧(HdM.Ok (⟨((15+r.length:Nat):Int),x_pa,x_om,x_co,x_st,x_tx,x_rc,fillR 256 y_bl i,0,0,0,0,0,[],zeros8 32,zeros8 8,0,zeros8 32,0,0,zeros8 32⟩:HdM))) ?_ aJ ⟨0,N5,rfl,rfl,rfl,Nat.zero_le _,B5,k⟩ ?_)))))))))
 ·repeat first|apply cW|exact .nil|exact lkI rfl (by omega)|rfl
 rintro _ _ _ ⟨i,N5,rfl,rfl,rfl,hi,B5,k⟩
 refine aC fun _ s_17=>aC fun _ s_18=>aA (aH U U (op_lss aE U U U (aB (s_18 (aQ U (fun c49=>?_) (fun c49=>?_))))))
 ·have hli:i<256:=by omega
  refine aT (aI (s_17 (aC fun _ s_19=>bZ (aA (aH U U (aH U U (aH U U (cZ aE se22 U U s_bl (show _=(((i:Nat)):Int)from by omega) (by omega) U ?_))))))))
  refine op_loadM aE sc5 U (hb_bl) (by first|exact get8 (by omega)|exact get64 (by omega)|exact get32 (by omega)) (two_mem (by simp) (by simp)) U ?_
  refine aD aE fl44_7 U U (dD aE ae41 U U (show _=(((i:Nat)):Int)from by omega) (by omega) U ?_)
  refine aF cL sz5 U U U U U B5 (by rw [HdM.len k];exact show 0+181+i*1+1≤556 by omega) sel2 (fun N5 B5=>?_)
  erw [hd_bl1 k hli]at B5;have k:=ok_bl k (x:=(fillR 256 y_bl i).set i (y_bl.getD i 0)) (by rw [List.length_set];exact k.bl)
  refine cX (cS (aI (s_19 (aA (aH U U (cU aE U U (by omega) (by omega) U (aR U U (aB (aL (aL (aM (aL (aL ?_)))))))))))))
  refine At.back ?_ aJ ⟨i+1,N5,rfl,rfl,rfl,by omega,by rw [←fillR_set len_bl (by omega)];exact B5,by rw [←fillR_set len_bl (by omega)];exact k⟩ ?_
  ·repeat first|apply cW|exact .nil|exact lkI rfl (by omega)|rfl
  ·omega
 have hi2:i=256:=by omega
 subst hi2
 rw [fillR_all]at B5 k
 obtain⟨x_bl,ex_bl⟩: ∃z,y_bl.take 256=z:=⟨_,rfl⟩
 rw [ex_bl]at B5 k inv
 refine At.exit (bB (bB (dE (aI (s_15 (aC fun _ s_20=>aA (aH U U (cA cL (.cons U .nil) ((RWord hQ (by omega)).liftB hNR) (F:= [M_bl,N5,N2,R]) Tryz.func39 U U aJ (by simp) U ?_))))))))
 rintro _ _ ⟨Nq,E_df,x_df,rfl,l_df,rfl,hQ,st_df⟩
 show At _ _ _ [Nq,M_bl,N5,N2,R] _
 have inv:=inv.step st_df
 refine aD aE fl44_8 U U ?_
 refine aF cL sz26 U U U U U B5 (by rw [HdM.len k];exact show 0+437+4≤556 by decide) sel2 (fun N5 B5=>?_)
 erw [hd_df k]at B5;have k:=ok_df k l_df
 refine aB (s_20 (aC fun _ s_21=>aA (aH U U (aL (aL (aL (aN (aL (cA cL (.cons U .nil) ((RSmall hQ (by omega)).liftB hNR) (F:= [N5,M_bl,N2,R]) Tryz.func38 U U aJ (by simp) U ?_)))))))))
 rintro _ _ ⟨Nq,E_nu,n_nu,rfl,l_nu,rfl,hQ,st_nu⟩
 show At _ _ _ [Nq,N5,M_bl,N2,R] _
 have inv:=inv.step (stp64 st_nu);obtain⟨x_nu,hx_nu⟩: ∃u,UInt64.ofNat n_nu=u:=⟨_,rfl⟩;rw [hx_nu]at inv;rw [show(n_nu:Int)=(x_nu.toNat:Int) by rw [←hx_nu,UInt64.toNat_ofNat',Nat.mod_eq_of_lt l_nu]]
 refine aD aE fl44_9 U U ?_
 refine aF cL sz24 U U U U U B5 (by rw [HdM.len k];exact show 0+441+1≤556 by decide) sel1 (fun N5 B5=>?_)
 erw [hd_nu k]at B5;have k:=ok_nu (u:=x_nu) k
 refine aB (s_21 (aC fun _ s_22=>aA (aH U U (aL (aL (aL (aN (aL (cA cL (.cons U .nil) ((RSmall hQ (by omega)).liftB hNR) (F:= [N5,M_bl,N2,R]) Tryz.func38 U U aJ (by simp) U ?_)))))))))
 rintro _ _ ⟨Nq,E_gl,n_gl,rfl,l_gl,rfl,hQ,st_gl⟩
 show At _ _ _ [Nq,N5,M_bl,N2,R] _
 have inv:=inv.step (stp64 st_gl);obtain⟨x_gl,hx_gl⟩: ∃u,UInt64.ofNat n_gl=u:=⟨_,rfl⟩;rw [hx_gl]at inv;rw [show(n_gl:Int)=(x_gl.toNat:Int) by rw [←hx_gl,UInt64.toNat_ofNat',Nat.mod_eq_of_lt l_gl]]
 refine aD aE fl44_10 U U ?_
 refine aF cL sz24 U U U U U B5 (by rw [HdM.len k];exact show 0+442+1≤556 by decide) sel1 (fun N5 B5=>?_)
 erw [hd_gl k]at B5;have k:=ok_gl (u:=x_gl) k
 refine aB (s_22 (aC fun _ s_23=>aA (aH U U (aL (aL (aL (aN (aL (cA cL (.cons U .nil) ((RSmall hQ (by omega)).liftB hNR) (F:= [N5,M_bl,N2,R]) Tryz.func38 U U aJ (by simp) U ?_)))))))))
 rintro _ _ ⟨Nq,E_gu,n_gu,rfl,l_gu,rfl,hQ,st_gu⟩
 show At _ _ _ [Nq,N5,M_bl,N2,R] _
 have inv:=inv.step (stp64 st_gu);obtain⟨x_gu,hx_gu⟩: ∃u,UInt64.ofNat n_gu=u:=⟨_,rfl⟩;rw [hx_gu]at inv;rw [show(n_gu:Int)=(x_gu.toNat:Int) by rw [←hx_gu,UInt64.toNat_ofNat',Nat.mod_eq_of_lt l_gu]]
 refine aD aE fl44_11 U U ?_
 refine aF cL sz24 U U U U U B5 (by rw [HdM.len k];exact show 0+443+1≤556 by decide) sel1 (fun N5 B5=>?_)
 erw [hd_gu k]at B5;have k:=ok_gu (u:=x_gu) k
 refine aB (s_23 (aC fun _ s_24=>aA (aH U U (aL (aL (aL (aN (aL (cA cL (.cons U .nil) ((RSmall hQ (by omega)).liftB hNR) (F:= [N5,M_bl,N2,R]) Tryz.func38 U U aJ (by simp) U ?_)))))))))
 rintro _ _ ⟨Nq,E_ti,n_ti,rfl,l_ti,rfl,hQ,st_ti⟩
 show At _ _ _ [Nq,N5,M_bl,N2,R] _
 have inv:=inv.step (stp64 st_ti);obtain⟨x_ti,hx_ti⟩: ∃u,UInt64.ofNat n_ti=u:=⟨_,rfl⟩;rw [hx_ti]at inv;rw [show(n_ti:Int)=(x_ti.toNat:Int) by rw [←hx_ti,UInt64.toNat_ofNat',Nat.mod_eq_of_lt l_ti]]
 refine aD aE fl44_12 U U ?_
 refine aF cL sz24 U U U U U B5 (by rw [HdM.len k];exact show 0+444+1≤556 by decide) sel1 (fun N5 B5=>?_)
 erw [hd_ti k]at B5;have k:=ok_ti (u:=x_ti) k
 refine aB (s_24 (aC fun _ s_25=>aA (aH U U (aL (aL (aL (aN (aL (cA cL (.cons U (.cons U .nil)) ((RRawAny hQ (by omega)).liftB hNR) (F:= [N5,M_bl,N2,R]) Tryz.func42 U U aJ (by simp) U ?_)))))))))
 rintro _ _ ⟨Nq,M_ex,a_ex,x_ex,c_ex,E_ex,rfl,rfl,hQ,rb_ex,st_ex,_⟩
 show At _ _ _ [Nq,M_ex,N5,M_bl,N2,R] _
 have inv:=inv.step st_ex
 refine aD aE fl44_13 U U ?_
 refine aF cL sz22 U U U U U B5 (by rw [HdM.len k];exact show 0+445+1≤556 by decide) sel2 (fun N5 B5=>?_)
 erw [hd_ex (x:=x_ex) k]at B5;have k:=ok_ex (x:=x_ex) k
 refine aB (s_25 (aC fun _ s_26=>aA (aH U U (aG (aG (aG (aG (aL (aG (cA cL (.cons U .nil) ((RHash hQ (by omega)).liftB hNR) (F:= [N5,M_ex,M_bl,N2,R]) Tryz.func97 U U aJ (by simp) U ?_))))))))))
 rintro _ _ ⟨Nq,x_mx,E_mx,rfl,l_mx,rfl,hQ,st_mx⟩
 show At _ _ _ [Nq,N5,M_ex,M_bl,N2,R] _
 have inv:=inv.step st_mx
 refine aD aE fl44_14 U U ?_
 refine aF cL sz40 U U U (by rw [bL];exact l_mx) (all8x2 _) B5 (by rw [HdM.len k,bL,l_mx];exact show 0+446+32≤556 by decide) sel1 (fun N5 B5=>?_)
 erw [hd_mx k l_mx]at B5;have k:=ok_mx k l_mx
 refine aB (s_26 (aC fun _ s_27=>aA (aH U U (aG (aG (aG (aG (aL (aG (cA cL (.cons U (.cons U .nil)) ((RRawFix hQ (by omega) 8).liftB hNR) (F:= [N5,M_ex,M_bl,N2,R]) Tryz.func42 U U aJ (by simp) U ?_))))))))))
 rintro _ _ ⟨Nq,M_no,a_no,y_no,c_no,E_no,rfl,rfl,hQ,rb_no,st_no,bl_no⟩
 show At _ _ _ [Nq,M_no,N5,M_ex,M_bl,N2,R] _
 have len_no:8≤y_no.length:=(bl_no.elim (fun z=>by omega) fun z=>by rw [fix_len z];exact Nat.le_refl _);have hb_no: ∀J:Heaplet,(∀N∈ [M_no,R],N.le J)→RSl J 1 a_no y_no.length c_no (u8s y_no):=(fun J hJ=>rb_no J (hJ M_no (by simp)) (Heaplet.le_trans hNR (hJ R (by simp))));refine At.ex (Ns:= [M_no,R]) hb_no (two_mem (by simp) (by simp)) fun JX s_no=>?_;have hc_no:=s_no.cap63;have inv:=inv.step (stp_take st_no)
 refine aR U U (aB (s_27 (aC fun _ s_28=>aC fun _ s_29=>aA (aR U U (aB (s_29 (bZ (dH (aG (aG (aL (aG (aG (aG (At.loop (fun fr_ hp_ ms_=> ∃(i:Nat) (N5:Heaplet),fr_= [(2,.pointer (some ⟨b2,0,none⟩)),(4,.pointer (some ⟨b23,0,none⟩)),(5,.pointer (some ⟨b5,0,none⟩)),(6,.slice a_no y_no.length c_no),(8,.int .i64 (i:Int))]∧hp_= [Nq,M_no,M_ex,N5,N2,R]∧8- i=ms_∧(i≤8)∧(Blk N5 b5 44 (HdM.cells (⟨((15+r.length:Nat):Int),x_pa,x_om,x_co,x_st,x_tx,x_rc,x_bl,x_df,x_nu,x_gl,x_gu,x_ti,x_ex,x_mx,fillR 8 y_no i,0,zeros8 32,0,0,zeros8 32⟩:HdM) (.slice a_ex x_ex.length c_ex)))∧(HdM.Ok (⟨((15+r.length:Nat):Int),x_pa,x_om,x_co,x_st,x_tx,x_rc,x_bl,x_df,x_nu,x_gl,x_gu,x_ti,x_ex,x_mx,fillR 8 y_no i,0,zeros8 32,0,0,zeros8 32⟩:HdM))) ?_ aJ ⟨0,N5,rfl,rfl,rfl,Nat.zero_le _,B5,k⟩ ?_)))))))))))))))
 ·repeat first|apply cW|exact .nil|exact lkI rfl (by omega)|rfl
 rintro _ _ _ ⟨i,N5,rfl,rfl,rfl,hi,B5,k⟩
 refine aC fun _ s_30=>aC fun _ s_31=>aA (aH U U (op_lss aE U U U (aB (s_31 (aQ U (fun c83=>?_) (fun c83=>?_))))))
 ·have hli:i<8:=by omega
  refine aT (aI (s_30 (aC fun _ s_32=>bZ (aA (aH U U (aH U U (aH U U (cZ aE se22 U U s_no (show _=(((i:Nat)):Int)from by omega) (by omega) U ?_))))))))
  refine op_loadM aE sc5 U (hb_no) (by first|exact get8 (by omega)|exact get64 (by omega)|exact get32 (by omega)) (two_mem (by simp) (by simp)) U ?_
  refine aD aE fl44_15 U U (dD aE ae42 U U (show _=(((i:Nat)):Int)from by omega) (by omega) U ?_)
  refine aF cL sz5 U U U U U B5 (by rw [HdM.len k];exact show 0+478+i*1+1≤556 by omega) sel3 (fun N5 B5=>?_)
  erw [hd_no1 k hli]at B5;have k:=ok_no k (x:=(fillR 8 y_no i).set i (y_no.getD i 0)) (by rw [List.length_set];exact k.no)
  refine cX (cS (aI (s_32 (aA (aH U U (cU aE U U (by omega) (by omega) U (aR U U (aB (aG (aG (aM (aG (aG (aG ?_))))))))))))))
  refine At.back ?_ aJ ⟨i+1,N5,rfl,rfl,rfl,by omega,by rw [←fillR_set len_no (by omega)];exact B5,by rw [←fillR_set len_no (by omega)];exact k⟩ ?_
  ·repeat first|apply cW|exact .nil|exact lkI rfl (by omega)|rfl
  ·omega
 have hi2:i=8:=by omega
 subst hi2
 rw [fillR_all]at B5 k
 obtain⟨x_no,ex_no⟩: ∃z,y_no.take 8=z:=⟨_,rfl⟩
 rw [ex_no]at B5 k inv
 refine At.exit (bB (bB (dE (aI (s_28 (aC fun _ s_33=>aC fun _ s_34=>aA (aD aE fl44_0 U U (aK aE sc3 U B5 U mem3 U ?_))))))))
 refine op_geq aE U U U (aB (s_34 (aQ U (fun c95=>?_) (fun c95=>?_))))
 ·obtain⟨t15,r,rfl⟩: ∃a l,r=a::l:=by cases r with|nil=>exact absurd c95 (by simp)|cons a b=>exact⟨a,b,rfl⟩
  refine aA (aH U U (cA cL (.cons U .nil) ((RWord hQ (by omega)).liftB hNR) (F:= [M_no,M_ex,N5,N2,R]) Tryz.func39 U U aJ (by simp) U ?_))
  rintro _ _ ⟨Nq,E_bf,x_bf,rfl,l_bf,rfl,hQ,st_bf⟩
  show At _ _ _ [Nq,M_no,M_ex,N5,N2,R] _
  have inv:=inv.step st_bf
  refine aD aE fl44_16 U U ?_
  refine aF cL sz26 U U U U U B5 (by rw [HdM.len k];exact show 0+486+4≤556 by decide) sel3 (fun N5 B5=>?_)
  erw [hd_bf k]at B5;have k:=ok_bf k l_bf
  refine aB (s_33 (aC fun _ s_35=>aC fun _ s_36=>aA (aD aE fl44_0 U U (aK aE sc3 U B5 U bI U ?_))))
  refine op_geq aE U U U (aB (s_36 (aQ U (fun c101=>?_) (fun c101=>?_))))
  ·obtain⟨t16,r,rfl⟩: ∃a l,r=a::l:=by cases r with|nil=>exact absurd c101 (by simp)|cons a b=>exact⟨a,b,rfl⟩
   refine aA (aH U U (aG (aG (aG (aG (aL (aG (cA cL (.cons U .nil) ((RHash hQ (by omega)).liftB hNR) (F:= [N5,M_no,M_ex,N2,R]) Tryz.func97 U U aJ (by simp) U ?_))))))))
   rintro _ _ ⟨Nq,x_wd,E_wd,rfl,l_wd,rfl,hQ,st_wd⟩
   show At _ _ _ [Nq,N5,M_no,M_ex,N2,R] _
   have inv:=inv.step st_wd
   refine aD aE fl44_17 U U ?_
   refine aF cL sz40 U U U (by rw [bL];exact l_wd) (all8x2 _) B5 (by rw [HdM.len k,bL,l_wd];exact show 0+490+32≤556 by decide) sel1 (fun N5 B5=>?_)
   erw [hd_wd k l_wd]at B5;have k:=ok_wd k l_wd
   refine aB (s_35 (aC fun _ s_37=>aC fun _ s_38=>aA (aD aE fl44_0 U U (aK aE sc3 U B5 U bI U ?_))))
   refine dF aE U U U (aB (s_38 (aQ U (fun c107=>?_) (fun c107=>?_))))
   ·obtain⟨t17,t18,t19,rfl⟩:=three_of (l:=r) (by simp only [List.length_cons]at hrl c107;omega)
    refine aC fun _ s_39=>aA (aH U U (aG (aG (aG (aG (aL (aG (cA cL (.cons U .nil) ((RSmall hQ (by omega)).liftB hNR) (F:= [N5,M_no,M_ex,N2,R]) Tryz.func38 U U aJ (by simp) U ?_))))))))
    rintro _ _ ⟨Nq,E_bg,n_bg,rfl,l_bg,rfl,hQ,st_bg⟩
    show At _ _ _ [Nq,N5,M_no,M_ex,N2,R] _
    have inv:=inv.step (stp64 st_bg);obtain⟨x_bg,hx_bg⟩: ∃u,UInt64.ofNat n_bg=u:=⟨_,rfl⟩;rw [hx_bg]at inv;rw [show(n_bg:Int)=(x_bg.toNat:Int) by rw [←hx_bg,UInt64.toNat_ofNat',Nat.mod_eq_of_lt l_bg]]
    refine aD aE fl44_18 U U ?_
    refine aF cL sz24 U U U U U B5 (by rw [HdM.len k];exact show 0+522+1≤556 by decide) sel1 (fun N5 B5=>?_)
    erw [hd_bg k]at B5;have k:=ok_bg (u:=x_bg) k
    refine aB (s_39 (aC fun _ s_40=>aA (aH U U (aG (aG (aG (aG (aL (aG (cA cL (.cons U .nil) ((RSmall hQ (by omega)).liftB hNR) (F:= [N5,M_no,M_ex,N2,R]) Tryz.func38 U U aJ (by simp) U ?_))))))))))
    rintro _ _ ⟨Nq,E_xs,n_xs,rfl,l_xs,rfl,hQ,st_xs⟩
    show At _ _ _ [Nq,N5,M_no,M_ex,N2,R] _
    have inv:=inv.step (stp64 st_xs);obtain⟨x_xs,hx_xs⟩: ∃u,UInt64.ofNat n_xs=u:=⟨_,rfl⟩;rw [hx_xs]at inv;rw [show(n_xs:Int)=(x_xs.toNat:Int) by rw [←hx_xs,UInt64.toNat_ofNat',Nat.mod_eq_of_lt l_xs]]
    refine aD aE fl44_19 U U ?_
    refine aF cL sz24 U U U U U B5 (by rw [HdM.len k];exact show 0+523+1≤556 by decide) sel1 (fun N5 B5=>?_)
    erw [hd_xs k]at B5;have k:=ok_xs (u:=x_xs) k
    refine aB (s_40 (aA (aH U U (aG (aG (aG (aG (aL (aG (cA cL (.cons U .nil) ((RHash hQ (by omega)).liftB hNR) (F:= [N5,M_no,M_ex,N2,R]) Tryz.func97 U U aJ (by simp) U ?_))))))))))
    rintro _ _ ⟨Nq,x_be,E_be,rfl,l_be,rfl,hQ,st_be⟩
    show At _ _ _ [Nq,N5,M_no,M_ex,N2,R] _
    have inv:=inv.step st_be
    refine aD aE fl44_20 U U ?_
    refine aF cL sz40 U U U (by rw [bL];exact l_be) (all8x2 _) B5 (by rw [HdM.len k,bL,l_be];exact show 0+524+32≤556 by decide) sel1 (fun N5 B5=>?_)
    erw [hd_be k l_be]at B5;have k:=ok_be k l_be
    refine aB (s_37 (aC fun _ s_41=>aC fun _ s_42=>?_))
    obtain⟨aq,nq,cq,xq,Bq,_,_⟩:=id hQ
    refine aA (aH U U (aW aE U U (aD aE fl105_2 U U (aK aE sc3 U Bq U mem1 U ?_))))
    refine dG aE U U U (aB (s_42 (aQ U (fun c121=>?_) (fun c121=>?_))))
    ·refine aC fun _ s_43=>aG (aM (aG (aG (aG (aG (At.drawnS [Nq,R] [] [1] [0,1,2,3,4,5,6] (by kernel_rfl) (by kernel_rfl) (.cons _ (.cons _ (.cons _ (.cons _ (.refl _))))) (cM (out:=z44) (cD U U U) ze44 pl44 .nil U U (aP (cD U U U) U U (aW (cD U U U) U U (aD (cD U U U) fl105_2 U U (aK (cD U U U) sc3 U Bq U bI U ?_)))))))))))
     refine aF (nxsm U U U) sz44 U U U cY (by decide) B2 (by exact Nat.le_refl _) sel3 (fun N2 B2=>?_)
     rw [bG rfl]at B2
     refine At.moreS (Lst:= [Nq,R]) (Lst':= [Nq,R]) (.refl _) (.cons _ (.cons _ (.cons _ (.cons _ (.refl _))))) (cJ (cD U U U) U U (At.sNil (aI (s_43 (a0 (aS ((cV (dropAt5 (dH (bW (bJ (aM (bO (aM (bE (L1:= [nilH]) U (.cell U (bQ (ds:=_) ag44 B2 (by first|exact bY cY|exact bY (HdM.len k _)) (by first|exact cY|exact HdM.len k _) bI) (.tmp U .nil)) U (.cons _ (.refl _)) (.refl _) ?_))))))))))))))))
     have he:E_be≠0:=by omega
     exact .inr ⟨E_be,inv.err he,rfl,he,rfl⟩
    refine aT (aI (s_41 (aC fun _ s_44=>aA (aV (ds:=_) aE ag44 U B5 (by exact bY (HdM.len k _)) (by exact HdM.len k _) bI U ?_))))
    refine aF cL sz44 U U U (HdM.len k _) (HdM.one U) B2 (by rw [cY,HdM.len k];exact Nat.le_refl _) sel4 (fun N2 B2=>?_)
    rw [bG (by rw [cY,HdM.len k])]at B2
    refine aR U U (aB (s_44 (a0 ((bW (bJ (bH (bE (L1:= [M_ex]) U (.cell U (bQ (ds:=_) ag44 B2 (by first|exact bY cY|exact bY (HdM.len k _)) (by first|exact cY|exact HdM.len k _) bI) (.tmp U .nil)) U (.cons _ (.refl _)) aJ ?_))))))))
    have he:E_be=0:=by omega
    exact .inl ⟨M_ex,_,_,(inv.ok he).trans rfl,rfl,rfl,k,.inr (.inr (.inr U)),a_ex,c_ex,rfl,fun J h1 h2=>rb_ex J h1 h2⟩
   try obtain rfl:r= []:=List.length_eq_zero_iff.1 (by simp only [List.length_cons]at hrl c107;omega)
   refine aT (aI (s_37 (aC fun _ s_45=>aC fun _ s_46=>?_)))
   obtain⟨aq,nq,cq,xq,Bq,_,_⟩:=id hQ
   refine aA (aH U U (aW aE U U (aD aE fl105_2 U U (aK aE sc3 U Bq U mem1 U ?_))))
   refine dG aE U U U (aB (s_46 (aQ U (fun c121=>?_) (fun c121=>?_))))
   ·refine aC fun _ s_47=>aG (aM (aG (aG (aG (aG (At.drawnS [Nq,R] [] [1] [0,1,2,3,4,5,6] (by kernel_rfl) (by kernel_rfl) (.cons _ (.cons _ (.cons _ (.cons _ (.refl _))))) (cM (out:=z44) (cD U U U) ze44 pl44 .nil U U (aP (cD U U U) U U (aW (cD U U U) U U (aD (cD U U U) fl105_2 U U (aK (cD U U U) sc3 U Bq U bI U ?_)))))))))))
    refine aF (nxsm U U U) sz44 U U U cY (by decide) B2 (by exact Nat.le_refl _) sel3 (fun N2 B2=>?_)
    rw [bG rfl]at B2
    refine At.moreS (Lst:= [Nq,R]) (Lst':= [Nq,R]) (.refl _) (.cons _ (.cons _ (.cons _ (.cons _ (.refl _))))) (cJ (cD U U U) U U (At.sNil (aI (s_47 (a0 (aS ((cV (dropAt5 (dH (bW (bJ (aM (bO (aM (bE (L1:= [nilH]) U (.cell U (bQ (ds:=_) ag44 B2 (by first|exact bY cY|exact bY (HdM.len k _)) (by first|exact cY|exact HdM.len k _) bI) (.tmp U .nil)) U (.cons _ (.refl _)) (.refl _) ?_))))))))))))))))
    have he:E_wd≠0:=by omega
    exact .inr ⟨E_wd,inv.err he,rfl,he,rfl⟩
   refine aT (aI (s_45 (aC fun _ s_48=>aA (aV (ds:=_) aE ag44 U B5 (by exact bY (HdM.len k _)) (by exact HdM.len k _) bI U ?_))))
   refine aF cL sz44 U U U (HdM.len k _) (HdM.one U) B2 (by rw [cY,HdM.len k];exact Nat.le_refl _) sel4 (fun N2 B2=>?_)
   rw [bG (by rw [cY,HdM.len k])]at B2
   refine aR U U (aB (s_48 (a0 ((bW (bJ (bH (bE (L1:= [M_ex]) U (.cell U (bQ (ds:=_) ag44 B2 (by first|exact bY cY|exact bY (HdM.len k _)) (by first|exact cY|exact HdM.len k _) bI) (.tmp U .nil)) U (.cons _ (.refl _)) aJ ?_))))))))
   have he:E_wd=0:=by omega
   exact .inl ⟨M_ex,_,_,(inv.ok he).trans rfl,rfl,rfl,k,.inr (.inr (.inl U)),a_ex,c_ex,rfl,fun J h1 h2=>rb_ex J h1 h2⟩
  try obtain rfl:r= []:=List.length_eq_zero_iff.1 (by simp only [List.length_cons]at c101;omega)
  refine aT (aI (s_35 (aC fun _ s_49=>aC fun _ s_50=>aA (aD aE fl44_0 U U (aK aE sc3 U B5 U bI U ?_)))))
  refine dF aE U U U (aB (s_50 (aQ U (fun c107=>?_) (fun c107=>?_))))
  ·exact absurd c107 (by simp)
  try obtain rfl:r= []:=List.length_eq_zero_iff.1 (by simp only [List.length_cons]at hrl c107;omega)
  refine aT (aI (s_49 (aC fun _ s_51=>aC fun _ s_52=>?_)))
  obtain⟨aq,nq,cq,xq,Bq,_,_⟩:=id hQ
  refine aA (aH U U (aW aE U U (aD aE fl105_2 U U (aK aE sc3 U Bq U mem1 U ?_))))
  refine dG aE U U U (aB (s_52 (aQ U (fun c121=>?_) (fun c121=>?_))))
  ·refine aC fun _ s_53=>aG (aM (aG (aG (aG (aG (At.drawnS [Nq,R] [] [1] [0,1,2,3,4,5,6] (by kernel_rfl) (by kernel_rfl) (.cons _ (.cons _ (.cons _ (.cons _ (.refl _))))) (cM (out:=z44) (cD U U U) ze44 pl44 .nil U U (aP (cD U U U) U U (aW (cD U U U) U U (aD (cD U U U) fl105_2 U U (aK (cD U U U) sc3 U Bq U bI U ?_)))))))))))
   refine aF (nxsm U U U) sz44 U U U cY (by decide) B2 (by exact Nat.le_refl _) sel3 (fun N2 B2=>?_)
   rw [bG rfl]at B2
   refine At.moreS (Lst:= [Nq,R]) (Lst':= [Nq,R]) (.refl _) (.cons _ (.cons _ (.cons _ (.cons _ (.refl _))))) (cJ (cD U U U) U U (At.sNil (aI (s_53 (a0 (aS ((cV (dropAt5 (dH (bW (bJ (aM (bO (aM (bE (L1:= [nilH]) U (.cell U (bQ (ds:=_) ag44 B2 (by first|exact bY cY|exact bY (HdM.len k _)) (by first|exact cY|exact HdM.len k _) bI) (.tmp U .nil)) U (.cons _ (.refl _)) (.refl _) ?_))))))))))))))))
   have he:E_bf≠0:=by omega
   exact .inr ⟨E_bf,inv.err he,rfl,he,rfl⟩
  refine aT (aI (s_51 (aC fun _ s_54=>aA (aV (ds:=_) aE ag44 U B5 (by exact bY (HdM.len k _)) (by exact HdM.len k _) bI U ?_))))
  refine aF cL sz44 U U U (HdM.len k _) (HdM.one U) B2 (by rw [cY,HdM.len k];exact Nat.le_refl _) sel4 (fun N2 B2=>?_)
  rw [bG (by rw [cY,HdM.len k])]at B2
  refine aR U U (aB (s_54 (a0 ((bW (bJ (bH (bE (L1:= [M_ex]) U (.cell U (bQ (ds:=_) ag44 B2 (by first|exact bY cY|exact bY (HdM.len k _)) (by first|exact cY|exact HdM.len k _) bI) (.tmp U .nil)) U (.cons _ (.refl _)) aJ ?_))))))))
  have he:E_bf=0:=by omega
  exact .inl ⟨M_ex,_,_,(inv.ok he).trans rfl,rfl,rfl,k,.inr (.inl U),a_ex,c_ex,rfl,fun J h1 h2=>rb_ex J h1 h2⟩
 obtain rfl:r= []:=List.length_eq_zero_iff.1 (by dsimp only at c95;omega)
 refine aT (aI (s_33 (aC fun _ s_55=>aC fun _ s_56=>aA (aD aE fl44_0 U U (aK aE sc3 U B5 U mem3 U ?_)))))
 refine op_geq aE U U U (aB (s_56 (aQ U (fun c101=>?_) (fun c101=>?_))))
 ·exact absurd c101 (by simp)
 try obtain rfl:r= []:=List.length_eq_zero_iff.1 (by simp only [List.length_cons]at c101;omega)
 refine aT (aI (s_55 (aC fun _ s_57=>aC fun _ s_58=>aA (aD aE fl44_0 U U (aK aE sc3 U B5 U mem3 U ?_)))))
 refine dF aE U U U (aB (s_58 (aQ U (fun c107=>?_) (fun c107=>?_))))
 ·exact absurd c107 (by simp)
 try obtain rfl:r= []:=List.length_eq_zero_iff.1 (by simp only [List.length_cons]at hrl c107;omega)
 refine aT (aI (s_57 (aC fun _ s_59=>aC fun _ s_60=>?_)))
 obtain⟨aq,nq,cq,xq,Bq,_,_⟩:=id hQ
 refine aA (aH U U (aW aE U U (aD aE fl105_2 U U (aK aE sc3 U Bq U bI U ?_))))
 refine dG aE U U U (aB (s_60 (aQ U (fun c121=>?_) (fun c121=>?_))))
 ·refine aC fun _ s_61=>aG (bO (aG (aG (aG (aG (At.drawnS [Nq,R] [] [1] [0,1,2,3,4,5,6] (by kernel_rfl) (by kernel_rfl) (.cons _ (.cons _ (.cons _ (.cons _ (.refl _))))) (cM (out:=z44) (cD U U U) ze44 pl44 .nil U U (aP (cD U U U) U U (aW (cD U U U) U U (aD (cD U U U) fl105_2 U U (aK (cD U U U) sc3 U Bq U bI U ?_)))))))))))
  refine aF (nxsm U U U) sz44 U U U cY (by decide) B2 (by exact Nat.le_refl _) sel3 (fun N2 B2=>?_)
  rw [bG rfl]at B2
  refine At.moreS (Lst:= [Nq,R]) (Lst':= [Nq,R]) (.refl _) (.cons _ (.cons _ (.cons _ (.cons _ (.refl _))))) (cJ (cD U U U) U U (At.sNil (aI (s_61 (a0 (aS ((cV (dropAt5 (dH (bW (bJ (aM (bO (aM (bE (L1:= [nilH]) U (.cell U (bQ (ds:=_) ag44 B2 (by first|exact bY cY|exact bY (HdM.len k _)) (by first|exact cY|exact HdM.len k _) bI) (.tmp U .nil)) U (.cons _ (.refl _)) (.refl _) ?_))))))))))))))))
  have he:E_no≠0:=by omega
  exact .inr ⟨E_no,inv.err he,rfl,he,rfl⟩
 refine aT (aI (s_59 (aC fun _ s_62=>aA (aV (ds:=_) aE ag44 U B5 (by exact bY (HdM.len k _)) (by exact HdM.len k _) mem3 U ?_))))
 refine aF cL sz44 U U U (HdM.len k _) (HdM.one U) B2 (by rw [cY,HdM.len k];exact Nat.le_refl _) sel4 (fun N2 B2=>?_)
 rw [bG (by rw [cY,HdM.len k])]at B2
 refine aR U U (aB (s_62 (a0 ((dH (bJ (bH (bE (L1:= [M_ex]) U (.cell U (bQ (ds:=_) ag44 B2 (by first|exact bY cY|exact bY (HdM.len k _)) (by first|exact cY|exact HdM.len k _) bI) (.tmp U .nil)) U (.cons _ (.refl _)) aJ ?_))))))))
 have he:E_no=0:=by omega
 exact .inl ⟨M_ex,_,_,(inv.ok he).trans rfl,rfl,rfl,k,.inl rfl,a_ex,c_ex,rfl,fun J h1 h2=>rb_ex J h1 h2⟩
end
def readHdE (b:List UInt8):Except Nat HdM:=eb (decodeF b) hdE
def ReadHdP (b:List UInt8) (v:Value) (L:List Heaplet):Prop:=
 (∃e:Nat,e≠0∧v=.tuple #[.agg z44.toArray,.int .i64 (e:Int)]∧L= []∧readHdE b=.error e)∨
 (∃NI h v1 t zs,v=.tuple #[.agg (h.cells v1).toArray,.int .i64 0]∧L= [NI]∧readHdE b=.ok h∧h.Ok∧okF h.fi∧HdS zs NI h v1∧ItemO NI t zs)
theorem hdR_ne (h:HdM) (its:List It): ∀e,hdR h its=.error e→e≠0:=by
 unfold hdR
 split
 ·exact ok_ne
 ·refine eb_ne wordE_ne fun _=>?_
  unfold hdR2
  split
  ·exact ok_ne
  ·refine eb_ne fixE_ne fun _=>?_
   unfold hdR3
   split
   ·exact ok_ne
   ·exact eb_ne n64E_ne fun _=>eb_ne n64E_ne fun _=>eb_ne fixE_ne fun _=>ok_ne
   ·exact er_ne (by decide)
theorem hdA_ne (its:List It): ∀e,hdA its=.error e→e≠0:=by
 unfold hdA
 split
 ·exact eb_ne fixE_ne fun _=>eb_ne fixE_ne fun _=>eb_ne fixE_ne fun _=>eb_ne fixE_ne fun _=>eb_ne fixE_ne fun _=>eb_ne fixE_ne fun _=>eb_ne fixE_ne fun _=>eb_ne wordE_ne fun _=>eb_ne n64E_ne fun _=>eb_ne n64E_ne fun _=>eb_ne n64E_ne fun _=>eb_ne n64E_ne fun _=>eb_ne strE_ne fun _=>eb_ne fixE_ne fun _=>eb_ne fixE_ne fun _=>hdR_ne _ _
 ·exact er_ne (by decide)
theorem hdE_ne {t:It} : ∀e,hdE t=.error e→e≠0:=eb_ne listE_ne fun _=>if_ne (fun _=>hdA_ne _) fun _=>er_ne (by decide)
section
variable {bt be : Nat} {Nt Ne : Heaplet} {cs : List Value} {x : Value} {e : Int}
theorem FRecHd (Bt:Blk Nt bt 44 cs) (hcs:cs.length=556) (Be:Blk Ne be 33 [x]):FnRec Tryz.prog 47 #[.pointer (some ⟨bt,0,none⟩),.pointer (some ⟨be,0,none⟩)] (gaveV e) [Nt,Ne] (fun L=> ∃Nt Ne,L= [Nt,Ne]∧Blk Nt bt 44 z44∧Blk Ne be 33 [.int .i64 e]):=by
 unfold gaveV
 refine FnRec.enter (vs:= [.pointer (some ⟨bt,0,none⟩),.pointer (some ⟨be,0,none⟩)]) Tryz.func47 U U U U U ?_
 intro E R
 change At _ _ E [Nt,Ne,R] _
 refine aC fun _ s_1=>aA (aH U U (op_neNilF aE (by kernel_rfl) U U (aB (s_1 (At.condT U (At.planS [R] (.take 0 (.take 1 (.fork 2 false (.take 3 (.fork 4 false (.fork 5 true .done .nofork) .nofork)) (.fork 4 false (.fork 2 false (.take 3 (.fork 5 true .done .nofork)) .nofork) .nofork)))) (by kernel_rfl) (by kernel_rfl) (.cons _ (.cons _ (.refl _))) (cM (out:=z44) (nxpf U U) ze44 pl44 .nil U U (aP (nxpf U U) U U (At.fork ?_ ?_)))))))))
 rotate_left
 ·refine At.fork ?_ ?_
  rotate_left
  ·exact At.pNo
  refine aF (nxpa U U) sz44 U U U U U Bt (by rw [cY,hcs];exact Nat.le_refl _) dB (fun Nt Bt=>?_)
  rw [bG (by rw [cY,hcs])]at Bt
  refine At.andS (.cons _ (.cons _ (.refl _))) (At.fork ?_ ?_)
  rotate_left
  ·exact At.pNo
  refine op_assert1 (Nx.float (nxpa U U)) (by kernel_rfl) U U (At.andS (.cons _ (.cons _ (.refl _))) (op_field (cs:= [.int .i64 e]) (v:=.int .i64 e) (fo:=0) (nxpf U U) (fun w=>field_gave e w) U U (At.fork ?_ ?_)))
  rotate_left
  ·exact At.pNo
  refine aF (nxpl U U) sz33 U U U U U Be (by simp) sel1 (fun Ne Be=>?_)
  simp only [setL,List.set]at Be
  refine At.pDone (aM (bO (aM (At.retNE (L1:= [Nt,Ne]) U .nil U (.refl _) aJ ?_))))
  exact⟨Nt,Ne,rfl,Bt,Be⟩
 refine op_assert1 (Nx.float (nxpa U U)) (by kernel_rfl) U U (At.andS (.cons _ (.cons _ (.refl _))) (op_field (cs:= [.int .i64 e]) (v:=.int .i64 e) (fo:=0) (nxpf U U) (fun w=>field_gave e w) U U (At.fork ?_ ?_)))
 rotate_left
 ·exact At.pNo
 refine aF (nxpa U U) sz44 U U U U U Bt (by rw [cY,hcs];exact Nat.le_refl _) dB (fun Nt Bt=>?_)
 rw [bG (by rw [cY,hcs])]at Bt
 refine At.andS (.cons _ (.cons _ (.refl _))) (At.fork ?_ ?_)
 rotate_left
 ·exact At.pNo
 refine aF (nxpl U U) sz33 U U U U U Be (by simp) sel1 (fun Ne Be=>?_)
 simp only [setL,List.set]at Be
 refine At.pDone (aM (bO (aM (At.retNE (L1:= [Nt,Ne]) U .nil U (.refl _) aJ ?_))))
 exact⟨Nt,Ne,rfl,Bt,Be⟩
theorem FRetHd (a b:Value):FnRet Tryz.prog 47 #[a,b]:=by
 refine FnRet.enter (vs:= [a,b]) Tryz.func47 U U U U U ?_
 intro E R
 change At _ _ E [R] _
 refine aC fun _ s_1=>aA (aH U U (op_neNilT aE (by kernel_rfl) U U (aB (s_1 (dA U (aT (At.retNE (L1:= []) U .nil U (.refl _) aJ ?_)))))))
 exact U
end
section
variable {N : Heaplet} {ao : Option Addr} {n cap : Nat} {b : List UInt8}
set_option maxHeartbeats 4000000 in
theorem FReadHeader (h:RSl N 1 ao n cap (u8s b)) (hn:n≤1099511627776):Fn Tryz.prog 10 #[.slice ao n cap] [] [N] (ReadHdP b):=by
 have hl:=cY
 have hlen:=h.len8
 refine Fn.enterD (vs:= [.slice ao n cap]) Tryz.func10 U U U ?_
 intro E R hR hE
 have h:=h.le (hR N (by simp))
 change At _ _ E [R] _
 refine aC fun _ s_1=>aA (bK bU ze44 U (fun N2 b2 B2=>?_))
 change Blk N2 b2 _ z44 at B2
 refine bK bU ze33 U (fun N3 b3 B3=>?_)
 change Blk N3 b3 _ [.int .i64 0]at B3
 refine aB (s_1 (aC fun _ s_2=>aA (op_mkF aE .nil (.cons U (.cons U .nil)) U (op_defer U hE (aB (s_2 (aC fun _ s_3=>aA (aH U U (bD bU (.cons U .nil) (Decode_o h hn) Tryz.func32 U U (by simp) U ?_)))))))))
 rintro _ _ (⟨t,D,x,ht,rfl,rfl,hi,ho,hsz⟩|⟨e,ht,rfl,rfl,hne⟩)
 ·show At _ _ _ [D,N3,N2,R] _
  refine aH U U (aO aE U U U (aO aE U U U (bK bU ze91 U (fun N4 b4 B4=>?_))))
  change Blk N4 b4 _ [.bool false,.slice none 0 0,.slice none 0 0]at B4
  refine aF cL sz91 U U U U U B4 (by simp) dB (fun N4 B4=>?_)
  simp only [setL,List.set]at B4
  refine aF cL sz33 U U U U U B3 (by simp) sel2 (fun N3 B3=>?_)
  simp only [setL,List.set]at B3
  refine aB (s_3 (aC fun _ s_4=>aA (aK aE sc33 U B3 U bI U ?_)))
  refine bM (.cons U .nil) (FCheck_any 0) (F:= [N3,N4,D,N2,R]) Tryz.func30 U U (.refl _) (by simp) U ?_ ?_
  ·rintro _ _ ⟨rfl,rfl,hc⟩
   show At _ _ _ [N3,N4,D,N2,R] _
   refine aY ((aL (aN (aN (aN (aL (At.panD (F:= [N4,D,R]) hE (FRecHd B2 hl B3) Tryz.func47 U U (.refl _) ?_)))))))
   rintro L_ ⟨N2,N3,rfl,B2,B3⟩
   show At _ _ _ [N2,N3,N4,D,R] _
   refine bW (bJ (bE (L1:= []) U (.cell U (bQ (ds:=_) ag44 B2 (bY (by first|exact hl|exact HdM.len hok _)) (by first|exact hl|exact HdM.len hok _) bI) (.cell U (res_scal sc33 B3 U mem1) .nil)) U (.cons _ (.cons _ (.refl _))) aJ ?_))
   first
    |exact absurd rfl hc
    |exact .inl ⟨_,hne,rfl,rfl,by simp only [readHdE,ht,eb]⟩
  rintro _ _ ⟨rfl,rfl,_⟩
  show At _ _ _ [N3,N4,D,N2,R] _
  refine aB (s_4 (aC fun _ s_5=>aA (aV (ds:= [_,_,_]) aE ag91 U B4 U U mem1 U (bM (.cons U .nil) (FHeader_p hi) (F:= [N3,N4,D,N2,R]) Tryz.func48 U U (.refl _) (by simp) U ?_ ?_))))
  ·rintro _ _ ⟨e,rfl,rfl,he⟩
   show At _ _ _ [N3,N4,D,N2,R] _
   refine aY ((aL (aN (aN (aN (aL (At.panD (F:= [N4,D,R]) hE (FRecHd B2 hl B3) Tryz.func47 U U (.refl _) ?_)))))))
   rintro L_ ⟨N2,N3,rfl,B2,B3⟩
   show At _ _ _ [N2,N3,N4,D,R] _
   refine bW (bJ (bE (L1:= []) U (.cell U (bQ (ds:=_) ag44 B2 (bY (by first|exact hl|exact HdM.len hok _)) (by first|exact hl|exact HdM.len hok _) bI) (.cell U (res_scal sc33 B3 U mem1) .nil)) U (.cons _ (.cons _ (.refl _))) aJ ?_))
   exact .inl ⟨_,hdE_ne _ he,rfl,rfl,by simp only [readHdE,ht,eb,he]⟩
  rintro _ _ ⟨hd,v1,zs,rfl,rfl,he,hok,hfi,hS,hzs⟩
  show At _ _ _ [N3,N4,D,N2,R] _
  obtain⟨ea,ec,rfl,S1,S2⟩:=hS
  refine aF cL sz44 U U U (HdM.len hok _) (HdM.one U) B2 (by rw [hl,HdM.len hok];exact Nat.le_refl _) sel3 (fun N2 B2=>?_)
  rw [bG (by rw [hl,HdM.len hok])]at B2
  refine aF cL sz33 U U U U U B3 (by simp) sel1 (fun N3 B3=>?_)
  simp only [setL,List.set]at B3
  refine aB (s_5 (a0 ((At.retD hE (FRetHd _ _) Tryz.func47 U U (bJ (aN (aN (aM (aN (bE (L1:= [D]) U (.cell U (bQ (ds:=_) ag44 B2 (bY (by first|exact hl|exact HdM.len hok _)) (by first|exact hl|exact HdM.len hok _) bI) (.cell U (res_scal sc33 B3 U mem1) .nil)) U (.cons _ (.cons _ (.refl _))) aJ ?_))))))))))
  exact .inr ⟨D,hd,_,t,zs,rfl,rfl,by simp only [readHdE,ht,eb,he],hok,hfi,⟨ea,ec,rfl,S1,S2⟩,x,hi,ho,hzs⟩
 show At _ _ _ [N3,N2,R] _
 refine aH U U (aO aE U U U (aO aE U U U (bK bU ze91 U (fun N4 b4 B4=>?_))))
 change Blk N4 b4 _ [.bool false,.slice none 0 0,.slice none 0 0]at B4
 refine aF cL sz91 U U U U U B4 (by simp) dB (fun N4 B4=>?_)
 simp only [setL,List.set]at B4
 refine aF cL sz33 U U U U U B3 (by simp) sel1 (fun N3 B3=>?_)
 simp only [setL,List.set]at B3
 refine aB (s_3 (aC fun _ s_6=>aA (aK aE sc33 U B3 U bI U ?_)))
 refine bM (.cons U .nil) (FCheck_e (by omega)) (F:= [N3,N4,N2,R]) Tryz.func30 U U (.refl _) (by simp) U ?_ ?_
 ·rintro _ _ ⟨rfl,rfl⟩
  show At _ _ _ [N3,N4,N2,R] _
  refine aY ((aN (aM (aM (aN (At.panD (F:= [N4,R]) hE (FRecHd B2 hl B3) Tryz.func47 U U (.refl _) ?_))))))
  rintro L_ ⟨N2,N3,rfl,B2,B3⟩
  show At _ _ _ [N2,N3,N4,R] _
  refine bJ (bE (L1:= []) U (.cell U (bQ (ds:=_) ag44 B2 (bY (by first|exact hl|exact HdM.len hok _)) (by first|exact hl|exact HdM.len hok _) bI) (.cell U (res_scal sc33 B3 U mem1) .nil)) U (.cons _ (.cons _ (.refl _))) aJ ?_)
  first
   |exact absurd rfl hc
   |exact .inl ⟨_,hne,rfl,rfl,by simp only [readHdE,ht,eb]⟩
 intro _ _ h_;exact h_.elim
end
def RReadHdP (b:List UInt8) (v:Value) (L:List Heaplet):Prop:=
 (∃M h v1,readHdE b=.ok h∧v=.tuple #[.agg (h.cells v1).toArray,.int .i64 0]∧L= [M]∧h.Ok∧okF h.fi∧ ∃ea ec,v1=.slice ea h.ex.length ec∧RSl M 1 ea h.ex.length ec (u8s h.ex))∨
 (∃e:Nat,readHdE b=.error e∧v=.tuple #[.agg z44.toArray,.int .i64 (e:Int)]∧e≠0∧L= [nilH])
section
variable {N : Heaplet} {ao : Option Addr} {n cap : Nat} {b : List UInt8}
set_option maxHeartbeats 2000000 in
theorem RReadHeader (h:RSl N 1 ao n cap (u8s b)) (hn:n≤1099511627776):Fn Tryz.prog 11 #[.slice ao n cap] [] [N] (RReadHdP b):=by
 refine Fn.enter (vs:= [.slice ao n cap]) Tryz.func11 U U U ?_
 intro E R hR
 have hNR:=hR N (by simp)
 change At _ _ E [R] _
 refine aC fun _ s_1=>aA (bK bU ze44 U (fun N2 b2 B2=>?_))
 change Blk N2 b2 _ z44 at B2
 refine aR U U (aB (s_1 (aC fun _ s_2=>aA (aH U U (bD bU (.cons U .nil) ((rDecode_f h hn).liftB hNR) Tryz.func36 U U (by simp) U ?_)))))
 rintro _ _ (⟨t,N8,x,he,rfl,rfl,hi⟩|⟨e,he,rfl,rfl,hne⟩)
 ·show At _ _ _ [N8,N2,R] _
  refine aH U U (aO aE U U U (aO aE U U U (bK bU ze91 U (fun N4 b4 B4=>?_))))
  change Blk N4 b4 _ [.bool false,.slice none 0 0,.slice none 0 0]at B4
  refine aF cL sz91 U U U U U B4 (by simp) dB (fun N4 B4=>?_)
  simp only [setL,List.set]at B4
  refine aR U U (aB (s_2 (aC fun _ s_3=>aC fun _ s_4=>aA (aH U U (dG aE U U U (aB (s_4 (aQ U (fun c12=>?_) (fun c12=>?_)))))))))
  ·exact absurd U c12
  refine aT (aI (s_3 (aC fun _ s_5=>aA (aV (ds:= [_,_,_]) aE ag91 U B4 U U bI U (bD bU (.cons U .nil) (RToHeader hi) Tryz.func49 U U (by simp) U ?_)))))
  rintro v16 L16 (⟨M16,h16,v16,hh,rfl,rfl,k,hf,ea,ec,rfl,hex⟩|⟨e2,hh,rfl,hne2,rfl⟩)
  ·show At _ _ _ [M16,N4,N8,N2,R] _
   refine aO aE U U U (aO aE U U U ?_)
   refine aF cL sz44 U U U (by first|exact HdM.len k _|exact cY) (by first|exact HdM.one rfl|decide) B2 (by first|(rw [cY,HdM.len k];exact Nat.le_refl _)|exact Nat.le_refl _) sel3 (fun N2 B2=>?_)
   first|rw [bG (by rw [cY,HdM.len k])]at B2|rw [bG rfl]at B2
   refine aR U U (aB (s_5 (a0 ((aL (aN (aM (aL (aL (dI (fun Q Q1 Q2=>bJ (aM (bO (aM (bE (L1:= [Q]) U (.cell U (bQ (ds:=_) ag44 B2 (by first|exact bY (HdM.len k _)|exact bY cY) (by first|exact HdM.len k _|exact cY) bI) (.tmp U .nil)) U (.cons _ (.refl _)) aJ ?_)))))))))))))))
   exact .inl ⟨Q,h16,_,by simp only [readHdE,eb,he];exact hh,rfl,rfl,k,hf,ea,ec,rfl,hex Q Q1 Q2⟩
  show At _ _ _ [nilH,N4,N8,N2,R] _
  refine aO aE U U U (aO aE U U U ?_)
  refine aF cL sz44 U U U (by first|exact HdM.len k _|exact cY) (by first|exact HdM.one rfl|decide) B2 (by first|(rw [cY,HdM.len k];exact Nat.le_refl _)|exact Nat.le_refl _) sel3 (fun N2 B2=>?_)
  first|rw [bG (by rw [cY,HdM.len k])]at B2|rw [bG rfl]at B2
  refine aR U U (aB (s_5 (a0 ((bW (bJ (bE (L1:= [nilH]) U (.cell U (bQ (ds:=_) ag44 B2 (by first|exact bY (HdM.len k _)|exact bY cY) (by first|exact HdM.len k _|exact cY) bI) (.tmp U .nil)) U (.cons _ (.refl _)) aJ ?_)))))))
  exact .inr ⟨e2,by simp only [readHdE,eb,he];exact hh,rfl,hne2,rfl⟩
 show At _ _ _ [N2,R] _
 refine aH U U (aO aE U U U (aO aE U U U (bK bU ze91 U (fun N4 b4 B4=>?_))))
 change Blk N4 b4 _ [.bool false,.slice none 0 0,.slice none 0 0]at B4
 refine aF cL sz91 U U U U U B4 (by simp) dB (fun N4 B4=>?_)
 simp only [setL,List.set]at B4
 refine aR U U (aB (s_2 (aC fun _ s_6=>aC fun _ s_7=>aA (aH U U (dG aE U U U (aB (s_7 (aQ U (fun c12=>?_) (fun c12=>?_)))))))))
 rotate_left
 ·exfalso;omega
 refine aC fun _ s_8=>aA (cM (out:=z44) aE ze44 pl44 .nil U U (aH U U (aF cL sz44 U U U cY (by decide) B2 (by exact Nat.le_refl _) sel1 (fun N2 B2=>?_))))
 rw [bG rfl]at B2
 refine aR U U (aB (s_8 (a0 (aS ((cV (bJ (aM (bO (aM (bE (L1:= [nilH]) U (.cell U (bQ (ds:=_) ag44 B2 (by first|exact bY (HdM.len k _)|exact bY cY) (by first|exact HdM.len k _|exact cY) bI) (.tmp U .nil)) U (.cons _ (.refl _)) aJ ?_)))))))))))
 exact .inr ⟨e,by simp only [readHdE,eb,he],rfl,hne,rfl⟩
end
section
variable {α : Type} {El : It → Prop} {g : It → Except Nat α} {Inv : List IV → List α → Heaplet → Prop} {z : IV} {zs : List IV} {Np NI NO : Heaplet} {bp : Nat} {t : It} {ts : List It} {f : FuncId} {fn : Func} {caps : List Value} {PInv : Heaplet → Prop}
theorem FEach_q (h:PartsN Np NI bp (z::zs) (t::ts)) (hI:Inv [] [] NO) (hP: ∀ys l N,Inv ys l N→PInv N) {K:Nat} (hK:K≤1099511627776) (hk: ∀its,listE t=.ok its→its.length≤K) (hel: ∀its,listE t=.ok its→ ∀y∈its,El y) (hfn:Tryz.prog.funcs[f]? =some fn) (hb:fn.body.isSome=true) (hne:(fn.name== "runtime.NumGoroutine")=false)
 (hc: ∀(Nq NO:Heaplet) (bq:Nat) (z:IV) (zs ys:List IV) (t:It) (ts:List It) (l:List α),PartsN Nq NI bq (z::zs) (t::ts)→Inv ys l NO→ys.length=l.length→l.length<K→El t→FnE Tryz.prog f ([Value.pointer (some ⟨bq,0,none⟩)]++caps).toArray [Nq,NO] [NI] (fun _ L=> ∃Nq NO a,L= [Nq,NO]∧g t=.ok a∧PartsN Nq NI bq zs ts∧Inv (ys++ [z]) (l++ [a]) NO) (fun v L=> ∃(e:Nat) (NO:Heaplet),v=gaveV e∧L= [NO]∧g t=.error e∧PInv NO)):
 FnE Tryz.prog 53 #[.pointer (some ⟨bp,0,none⟩),.func (.func f) #[] caps.toArray] [Np,NO] [NI] (fun v L=> ∃Np NO l ys,v=.tuple #[]∧L= [Np,NO]∧eachE g t=.ok l∧PartsN Np NI bp zs ts∧Inv ys l NO∧RSl NI 3 z.ai z.ni z.ci (cellsI ys)) (fun v L=> ∃(e:Nat) (NO:Heaplet),v=gaveV e∧L= [NO]∧eachE g t=.error e∧PInv NO):=by
 have h1:=FNext_p h
 refine FnE.enter (vs:= [.pointer (some ⟨bp,0,none⟩),.func (.func f) #[] caps.toArray]) Tryz.func53 U U U ?_
 intro E R hR
 have hNR:=hR NI (by simp)
 have h1:=h1.liftB hNR
 change At _ _ E [Np,NO,R] _
 refine aC fun _ s_1=>aA (aH U U (cA cL (.cons U .nil) (h1) (F:= [NO,R]) Tryz.func52 U U aJ (by simp) U ?_))
 rintro _ _ ⟨Mp,rfl,rfl,hp,hx⟩
 show At _ _ _ [Mp,NO,R] _
 change At _ ((6,.agg #[.bool z.l,.slice z.ab z.nb z.cb,.slice z.ai z.ni z.ci])::_) _ _ _
 refine bM (.cons U .nil) ((FOpened_p hx).liftB hNR) (F:= [Mp,NO,R]) Tryz.func33 U U (.refl _) (by simp) U ?_ ?_
 ·rintro _ _ ⟨e,rfl,rfl,he⟩
  show At _ _ _ [Mp,NO,R] _
  refine aY ((cK (cP (L1:= [NO]) (.refl _) aJ ?_)))
  exact⟨e,NO,rfl,rfl,by simp only [eachE,he],hP _ _ _ hI⟩
 rintro _ _ ⟨Nq,bq,its,zq,rfl,rfl,he,hq,hzq⟩
 show At _ _ _ [Nq,Mp,NO,R] _
 have hkl:=hk its he
 refine aR U U (aB (s_1 (bZ (aN (aM (aN (aN (At.loop (fun fr_ hp_ ms_=> ∃(done:List α) (rest:List It) (ys zr:List IV) (Nr NS:Heaplet),fr_= [(0,.pointer (some ⟨bp,0,none⟩)),(1,.func (.func f) #[] caps.toArray),(4,.pointer (some ⟨bq,0,none⟩))]∧hp_= [Nr,NS,Mp,R]∧rest.length=ms_∧(PartsN Nr NI bq zr rest)∧(Inv ys done NS)∧(ys++zr=zq)∧(ys.length=done.length)∧(mapE g its=restE g done rest)∧(∀y∈rest,El y)∧(done.length+rest.length=its.length)) ?_ aJ ⟨[],its,[],zq,Nq,NO,rfl,rfl,rfl,hq,hI,rfl,rfl,(restE_0 g its).symm,hel its he,by simp⟩ ?_))))))))
 ·repeat first|apply cW|exact .nil|exact lkI rfl (by omega)|rfl
 rintro _ _ _ ⟨done,rest,ys,zr,Nr,NS,rfl,rfl,rfl,hr,hi,hyz,hyl,hm,hsub,hcnt⟩
 refine aC fun _ s_2=>aC fun _ s_3=>aA ?_
 obtain⟨ar,cr,Br,hle,hcm⟩:=hr.len
 refine aH U U (aW aE U U (aD aE fl157_0 U U (aK aE sc89 U Br U bI U ?_)))
 refine cF aE se89 U U (op_gtr aE U U U (aB (s_3 (aQ U (fun c13=>?_) (fun c13=>?_)))))
 ·obtain⟨t',rest',rfl⟩: ∃t' rest',rest=t'::rest':=by
   cases rest with
   |nil=>exact absurd c13 (by simp)
   |cons a b=>exact⟨a,b,rfl⟩
  obtain⟨z',zr',rfl⟩:=hr.cons
  have hln:(t'::rest').length=rest'.length+1:=rfl
  refine aT (aI (s_2 (bZ (aA (aH U U (aH U U (op_callVE U (.cons U .nil) ((hc Nr NS bq z' zr' ys t' rest' done hr hi hyl (by omega) (hsub _ (by simp))).liftB hNR) (F:= [Mp,R]) hfn hb hne (.refl _) (by simp) U ?_ ?_)))))))
  ·rintro v16 L16 ⟨e,NP,rfl,rfl,hy,hPI⟩
   show At _ _ _ [NP,Mp,R] _
   refine At.inPan (aY (At.inPan ((bH (cP (L1:= [NP]) (.refl _) aJ ?_)))))
   exact⟨e,NP,rfl,rfl,by simp only [eachE,he,hm,restE_bad hy],hPI⟩
  rintro v16 L16 ⟨M1,M2,y,rfl,hy,hr',hi'⟩
  show At _ _ _ [M1,M2,Mp,R] _
  refine cX (cS (aI ?_))
  refine At.back ?_ aJ ⟨done++ [y],rest',ys++ [z'],zr',M1,M2,rfl,rfl,rfl,hr',hi',by rw [List.append_assoc];exact hyz,by simp [hyl],by rw [hm,restE_ok hy],fun z hz=>hsub z (List.mem_cons_of_mem _ hz),by rw [List.length_append,List.length_singleton];omega⟩ ?_
  ·repeat first|apply cW|exact .nil|exact lkI rfl (by omega)|rfl
  ·omega
 refine At.exit (bB (bB (dE (At.norX (cK (aM (bO (aM (At.retNE (L1:= [Mp,NS]) U .nil U (.refl _) aJ ?_)))))))))
 have h0:rest= []:=List.length_eq_zero_iff.1 (by omega)
 subst h0
 obtain rfl:zr= []:=hr.nil
 rw [List.append_nil]at hyz
 exact⟨Mp,NS,done,ys,rfl,rfl,by simp only [eachE,he,hm,restE_nil],hp,hi,hyz▸hzq⟩
end
section
variable {NI : Heaplet} {t : It} {x : IV}
theorem rawE_ne {t:It} : ∀e,rawE t=.error e→e≠0:=fun e h=>by
 obtain⟨l,bs,its⟩:=t
 cases l with
 |false=>
  simp only [rawE]at h
  split at h
  ·cases h
  ·cases h;decide
 |true=>
  simp only [rawE]at h
  split at h
  ·cases h
  ·cases h;decide
theorem rawE_f {bs:List UInt8} {its:List It} (h:0<bs.length∧1≤(bs.getD 0 0).toNat∧(bs.getD 0 0).toNat≤3):rawE (.mk false bs its)=.ok bs:=by
 simp only [rawE];rw [if_pos h]
theorem rawE_n {bs:List UInt8} {its:List It} (h: ¬(0<bs.length∧1≤(bs.getD 0 0).toNat∧(bs.getD 0 0).toNat≤3)):rawE (.mk false bs its)=.error 2:=by
 simp only [rawE];rw [if_neg h]
theorem rawE_t {bs:List UInt8} {its:List It} (h:(It.mk true bs its).depth≤1024):rawE (.mk true bs its)=.ok (It.mk true bs its).form:=by
 simp only [rawE];rw [if_pos h]
theorem rawE_d {bs:List UInt8} {its:List It} (h: ¬(It.mk true bs its).depth≤1024):rawE (.mk true bs its)=.error 7:=by
 simp only [rawE];rw [if_neg h]
def RawAt (NI NE:Heaplet) (z:IV) (v:Value) (g:List UInt8):Prop:=
 (z.l=false∧v=slB z∧z.nb=g.length∧RSl NI 1 z.ab z.nb z.cb (u8s g)∧NE=nilH)∨(z.l=true∧ ∃p c,v=.slice p g.length c∧Row NE 5 1 p g.length c (u8s g))
set_option maxHeartbeats 4000000 in
theorem FRaw_p (hi:ItN NI t x) (hF:t.form.length≤1099511627776):FnE Tryz.prog 55 #[.agg #[.bool x.l,.slice x.ab x.nb x.cb,.slice x.ai x.ni x.ci]] [] [NI] (fun v L=> ∃NE b,L= [NE]∧rawE t=.ok b∧RawAt NI NE x v b) (fun v L=> ∃e:Nat,v=gaveV e∧L= []∧rawE t=.error e):=by
 obtain⟨l,bs,its⟩:=t
 have hi':=hi
 simp only [ItN]at hi
 obtain⟨rfl,hb,_⟩:=hi
 have hlen:=hb.len8
 have hcap:=hb.cap63
 cases hl:x.l with
 |false=>
  rw [hl]at hF
  refine FnE.enter (vs:= [.agg #[.bool false,.slice x.ab x.nb x.cb,.slice x.ai x.ni x.ci]]) Tryz.func55 U U U ?_
  intro E R hR
  have hNR:=hR NI (by simp)
  have hbR:=hb.le hNR
  change At _ _ E [R] _
  refine aC fun _ s_1=>aA (op_box bU U U U (fun N1 b1 B1=>aR U U (aB (s_1 (aC fun _ s_2=>aC fun _ s_3=>aA (aD aE fl91_0 U U (aK aE sc4 U B1 U bI U ?_)))))))
  refine op_not aE U U (aB (s_3 (At.condT U (aC fun _ s_4=>aA (aD aE fl91_1 U U (aK aE sc22 U B1 U bI U ?_))))))
  refine cF aE se22 U U (op_gtr aE U U U (aH U U (cB (d:=12) U (fun g12=>?_) (fun g12=>?_))))
  ·refine aD (bF U U U U) fl91_1 U U (aK (bF U U U U) sc22 U B1 U bI U ?_)
   refine cZ (bF U U U U) se22 U U hbR (show _=((0:Nat):Int)from U) (by omega) U (cO (bF U U U U) sc5 U hbR (by first|exact get8 (by omega)|exact get64 (by omega)|exact get32 (by omega)) (by simp) U ?_)
   refine op_geq (bF U U U U) U U U (cH aE U U U (aH U U (cB (d:=19) U (fun g19=>?_) (fun g19=>?_))))
   ·refine aD (bF U U U U) fl91_1 U U (aK (bF U U U U) sc22 U B1 U bI U ?_)
    refine cZ (bF U U U U) se22 U U hbR (show _=((0:Nat):Int)from U) (by omega) U (cO (bF U U U U) sc5 U hbR (by first|exact get8 (by omega)|exact get64 (by omega)|exact get32 (by omega)) (by simp) U ?_)
    refine op_leq (bF U U U U) U U U (cH aE U U U (bM (.cons U .nil) (FMust_any _) (F:= [N1,R]) Tryz.func31 U U (.refl _) (by simp) U ?_ ?_))
    ·rintro _ _ ⟨rfl,rfl,hm⟩
     show At _ _ _ [N1,R] _
     refine aY (aY ((cK (cP (L1:= []) (.refl _) aJ ?_))))
     first
      |exact yes_no hm
      |exact⟨2,rfl,rfl,rawE_n (fun q=>by omega)⟩
      |exact⟨2,rfl,rfl,rawE_n (fun q=>by have:=of_decide_eq_false hm;omega)⟩
    rintro _ _ ⟨rfl,rfl,hm⟩
    show At _ _ _ [N1,R] _
    refine aB (s_4 (aC fun _ s_5=>aA (aD aE fl91_1 U U (aK aE sc22 U B1 U bI U ?_))))
    refine aR U U (aB (s_5 (a0 (aS ((At.retX (cV (bH (cI (L1:= [nilH]) U (.tmp U .nil) (.refl _) aJ ?_)))))))))
    first
     |exact no_yes hm
     |(have hm:=of_decide_eq_true hm;exact⟨nilH,bs,rfl,rawE_f ⟨by omega,by omega,by omega⟩,.inl ⟨hl,rfl,hlen.symm,hb,rfl⟩⟩)
   refine aU U U U U U U U (aU U U U U U U U (aU U U U U U U U (aU U U U U U U U (aU U U U U U U U (cE aE U U U (bM (.cons U .nil) (FMust_any _) (F:= [N1,R]) Tryz.func31 U U (.refl _) (by simp) U ?_ ?_))))))
   ·rintro _ _ ⟨rfl,rfl,hm⟩
    show At _ _ _ [N1,R] _
    refine aY (aY ((cK (cP (L1:= []) (.refl _) aJ ?_))))
    first
     |exact yes_no hm
     |exact⟨2,rfl,rfl,rawE_n (fun q=>by omega)⟩
     |exact⟨2,rfl,rfl,rawE_n (fun q=>by have:=of_decide_eq_false hm;omega)⟩
   rintro _ _ ⟨rfl,rfl,hm⟩
   show At _ _ _ [N1,R] _
   refine aB (s_4 (aC fun _ s_6=>aA (aD aE fl91_1 U U (aK aE sc22 U B1 U bI U ?_))))
   refine aR U U (aB (s_6 (a0 (aS ((At.retX (cV (bH (cI (L1:= [nilH]) U (.tmp U .nil) (.refl _) aJ ?_)))))))))
   first
    |exact no_yes hm
    |(have hm:=of_decide_eq_true hm;exact⟨nilH,bs,rfl,rawE_f ⟨by omega,by omega,by omega⟩,.inl ⟨hl,rfl,hlen.symm,hb,rfl⟩⟩)
  refine aU U U U U U U U (aU U U U U U U U (aU U U U U U U U (aU U U U U U U U (aU U U U U U U U (cE aE U U U (aH U U (aU U U U U U U U (aU U U U U U U U (aU U U U U U U U (aU U U U U U U U (aU U U U U U U U (cE aE U U U (bM (.cons U .nil) (FMust_any _) (F:= [N1,R]) Tryz.func31 U U (.refl _) (by simp) U ?_ ?_)))))))))))))
  ·rintro _ _ ⟨rfl,rfl,hm⟩
   show At _ _ _ [N1,R] _
   refine aY (aY ((cK (cP (L1:= []) (.refl _) aJ ?_))))
   first
    |exact yes_no hm
    |exact⟨2,rfl,rfl,rawE_n (fun q=>by omega)⟩
    |exact⟨2,rfl,rfl,rawE_n (fun q=>by have:=of_decide_eq_false hm;omega)⟩
  rintro _ _ ⟨rfl,rfl,hm⟩
  show At _ _ _ [N1,R] _
  refine aB (s_4 (aC fun _ s_7=>aA (aD aE fl91_1 U U (aK aE sc22 U B1 U bI U ?_))))
  refine aR U U (aB (s_7 (a0 (aS ((At.retX (cV (bH (cI (L1:= [nilH]) U (.tmp U .nil) (.refl _) aJ ?_)))))))))
  first
   |exact no_yes hm
   |(have hm:=of_decide_eq_true hm;exact⟨nilH,bs,rfl,rawE_f ⟨by omega,by omega,by omega⟩,.inl ⟨hl,rfl,hlen.symm,hb,rfl⟩⟩)
 |true=>
  rw [hl]at hF hi'
  have hE:=Encode_f hi' hF
  rw [hl]at hE
  refine FnE.enter (vs:= [.agg #[.bool true,.slice x.ab x.nb x.cb,.slice x.ai x.ni x.ci]]) Tryz.func55 U U U ?_
  intro E R hR
  have hNR:=hR NI (by simp)
  change At _ _ E [R] _
  refine aC fun _ s_1=>aA (op_box bU U U U (fun N1 b1 B1=>aR U U (aB (s_1 (aC fun _ s_2=>aC fun _ s_3=>aA (aD aE fl91_0 U U (aK aE sc4 U B1 U bI U ?_)))))))
  refine op_not aE U U (aB (s_3 (dA U (aT (aI (s_2 (aC fun _ s_4=>aA (aV (ds:= [_,_,_]) aE ag91 U B1 U U bI U (bD bU (.cons U .nil) (hE.liftB hNR) Tryz.func69 U U (by simp) U ?_)))))))))
  rintro _ _ (⟨M,p,c,rfl,rfl,r,hd⟩|⟨rfl,rfl,hd⟩)
  ·show At _ _ _ [M,N1,R] _
   refine aH U U (aO aE U U U (aO aE U U U (aR U U (aR U U (aB (s_4 (aC fun _ s_5=>aA (aH U U (bM (.cons U .nil) (FCheck_any 0) (F:= [M,N1,R]) Tryz.func30 U U (.refl _) (by simp) U ?_ ?_)))))))))
   ·rintro _ _ ⟨rfl,rfl,hc⟩
    show At _ _ _ [M,N1,R] _
    refine aY ((bH (cK (cP (L1:= []) (.refl _) aJ ?_))))
    exact absurd U hc
   rintro _ _ ⟨rfl,rfl,_⟩
   show At _ _ _ [M,N1,R] _
   refine aB (s_5 (aC fun _ s_6=>aA (aH U U (aR U U (aB (s_6 (a0 ((At.retX (bH (cI (L1:= [M]) U (.tmp U .nil) (.refl _) aJ ?_)))))))))))
   exact⟨M,_,rfl,rawE_t (by omega),.inr ⟨hl,p,c,rfl,r⟩⟩
  show At _ _ _ [N1,R] _
  refine aH U U (aO aE U U U (aO aE U U U (aR U U (aR U U (aB (s_4 (aC fun _ s_7=>aA (aH U U (bM (.cons U .nil) (FCheck_e (by decide)) (F:= [N1,R]) Tryz.func30 U U (.refl _) (by simp) U ?_ ?_)))))))))
  ·rintro _ _ ⟨rfl,rfl⟩
   show At _ _ _ [N1,R] _
   refine aY ((cK (cP (L1:= []) (.refl _) aJ ?_)))
   exact⟨7,rfl,rfl,rawE_d (by omega)⟩
  intro _ _ h_;exact h_.elim
end
end Go.Proofs.YtjfagifjajielaaGreat
