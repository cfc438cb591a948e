/- Several texts in one: see the remarks ahead of each part. No condition but those told there. -/
import Derived.Test.YtjfagifjajielaaGreatX1
import Derived.Test.YtjfagifjajielaaGreatX14
import Derived.Test.YtjfagifjajielaaGreatX12
import Derived.Test.YtjfagifjajielaaGreatX8
import Derived.Test.YtjfagifjajielaaGreatX10
import Derived.Test.YtjfagifjajielaaGreatX4
import Derived.Test.YtjfagifjajielaaGreatX3
import Derived.ArgAppend
import Derived.Laws.OwnMore
set_option linter.unusedSimpArgs false
set_option linter.unusedVariables false
namespace Go.Proofs.YtjfagifjajielaaGreat
open Go Go.RowKit
set_option maxRecDepth 100000
def wdC (i v:UInt64) (a:List UInt8) (m:UInt64):List Value:=.int .u64 (i.toNat:Int)::.int .u64 (v.toNat:Int)::(u8s a++ [.int .u64 (m.toNat:Int)])
def wdIt (i v:UInt64) (a:List UInt8) (m:UInt64):It:=itL [itS (bytesOf i.toNat),itS (bytesOf v.toNat),itS a,itS (bytesOf m.toNat)]
section
variable {i v m : UInt64} {a : List UInt8}
end
def BytP2 (b:List UInt8) (v:Value) (L:List Heaplet):Prop:= ∃M a c,v=.slice a b.length c∧L= [M]∧RSl M 1 a b.length c (u8s b)
section
variable {N : Heaplet} {k : Int} {ao ra la : Option Addr} {n cap rn rc ln lc : Nat} {root bl : List UInt8} {ok : Bool} {gas : UInt64} {gs : List LogM} {xs : List LV} {its : List It}
end
theorem flatten_len (ps:List (List Value)):ps.flatten.length=(ps.map List.length).sum:=by rw [List.length_flatten]
theorem part_cut {ps:List (List Value)} : ∀ {j:Nat} {p:List Value},ps[j]? =some p→ps.flatten=(ps.take j).flatten++(p++(ps.drop (j+1)).flatten):=by
 intro j p h
 obtain⟨hj,rfl⟩:=List.getElem?_eq_some_iff.1 h
 conv=>lhs;rw [←List.take_append_drop j ps,List.flatten_append,List.drop_eq_getElem_cons hj,List.flatten_cons]
theorem part_len {ps:List (List Value)} {ls:List Nat} (hl:ps.map List.length=ls) (j:Nat):(ps.take j).flatten.length=(ls.take j).sum:=by
 rw [flatten_len,List.map_take,hl]
theorem part_get {ps:List (List Value)} {ls:List Nat} {j o k:Nat} {p:List Value} (hl:ps.map List.length=ls) (hp:ps[j]? =some p) (ho:(ls.take j).sum=o) (hk:p.length=k):(ps.flatten.drop o).take k=p:=by
 rw [part_cut hp,List.drop_left' ((part_len hl j).trans ho),List.take_left' hk]
theorem aP {ps:List (List Value)} {ls:List Nat} {j o:Nat} {v:Value} (hl:ps.map List.length=ls) (hp:ps[j]? =some [v]) (ho:(ls.take j).sum=o):ps.flatten[o]? =some v:=by
 rw [part_cut hp]
 have h1:=(part_len hl j).trans ho
 rw [List.getElem?_append_right (by omega),h1,Nat.sub_self];rfl
theorem part_set {ps:List (List Value)} {ls:List Nat} {j o:Nat} {p q:List Value} (hl:ps.map List.length=ls) (hp:ps[j]? =some p) (ho:(ls.take j).sum=o) (hq:q.length=p.length):setL ps.flatten o q=(ps.set j q).flatten:=by
 have h1:=(part_len hl j).trans ho
 obtain⟨hj,_⟩:=List.getElem?_eq_some_iff.1 hp
 have h2:=setL_append q (ps.take j).flatten p (ps.drop (j+1)).flatten hq.symm
 rw [h1,List.append_assoc, ←part_cut hp]at h2
 rw [h2,List.set_eq_take_append_cons_drop,if_pos hj,List.flatten_append,List.flatten_cons,List.append_assoc]
theorem part_all {ps:List (List Value)} (h: ∀p∈ps, ∀u∈p,u.oneCell'=true):ps.flatten.all (·.oneCell')=true:=by
 refine List.all_eq_true.2 fun u hu=>?_
 obtain⟨p,hp,hu⟩:=List.mem_flatten.1 hu
 exact h p hp u hu
theorem cellsI_take (xs:List IV): ∀k,(cellsI xs).take (k*3)=cellsI (xs.take k):=by
 induction xs with
 |nil=>intro k;simp [cellsI]
 |cons x t ih=>
  intro k
  cases k with
  |zero=>simp [cellsI]
  |succ k=>
   have hx:x.cells.length=3:=rfl
   show(x.cells++cellsI t).take ((k+1)*3)=x.cells++cellsI (t.take k)
   rw [show(k+1)*3=x.cells.length+k*3 by rw [hx];omega,List.take_append,List.take_of_length_le (by omega),Nat.add_sub_cancel_left,ih k]
theorem ItsN.take {J:Heaplet} : ∀ {its:List It} {xs:List IV} (k:Nat),ItsN J its xs→ItsN J (its.take k) (xs.take k)
 | [],xs,k,h=>by
  have h:xs= []:=h
  subst h
  simp only [List.take_nil];exact ItsN_nil
 |t::ts,xs,0,h=>by simp only [List.take_zero];exact ItsN_nil
 |t::ts,xs,k+1,h=>by
  obtain⟨x,ys,rfl,h1,h2⟩:=h
  simp only [List.take_succ_cons]
  exact cO h1 (ItsN.take k h2)
def PartsN (Np NI:Heaplet) (bp:Nat) (zs:List IV) (its:List It):Prop:= ∃ao n cap,Blk Np bp 157 [.slice ao n cap]∧RSl NI 3 ao n cap (cellsI zs)∧ItsN NI its zs
def strE:It→Except Nat (List UInt8)
 |.mk false bs _=>.ok bs
 |.mk true _ _=>.error 2
def listE:It→Except Nat (List It)
 |.mk false _ _=>.error 2
 |.mk true _ its=>.ok its
def fixE (k:Nat) (t:It):Except Nat (List UInt8):=match strE t with
 |.ok b=>if b.length=k then .ok b else .error 2
 |.error e=>.error e
def wordE (t:It):Except Nat Nat:=match strE t with
 |.ok b=>if numE b=0 then .ok (be b)else .error (numE b)
 |.error e=>.error e
def smallE (t:It):Except Nat Nat:=match wordE t with
 |.ok x=>if x<2^64 then .ok x else .error 3
 |.error e=>.error e
theorem cellsI_len (xs:List IV):(cellsI xs).length=xs.length*3:=flat_len IV.cells fun y _=>rfl
section
variable {Np NI : Heaplet} {bp n cap k : Nat} {ao : Option Addr} {t : It} {ts : List It} {x z : IV} {xs zs : List IV}
theorem PartsN.cons {its:List It} (h:PartsN Np NI bp zs (t::its)): ∃y ys,zs=y::ys:=by
 obtain⟨ao,n,cap,B,hs,hi⟩:=h
 obtain⟨x,ys,e,_⟩:=hi
 exact⟨x,ys,e⟩
theorem PartsN.nil (h:PartsN Np NI bp zs []):zs= []:=by
 obtain⟨ao,n,cap,B,hs,hi⟩:=h
 exact hi
end
def SplV (N:Heaplet) (r:Option (Bool×List UInt8×List UInt8)) (v:Value):Prop:=match r with
 |none=>v=.tuple #[.bool false,.slice none 0 0,.slice none 0 0,.int .i64 2]
 |some (isL,p,q)=> ∃a1 c1 a2 c2,v=.tuple #[.bool isL,.slice a1 p.length c1,.slice a2 q.length c2,.int .i64 0]∧RSl N 1 a1 p.length c1 (u8s p)∧RSl N 1 a2 q.length c2 (u8s q)
theorem splv_mk {N:Heaplet} {isL l:Bool} {p q:List UInt8} {a1 a2:Option Addr} {n1 n2 c1 c2:Nat} (hl:l=isL) (h1:RSl N 1 a1 n1 c1 (u8s p)) (h2:RSl N 1 a2 n2 c2 (u8s q)):SplV N (some (isL,p,q)) (.tuple #[.bool l,.slice a1 n1 c1,.slice a2 n2 c2,.int .i64 0]):=by
 have e1:=h1.len8
 have e2:=h2.len8
 subst e1;subst e2;subst hl
 exact⟨a1,c1,a2,c2,rfl,h1,h2⟩
theorem u64_of {n:Nat} (h:n<18446744073709551616):(UInt64.ofNat n).toNat=n:=by rw [UInt64.toNat_ofNat'];exact Nat.mod_eq_of_lt h
theorem rSplit_f {N:Heaplet} {ao:Option Addr} {n cap:Nat} {b:List UInt8} (h:RSl N 1 ao n cap (u8s b)) (hn:n≤1099511627776):
 Fn Tryz.prog 148 #[.slice ao n cap] [] [N] (fun v L=>L= []∧ ∀M:Heaplet,RSl M 1 ao n cap (u8s b)→SplV M (cutF b) v):=by
 have hlen:=h.len8
 have hcap:=h.cap63
 refine Fn.enter (vs:= [.slice ao n cap]) Tryz.func148 U U U ?_
 intro E R hR
 have h:=h.le (hR N (by simp))
 have hb0:=(b.getD 0 0).toNat_lt
 have hd:hdr b=((b.getD 0 0).toNat- 128) % 64:=rfl
 change At _ _ E [R] _
 refine aC fun _ s_1=>aA (aG U U (aG U U (aG U U (aG U U (aB (s_1 (aC fun _ s_2=>aC fun _ s_3=>aA (aF U U (bG aD se22 U U (op_eql aD U U U (aB (s_3 (aO U (fun c14=>?_) (fun c14=>?_))))))))))))))
 ·refine aC fun _ s_4=>aA (aG U U (aG U U (aG U U (aG U U (aB (s_4 (aR (aJ ((bV (L1:= []) U (.tmp U (.tmp U (.tmp U (.tmp U .nil)))) U (.refl _) aM ?_))))))))))
  exact⟨rfl,fun M hM=>by rw [cutF,if_pos (by omega)];rfl⟩
 refine aQ (aE (s_2 (aC fun _ s_5=>aA (aF U U (bU aD se22 U U (by assumption) (show _=((0:Nat):Int)from U) (by omega) U ?_)))))
 refine cC aD sc5 U (by assumption) (by first|exact get8 (by omega)|exact get64 (by omega)|exact get32 (by omega)) (by simp) U ?_
 refine op_convI aD (und_some Tryz.underlying5) Tryz.underlying3 U (by omega) (by omega) U (aG U U (aB (s_5 (aC fun _ s_6=>aC fun _ s_7=>aA (aF U U (op_lss aD U U U (aB (s_7 (aO U (fun c20=>?_) (fun c20=>?_))))))))))
 ·refine aC fun _ s_8=>At.drawn [] [0,1,2,3,4,5,6,7] (by kernel_rfl) (by kernel_rfl) (aL (aS U U U (by kernel_rfl)) U U (op_slice0 (aS U U U (by kernel_rfl)) se22 U (.some U (show _=((1:Nat):Int)from U)) .none (by omega) (by omega) (by simp) U (aL (aS U U U (by kernel_rfl)) U U (op_slice (aS U U U (by kernel_rfl)) se22 U (.some U (show _=((1:Nat):Int)from U)) .none .none (by omega) (by omega) (by omega) (by simp) U (bX (aS U U U (by kernel_rfl)) U U (bX (aS U U U (by kernel_rfl)) U U (bX (aS U U U (by kernel_rfl)) U U (bX (aS U U U (by kernel_rfl)) U U (cG (aE (s_8 (aR (aJ ((bV (L1:= []) U (.tmp U (.tmp U (.tmp U (.tmp U .nil)))) U (.refl _) aM (⟨rfl,fun M hM=>?_⟩))))))))))))))))
  rw [cutF,if_neg (by omega),if_pos (by omega)]
  exact splv_mk U (hM.take8 (by omega) (by omega) (by omega)) (hM.drop8 (by omega))
 refine aQ (aE (s_6 (aC fun _ s_9=>aA (aF U U (op_geq aD U U U (aG U U (aB (s_9 (aC fun _ s_10=>aA (aF U U (op_subI aD U U (by omega) (by omega) U (op_rem aD U U (by omega) (by omega) U (aG U U (aB (s_10 (aC fun _ s_11=>aA (aG U U (aB (s_11 (aC fun _ s_12=>aA (aF U U (op_conv64 aD (und_some Tryz.underlying3) Tryz.underlying24 U (show _=(((hdr b:Nat)):Int)from by omega) U ?_))))))))))))))))))))))
 refine aG U U (aB (s_12 (aC fun _ s_13=>At.meet (fun fr_ hp_=> ∃(i:Nat) (m:UInt64),fr_= [(0,.slice ao n cap),(7,.bool (decide (192≤((b.getD 0 0).toNat:Int)))),(8,.int .i64 (i:Int)),(9,.int .u64 (m.toNat:Int))]∧hp_= [R]∧(i≤n)∧(1≤i)∧(cutF b=cutAt b i m.toNat)) ?_ (fun K13_ jk_13=>?_))))
 rotate_left
 ·skip
  refine aC fun _ s_14=>aA (aF U U (op_gtr aD U U U (aB (s_14 (aO U (fun c33=>?_) (fun c33=>?_))))))
  ·refine aC fun _ s_15=>aA (aF U U (op_subI aD U U (by omega) (by omega) U (aG U U (aB (s_15 (aC fun _ s_16=>aC fun _ s_17=>aA (aF U U (bG aD se22 U U (aF U U (op_lss aD U U U (aF U U (cJ (d:=40) U (fun g40=>?_) (fun g40=>?_)))))))))))))
   ·refine aU U U U U U U U (aU U U U U U U U (aU U U U U U U U (aU U U U U U U U (bO aD U U U (aB (s_17 (At.condT U (aC fun _ s_18=>aA (aG U U (aG U U (aG U U (aG U U (aB (s_18 (aR (aJ (aJ ((bV (L1:= []) U (.tmp U (.tmp U (.tmp U (.tmp U .nil)))) U (.refl _) aM ?_)))))))))))))))))))
    exact⟨rfl,fun M hM=>by rw [cutF,if_neg (by omega),if_neg (by omega),if_neg (by omega),if_pos (.inl (by omega))];rfl⟩
   refine aL (cL U U U U) U U (bU (cL U U U U) se22 U U (by assumption) (show _=((1:Nat):Int)from U) (by omega) U ?_)
   refine cC (cL U U U U) sc5 U (by assumption) (by first|exact get8 (by omega)|exact get64 (by omega)|exact get32 (by omega)) (by simp) U ?_
   refine op_eql (cL U U U U) U U U (cB aD U U U (aB (s_17 (aO U (fun c45=>?_) (fun c45=>?_)))))
   ·refine aC fun _ s_19=>aA (aG U U (aG U U (aG U U (aG U U (aB (s_19 (aR (aJ (aJ ((bV (L1:= []) U (.tmp U (.tmp U (.tmp U (.tmp U .nil)))) U (.refl _) aM ?_)))))))))))
    exact⟨rfl,fun M hM=>by rw [cutF,if_neg (by omega),if_neg (by omega),if_neg (by omega),if_pos (.inr (by omega))];rfl⟩
   refine aQ (aE (s_16 (aC fun _ s_20=>aA (aF U U (aF U U (op_slice aD se22 U (.some U (show _=((1:Nat):Int)from U)) (.some U (show _=(((hdr b- 54:Nat)):Int)from by omega)) .none (by omega) (by omega) (by omega) (by simp) U ?_))))))
   refine aH aZ (.cons U .nil) (rFrom_f (h.part8 (lo:=1) (hi:=hdr b- 54) (m:=cap) (by omega) (by omega) (by omega) (by omega)) (by omega)) Tryz.func149 U U (by simp) U ?_
   rintro _ _ ⟨M49,a49,c49,rfl,rfl,s49⟩
   show At _ _ _ [M49,R] _
   have hl:=lng_pos (b:=b) (by omega) (by omega) (by omega)
   change RSl M49 1 a49 (digsOf (lng b)).length c49 (u32s (digsOf (lng b)))at s49
   change At _ ((49,.slice a49 (digsOf (lng b)).length c49)::_) _ [M49,R] _
   refine aG U U (aB (s_20 (aC fun _ s_21=>aC fun _ s_22=>aA (aF U U (aH aZ (.cons U .nil) (Of32_f 55) Tryz.func100 U U (by simp) U ?_)))))
   rintro _ _ ⟨M51,a51,c51,rfl,rfl,s51⟩
   show At _ _ _ [M51,M49,R] _
   refine aH aZ (.cons U (.cons U .nil)) (Cmp32_f s49 s51) Tryz.func99 U U (by simp) U ?_
   rintro _ _ ⟨rfl,rfl⟩
   show At _ _ _ [M51,M49,R] _
   have q52:= @cmpI_le (lng b) 55
   change At _ ((52,.int .i64 (cmpI (lng b) 55))::_) _ _ _
   refine op_leq aD U U U (aF U U (cJ (d:=54) U (fun g54=>?_) (fun g54=>?_)))
   ·refine aU U U U U U U U (aU U U U U U U U (aU U U U U U U U (aU U U U U U U U (bO aD U U U (aB (s_22 (At.condT U (aC fun _ s_23=>aA (aG U U (aG U U (aG U U (aG U U (aB (s_23 (aR (aJ (aJ ((a7 (bP (bV (L1:= []) U (.tmp U (.tmp U (.tmp U (.tmp U .nil)))) U (.refl _) aM ?_)))))))))))))))))))))
    exact⟨rfl,fun M hM=>by rw [cutF,if_neg (by omega),if_neg (by omega),if_neg (by omega),if_neg (by omega),if_pos (.inl (by omega))];rfl⟩
   refine aL (cL U U U U) U U (aH (nxga U U U U) (.cons U .nil) (Of32_f 1099511627776) Tryz.func100 U U (by simp) U ?_)
   rintro _ _ ⟨M56,a56,c56,rfl,rfl,s56⟩
   show At _ _ _ [M56,M51,M49,R] _
   refine aH (nxga U U U U) (.cons U (.cons U .nil)) (Cmp32_f s49 s56) Tryz.func99 U U (by simp) U ?_
   rintro _ _ ⟨rfl,rfl⟩
   show At _ _ _ [M56,M51,M49,R] _
   have q57:= @cmpI_le (lng b) 1099511627776
   change At _ ((57,.int .i64 (cmpI (lng b) 1099511627776))::_) _ _ _
   refine op_gtr (cL U U U U) U U U (cB aD U U U (aB (s_22 (aO U (fun c59=>?_) (fun c59=>?_)))))
   ·refine aC fun _ s_24=>aA (aG U U (aG U U (aG U U (aG U U (aB (s_24 (aR (aJ (aJ ((cA (a7 (bP (bV (L1:= []) U (.tmp U (.tmp U (.tmp U (.tmp U .nil)))) U (.refl _) aM ?_))))))))))))))
    exact⟨rfl,fun M hM=>by rw [cutF,if_neg (by omega),if_neg (by omega),if_neg (by omega),if_neg (by omega),if_pos (.inr (by omega))];rfl⟩
   refine aQ (aE (s_21 (aA (aF U U (aH aZ (.cons U .nil) (rW_f s49) Tryz.func104 U U (by simp) U ?_)))))
   rintro _ _ ⟨rfl,wa,wb,wc,wd,rfl,hw⟩
   show At _ _ _ [M56,M51,M49,R] _
   rw [v32_digsOf,Nat.mod_eq_of_lt (Nat.lt_trans hl.2 (by decide))]at hw
   have hwa:wa.toNat=lng b:=by
    have e:=limb_v64 (a:= [wa,wb,wc,wd]) (i:=0) (by simp)
    rw [hw,Nat.mul_zero,Nat.pow_zero,Nat.div_one,Nat.mod_eq_of_lt hl.2]at e
    exact e.symm
   refine op_idxV aD ae26 sc24 U U (show _=((0:Nat):Int)from U) (by omega) U U (aG U U (At.opsNil (cA (a7 (bP ?_)))))
   refine aE (jk_13 ?_ aM ⟨hdr b- 54,wa,rfl,rfl,by omega,by omega,by(rw [hwa,cutF,if_neg (by omega),if_neg (by omega),if_neg (by omega),if_neg (by omega)];by_cases hbl:b.length<lng b;(rw [if_pos (.inr hbl),cutAt,if_pos (by omega)]);(rw [if_neg (by omega)]))⟩)
   repeat first|apply bD|exact .nil|exact lkI rfl (by omega)|rfl
  refine aQ (aE (jk_13 ?_ aM ⟨1,UInt64.ofNat (hdr b),rfl,rfl,by omega,by omega,by rw [u64_of (by omega),cutF,if_neg (by omega),if_neg (by omega),if_pos (by omega)]⟩))
  repeat first|apply bD|exact .nil|exact lkI rfl (by omega)|rfl
 rintro _ _ ⟨i,m,rfl,rfl,hi,hi0,hc⟩
 have hni:=u64_of (n:=n- i) (by omega)
 refine s_13 (aC fun _ s_25=>aC fun _ s_26=>aA (aF U U (aF U U (bG aD se22 U U (aF U U (op_subI aD U U (by omega) (by omega) U (op_conv64 aD (und_some Tryz.underlying3) Tryz.underlying24 U (show _=(((n- i:Nat)):Int)from by omega) U ?_)))))))
 refine op_gtr aD U U U (aB (s_26 (aO U (fun c69=>?_) (fun c69=>?_))))
 ·refine aC fun _ s_27=>aA (aG U U (aG U U (aG U U (aG U U (aB (s_27 (aR (aJ ((bV (L1:= []) U (.tmp U (.tmp U (.tmp U (.tmp U .nil)))) U (.refl _) aM ?_))))))))))
  exact⟨rfl,fun M hM=>by rw [hc,cutAt,if_pos (by omega)];rfl⟩
 refine aQ (aE (s_25 (aC fun _ s_28=>aA (aF U U (aF U U (aF U U (aF U U (op_convI aD (und_some Tryz.underlying24) Tryz.underlying3 U (by omega) (by omega) U (a6 aD U U (by omega) (by omega) U (op_slice aD se22 U (.some U (show _=(((i:Nat)):Int)from by omega)) (.some U (show _=(((i+m.toNat:Nat)):Int)from by omega)) .none (by omega) (by omega) (by omega) (by simp) U ?_))))))))))
 have s76:=h.part8 (lo:=i) (hi:=i+m.toNat) (m:=cap) (by omega) (by omega) (by omega) (by omega)
 have l76:=s76.len8
 refine aG U U (aB (s_28 (aC fun _ s_29=>aC fun _ s_30=>aA (aF U U (op_notP aD U U (aF U U (cJ (d:=79) U (fun g79=>?_) (fun g79=>?_))))))))
 ·refine aL (cL U U U U) U U (op_eql (cL U U U U) U U U (bO aD U U U (aF U U (cJ (d:=83) U (fun g83=>?_) (fun g83=>?_)))))
  ·refine aL (cL U U U U) U U (bU (cL U U U U) se22 U U (by assumption) (show _=((0:Nat):Int)from U) (by omega) U ?_)
   refine cC (cL U U U U) sc5 U (by assumption) (by first|exact get8 (by omega)|exact get64 (by omega)|exact get32 (by omega)) (by simp) U ?_
   refine op_lss (cL U U U U) U U U (bO aD U U U (aB (s_30 (aO U (fun c88=>?_) (fun c88=>?_)))))
   ·refine aC fun _ s_31=>aA (aG U U (aG U U (aG U U (aG U U (aB (s_31 (aR (aJ ((bV (L1:= []) U (.tmp U (.tmp U (.tmp U (.tmp U .nil)))) U (.refl _) aM ?_))))))))))
    exact⟨rfl,fun M hM=>by rw [hc,cutAt,if_neg (by omega),if_neg (by omega),if_pos ⟨by omega,by rw [getD_part (by omega)]at c88;omega⟩];rfl⟩
   refine aQ (aE (s_29 (aC fun _ s_32=>At.drawn [] [0,1,2,3,4,5,6,7,8,9,10,11] (by kernel_rfl) (by kernel_rfl) (aL (aS U U U (by kernel_rfl)) U U (aL (aS U U U (by kernel_rfl)) U U (aL (aS U U U (by kernel_rfl)) U U (aL (aS U U U (by kernel_rfl)) U U (aL (aS U U U (by kernel_rfl)) U U (op_convI (aS U U U (by kernel_rfl)) (und_some Tryz.underlying24) Tryz.underlying3 U (by omega) (by omega) U (a6 (aS U U U (by kernel_rfl)) U U (by omega) (by omega) U (op_slice (aS U U U (by kernel_rfl)) se22 U (.some U (show _=(((i+m.toNat:Nat)):Int)from by omega)) .none .none (by omega) (by omega) (by omega) (by simp) U ?_)))))))))))
   refine bX (aS U U U (by kernel_rfl)) U U (bX (aS U U U (by kernel_rfl)) U U (bX (aS U U U (by kernel_rfl)) U U (bX (aS U U U (by kernel_rfl)) U U (cG (aE (s_32 (aR ((bV (L1:= []) U (.tmp U (.tmp U (.tmp U (.tmp U .nil)))) U (.refl _) aM (⟨rfl,fun M hM=>?_⟩))))))))))
   rw [getD_part (by omega)]at c88
   rw [hc,cutAt,if_neg (by omega),if_neg (by omega),if_neg (by omega)]
   have e:=hM.part8 (lo:=i) (hi:=i+m.toNat) (m:=cap) (by omega) (by omega) (by omega) (by omega)
   rw [show i+m.toNat- i=m.toNat by omega]at e⊢
   exact splv_mk (decide_eq_false (by omega)) e (hM.drop8 (by omega))
  refine aU U U U U U U U (aU U U U U U U U (aU U U U U U U U (aU U U U U U U U (cB aD U U U (aB (s_30 (At.condF U (aQ (aE (s_29 (aC fun _ s_33=>At.drawn [] [0,1,2,3,4,5,6,7,8,9,10,11] (by kernel_rfl) (by kernel_rfl) (aL (aS U U U (by kernel_rfl)) U U (aL (aS U U U (by kernel_rfl)) U U (aL (aS U U U (by kernel_rfl)) U U (aL (aS U U U (by kernel_rfl)) U U (aL (aS U U U (by kernel_rfl)) U U (op_convI (aS U U U (by kernel_rfl)) (und_some Tryz.underlying24) Tryz.underlying3 U (by omega) (by omega) U (a6 (aS U U U (by kernel_rfl)) U U (by omega) (by omega) U (op_slice (aS U U U (by kernel_rfl)) se22 U (.some U (show _=(((i+m.toNat:Nat)):Int)from by omega)) .none .none (by omega) (by omega) (by omega) (by simp) U ?_)))))))))))))))))))
  refine bX (aS U U U (by kernel_rfl)) U U (bX (aS U U U (by kernel_rfl)) U U (bX (aS U U U (by kernel_rfl)) U U (bX (aS U U U (by kernel_rfl)) U U (cG (aE (s_33 (aR ((bV (L1:= []) U (.tmp U (.tmp U (.tmp U (.tmp U .nil)))) U (.refl _) aM (⟨rfl,fun M hM=>?_⟩))))))))))
  rw [hc,cutAt,if_neg (by omega),if_neg (by omega),if_neg (by omega)]
  have e:=hM.part8 (lo:=i) (hi:=i+m.toNat) (m:=cap) (by omega) (by omega) (by omega) (by omega)
  rw [show i+m.toNat- i=m.toNat by omega]at e⊢
  exact splv_mk (decide_eq_false (by omega)) e (hM.drop8 (by omega))
 refine aU U U U U U U U (aU U U U U U U U (cB aD U U U (aF U U (aU U U U U U U U (aU U U U U U U U (aU U U U U U U U (aU U U U U U U U (cB aD U U U (aB (s_30 (At.condF U (aQ (aE (s_29 (aC fun _ s_34=>At.drawn [] [0,1,2,3,4,5,6,7,8,9,10,11] (by kernel_rfl) (by kernel_rfl) (aL (aS U U U (by kernel_rfl)) U U (aL (aS U U U (by kernel_rfl)) U U (aL (aS U U U (by kernel_rfl)) U U (aL (aS U U U (by kernel_rfl)) U U (aL (aS U U U (by kernel_rfl)) U U (op_convI (aS U U U (by kernel_rfl)) (und_some Tryz.underlying24) Tryz.underlying3 U (by omega) (by omega) U (a6 (aS U U U (by kernel_rfl)) U U (by omega) (by omega) U (op_slice (aS U U U (by kernel_rfl)) se22 U (.some U (show _=(((i+m.toNat:Nat)):Int)from by omega)) .none .none (by omega) (by omega) (by omega) (by simp) U ?_)))))))))))))))))))))))
 refine bX (aS U U U (by kernel_rfl)) U U (bX (aS U U U (by kernel_rfl)) U U (bX (aS U U U (by kernel_rfl)) U U (bX (aS U U U (by kernel_rfl)) U U (cG (aE (s_34 (aR ((bV (L1:= []) U (.tmp U (.tmp U (.tmp U (.tmp U .nil)))) U (.refl _) aM (⟨rfl,fun M hM=>?_⟩))))))))))
 rw [hc,cutAt,if_neg (by omega),if_pos (by omega)]
 have e:=hM.part8 (lo:=i) (hi:=i+m.toNat) (m:=cap) (by omega) (by omega) (by omega) (by omega)
 rw [show i+m.toNat- i=m.toNat by omega]at e⊢
 exact splv_mk (decide_eq_true (by omega)) e (hM.drop8 (by omega))
theorem rSplit_none {N:Heaplet} {ao:Option Addr} {n cap:Nat} {b:List UInt8} (h:RSl N 1 ao n cap (u8s b)) (hn:n≤1099511627776) (hc:cutF b=none):
 Fn Tryz.prog 148 #[.slice ao n cap] [] [N] (fun v L=>v=.tuple #[.bool false,.slice none 0 0,.slice none 0 0,.int .i64 2]∧L= []):=
 (rSplit_f h hn).mono fun v L ⟨h1,h2⟩=>⟨by have:=h2 N h;rw [hc]at this;exact this,h1⟩
theorem rSplit_some {N:Heaplet} {ao:Option Addr} {n cap:Nat} {b p q:List UInt8} {l:Bool} (h:RSl N 1 ao n cap (u8s b)) (hn:n≤1099511627776) (hc:cutF b=some (l,p,q)):
 Fn Tryz.prog 148 #[.slice ao n cap] [] [N] (fun v L=> ∃a1 c1 a2 c2,v=.tuple #[.bool l,.slice a1 p.length c1,.slice a2 q.length c2,.int .i64 0]∧L= []∧RSl N 1 a1 p.length c1 (u8s p)∧ ∀M,RSl M 1 ao n cap (u8s b)→RSl M 1 a2 q.length c2 (u8s q)):=
 (rSplit_f h hn).mono fun v L ⟨h1,h2⟩=>by
  have h3:=h2 N h
  rw [hc]at h3
  obtain⟨a1,c1,a2,c2,rfl,h4,h5⟩:=h3
  refine⟨a1,c1,a2,c2,rfl,h1,h4,fun M hM=>?_⟩
  have h6:=h2 M hM
  rw [hc]at h6
  obtain⟨_,_,a2',c2',e,_,h7⟩:=h6
  simp only [Value.tuple.injEq,List.toArray_inj,Array.mk.injEq,List.cons.injEq,Value.slice.injEq,true_and,and_true]at e
  obtain⟨_,rfl,rfl⟩:=e
  exact h7
theorem first_none {N:Heaplet} {ao:Option Addr} {n cap:Nat} {b:List UInt8} (h:RSl N 1 ao n cap (u8s b)) (hn:n≤1099511627776) (hc:cutF b=none) (k:Nat) (q:Int):
 Fn Tryz.prog 94 #[.slice ao n cap,.int .i64 q] [] [N] (DecP ao n cap b (decF k b)):=by
 have hd:decF k b=.error 2:=by cases k<;>simp [decF,hc]
 refine Fn.enter (vs:= [.slice ao n cap,.int .i64 q]) Tryz.func94 U U U ?_
 intro E R hR
 have h:=h.le (hR N (by simp))
 change At _ _ E [R] _
 refine aC fun _ s_1=>aA (bE aZ ze91 U (fun N4 b4 B4=>?_))
 change Blk N4 b4 _ [.bool false,.slice none 0 0,.slice none 0 0]at B4
 refine aG U U (aG U U (aB (s_1 (aC fun _ s_2=>aA (aF U U (aH aZ (.cons U .nil) (rSplit_none h hn hc) Tryz.func148 U U (by simp) U ?_))))))
 rintro _ _ ⟨rfl,rfl⟩
 show At _ _ _ [N4,R] _
 refine aF U U (aN aD U U U (aN aD U U U (aN aD U U U (aN aD U U U (aG U U (aG U U (aG U U (aG U U (aB (s_2 (aC fun _ s_3=>aC fun _ s_4=>aA (aF U U (op_neq aD U U U (aB (s_4 (At.condT U (aC fun _ s_5=>aA (op_build (out:= [.bool false,.slice none 0 0,.slice none 0 0]) aD ze91 pl91 .nil U U (aF U U (aX nxQ sz91 U U U U U B4 (by simp) sel0 (fun N4 B4=>?_)))))))))))))))))))))
 simp only [setL,List.set]at B4
 refine aG U U (aG U U (aB (s_5 (aR (aJ ((bV (L1:= []) U (.cell U (res_agg (ds:= [_,_,_]) ag91 B4 U U bZ) (.tmp U (.tmp U .nil))) U (.cons _ (.refl _)) aM ?_)))))))
 exact .inr ⟨2,hd,rfl,rfl,by decide⟩
theorem first_text {N:Heaplet} {ao:Option Addr} {n cap:Nat} {b p r:List UInt8} (h:RSl N 1 ao n cap (u8s b)) (hn:n≤1099511627776) (hc:cutF b=some (false,p,r)) (k:Nat) (q:Int):
 Fn Tryz.prog 94 #[.slice ao n cap,.int .i64 q] [] [N] (DecP ao n cap b (decF k b)):=by
 have hd:decF k b=.ok (.mk false p [],r):=by cases k<;>simp [decF,hc]
 have hlen:=h.len8
 have hcl:=(cutF_len hc).1
 refine Fn.enter (vs:= [.slice ao n cap,.int .i64 q]) Tryz.func94 U U U ?_
 intro E R hR
 have h:=h.le (hR N (by simp))
 change At _ _ E [R] _
 refine aC fun _ s_1=>aA (bE aZ ze91 U (fun N4 b4 B4=>?_))
 change Blk N4 b4 _ [.bool false,.slice none 0 0,.slice none 0 0]at B4
 refine aG U U (aG U U (aB (s_1 (aC fun _ s_2=>aA (aF U U (aH aZ (.cons U .nil) (rSplit_some h hn hc) Tryz.func148 U U (by simp) U ?_))))))
 rintro _ _ ⟨a1,c1,a2,c2,rfl,rfl,h1,h2⟩
 show At _ _ _ [N4,R] _
 refine aF U U (aN aD U U U (aN aD U U U (aN aD U U U (aN aD U U U (aG U U (aG U U (aG U U (aG U U (aB (s_2 (aC fun _ s_3=>aC fun _ s_4=>aA (aF U U (op_neq aD U U U (aB (s_4 (At.condF U (aQ (aE (s_3 (aC fun _ s_5=>aC fun _ s_6=>aA (aF U U (op_not aD U U (aB (s_6 (At.condT U (aC fun _ s_7=>aA (op_lit aZ Tryz.underlying22 ze5 sz5 .nil U U (by simp [Value.cells]) U U U (fun N28 a28 r28=>?_))))))))))))))))))))))))))))
 simp only [flatV,List.flatMap_cons,List.flatMap_nil,Value.cells,List.append_nil,List.cons_append,List.nil_append]at r28
 have s28:=r28.rsl
 refine aF U U ?_
 refine op_append nxQ Tryz.underlying22 Tryz.underlying22 te5 rfl rfl r28 (by assumption) (by simp) (by first|exact one_u8s _|exact one_u64s _|exact one_u32s _|(intro u hu;simp at hu;subst hu;rfl)) (by omega) (by omega) sel0 rfl (fun N30 a30 p30 r30=>?_)
 have s30:=r30.rsl
 refine op_build (out:= [.bool false,_,.slice none 0 0]) aD ze91 pl91 (.cons U .nil) U U (aF U U (aX nxQ sz91 U U U U U B4 (by simp) sel1 (fun N4 B4=>?_)))
 simp only [setL,List.set]at B4
 refine aG U U (aG U U (aB (s_7 (aR (aJ ((bV (L1:= [N30]) U (.cell U (res_agg (ds:= [_,_,_]) ag91 B4 U U bZ) (.tmp U (.tmp U .nil))) U (.cons _ (.refl _)) aM ?_)))))))
 rw [List.nil_append,Nat.zero_add]at s30
 refine .inl ⟨_,_,N30,⟨false,a30,p.length,p30,none,0,0⟩,a2,c2,hd,?_,rfl,ItN.mk s30 (xs:= []) (RSl.nil _ _) rfl,h2⟩
 simp only [Nat.zero_add]
theorem first_deep {N:Heaplet} {ao:Option Addr} {n cap:Nat} {b p r:List UInt8} (h:RSl N 1 ao n cap (u8s b)) (hn:n≤1099511627776) (hc:cutF b=some (true,p,r)):
 Fn Tryz.prog 94 #[.slice ao n cap,.int .i64 1024] [] [N] (DecP ao n cap b (decF 0 b)):=by
 have hd:decF 0 b=.error 7:=by simp [decF,hc]
 refine Fn.enter (vs:= [.slice ao n cap,.int .i64 1024]) Tryz.func94 U U U ?_
 intro E R hR
 have h:=h.le (hR N (by simp))
 change At _ _ E [R] _
 refine aC fun _ s_1=>aA (bE aZ ze91 U (fun N4 b4 B4=>?_))
 change Blk N4 b4 _ [.bool false,.slice none 0 0,.slice none 0 0]at B4
 refine aG U U (aG U U (aB (s_1 (aC fun _ s_2=>aA (aF U U (aH aZ (.cons U .nil) (rSplit_some h hn hc) Tryz.func148 U U (by simp) U ?_))))))
 rintro _ _ ⟨a1,c1,a2,c2,rfl,rfl,h1,h2⟩
 show At _ _ _ [N4,R] _
 refine aF U U (aN aD U U U (aN aD U U U (aN aD U U U (aN aD U U U (aG U U (aG U U (aG U U (aG U U (aB (s_2 (aC fun _ s_3=>aC fun _ s_4=>aA (aF U U (op_neq aD U U U (aB (s_4 (At.condF U (aQ (aE (s_3 (aC fun _ s_5=>aC fun _ s_6=>aA (aF U U (op_not aD U U (aB (s_6 (At.condF U (aQ (aE (s_5 (aC fun _ s_7=>aC fun _ s_8=>aA (aF U U (op_eql aD U U U (aB (s_8 (aO U (fun c34=>?_) (fun c34=>?_)))))))))))))))))))))))))))))))))))
 rotate_left
 ·exact absurd U c34
 refine aC fun _ s_9=>aA (op_build (out:= [.bool false,.slice none 0 0,.slice none 0 0]) aD ze91 pl91 .nil U U (aX nxQ sz91 U U U U U B4 (by simp) sel0 (fun N4 B4=>?_)))
 simp only [setL,List.set]at B4
 refine aG U U (aG U U (aB (s_9 (aR (aJ ((bV (L1:= []) U (.cell U (res_agg (ds:= [_,_,_]) ag91 B4 U U bZ) (.tmp U (.tmp U .nil))) U (.cons _ (.refl _)) aM ?_)))))))
 exact .inr ⟨7,hd,rfl,rfl,by decide⟩
theorem first_its {N:Heaplet} {ao:Option Addr} {n cap:Nat} {b p r:List UInt8} (h:RSl N 1 ao n cap (u8s b)) (hn:n≤1099511627776) (hc:cutF b=some (true,p,r)) (k:Nat) (q:Int) (hq:q+k+1=1024) (hk0:0≤q)
 (ih: ∀(N:Heaplet) (ao:Option Addr) (n cap:Nat) (b:List UInt8) (q:Int),RSl N 1 ao n cap (u8s b)→n≤1099511627776→q+k=1024→0≤q→Fn Tryz.prog 94 #[.slice ao n cap,.int .i64 q] [] [N] (DecP ao n cap b (decF k b))):
 Fn Tryz.prog 94 #[.slice ao n cap,.int .i64 q] [] [N] (DecP ao n cap b (decF (k+1) b)):=by
 have hlen:=h.len8
 have hcl:=(cutF_len hc).1
 refine Fn.enter (vs:= [.slice ao n cap,.int .i64 q]) Tryz.func94 U U U ?_
 intro E R hR
 have h:=h.le (hR N (by simp))
 change At _ _ E [R] _
 refine aC fun _ s_1=>aA (bE aZ ze91 U (fun N4 b4 B4=>?_))
 change Blk N4 b4 _ [.bool false,.slice none 0 0,.slice none 0 0]at B4
 refine aG U U (aG U U (aB (s_1 (aC fun _ s_2=>aA (aF U U (aH aZ (.cons U .nil) (rSplit_some h hn hc) Tryz.func148 U U (by simp) U ?_))))))
 rintro _ _ ⟨a1,c1,a2,c2,rfl,rfl,h1,h2⟩
 show At _ _ _ [N4,R] _
 refine aF U U (aN aD U U U (aN aD U U U (aN aD U U U (aN aD U U U (aG U U (aG U U (aG U U (aG U U (aB (s_2 (aC fun _ s_3=>aC fun _ s_4=>aA (aF U U (op_neq aD U U U (aB (s_4 (At.condF U (aQ (aE (s_3 (aC fun _ s_5=>aC fun _ s_6=>aA (aF U U (op_not aD U U (aB (s_6 (At.condF U (aQ (aE (s_5 (aC fun _ s_7=>aC fun _ s_8=>aA (aF U U (op_eql aD U U U (aB (s_8 (aO U (fun c34=>?_) (fun c34=>?_)))))))))))))))))))))))))))))))))))
 ·exfalso;omega
 refine aQ (aE (s_7 (aC fun _ s_9=>aA (op_build (out:= [_,.slice none 0 0,.slice none 0 0]) aD ze91 pl91 (.cons U .nil) U U (bE aZ ze91 U (fun N11 b11 B11=>?_))))))
 change Blk N11 b11 _ [.bool false,.slice none 0 0,.slice none 0 0]at B11
 refine aX nxQ sz91 U U U U U B11 (by simp) sel0 (fun N11 B11=>?_)
 simp only [setL,List.set]at B11
 refine aB (s_9 (aC fun _ s_10=>aT (At.empty (At.empty (bI (permSel1 (bR (cH (bI ?_)))))))))
 refine cF (fun fr_ hp_ ms_=> ∃(p':List UInt8) (ac:Option Addr) (m cc:Nat) (done:List It) (xs:List IV) (ai:Option Addr) (ni ci:Nat) (N11 Nr Ns:Heaplet),fr_= [(0,.slice ao n cap),(1,.int .i64 q),(4,.pointer (some ⟨b4,0,none⟩)),(8,.slice ac m cc),(9,.slice a2 r.length c2),(11,.pointer (some ⟨b11,0,none⟩))]∧hp_= [N4,N11,Nr,Ns,R]∧m=ms_∧(RSl R 1 ac m cc (u8s p'))∧(Blk N11 b11 91 [.bool true,.slice none 0 0,.slice ai ni ci])∧(Row Nr 91 3 ai ni ci (cellsI xs))∧(xs.length=ni)∧(ItsN Ns done xs)∧(itF (decF k) p=exMap (done++ ·) (itF (decF k) p'))∧(ni+m≤p.length)) ?_ aM ⟨p,a1,p.length,c1,[],[],none,0,0,N11,nilH,nilH,rfl,rfl,rfl,h1,B11,Row.nil _ _ _,rfl,rfl,by cases itF (decF k) p<;>rfl,by omega⟩ ?_
 ·repeat first|apply bD|exact .nil|exact lkI rfl (by omega)|rfl
 rintro _ _ _ ⟨p',ac,m,cc,done,xs,ai,ni,ci,N11,Nr,Ns,rfl,rfl,rfl,sc,B11,rr,hni,hs,H,hcnt⟩
 have hlp:=sc.len8
 have sr:=rr.rsl
 refine aC fun _ s_11=>aC fun _ s_12=>aA (aF U U (bG aD se22 U U (op_gtr aD U U U (aB (s_12 (aO U (fun c39=>?_) (fun c39=>?_)))))))
 ·refine aQ (aE (s_11 (aT (aC fun _ s_13=>aA (aF U U (aF U U (a6 aD U U (by omega) (by omega) U (aH aZ (.cons U (.cons U .nil)) (ih R ac m cc p' (q+1) sc (by omega) (by omega) (by omega)) Tryz.func94 U U (by simp) U ?_))))))))
  rintro _ _ (⟨t,q',M44,x,aq,cq,he,rfl,rfl,hi,hqq⟩|⟨e,he,rfl,rfl,hne⟩)
  ·show At _ _ _ [M44,N4,N11,Nr,Ns,R] _
   refine aF U U (aN aD U U U (aN aD U U U (aN aD U U U (bE aZ ze91 U (fun N12 b12 B12=>?_)))))
   change Blk N12 b12 _ [.bool false,.slice none 0 0,.slice none 0 0]at B12
   refine aX nxQ sz91 U U U U U B12 (by simp) sel0 (fun N12 B12=>?_)
   simp only [setL,List.set]at B12
   refine aG U U (aG U U (aB (s_13 (aC fun _ s_14=>aC fun _ s_15=>aA (aF U U (op_neq aD U U U (aB (s_15 (At.condF U (aQ (aE (s_14 (aC fun _ s_16=>aA (aI aD fl91_2 U U (aV aD sc89 U B11 U mem3 U ?_)))))))))))))))
   refine aY (ds:= [_,_,_]) aD ag91 U B12 U U bZ U (op_lit aZ Tryz.underlying89 ze91 sz91 (.cons U .nil) U U (by simp [Value.cells]) U U U (fun N55 a55 r55=>?_))
   simp only [flatV,List.flatMap_cons,List.flatMap_nil,Value.cells,List.append_nil,List.cons_append,List.nil_append]at r55
   have s55:=r55.rsl
   refine op_append nxQ Tryz.underlying89 Tryz.underlying89 te91 rfl rfl rr (by assumption) (by simp) (by intro u hu;simp at hu;rcases hu with rfl|rfl|rfl<;>rfl) (by omega) (by omega) sel5 rfl (fun N56 a56 p56 r56=>?_)
   have s56:=r56.rsl
   refine aI aD fl91_2 U U (aX nxQ sz89 U U U U U B11 (by simp) sel5 (fun N11 B11=>?_))
   simp only [setL,List.set]at B11
   refine aB (s_16 (aA (aF U U (aG U U (At.opsNil (a0 (aE (bN (bM (bY (bY (bY (bY (bM (bN (At.merge (fun hap=>dropAt4 (dropAt3 (bI (permSel1 (cH (cH (bI ?_)))))))))))))))))))))))
   refine bQ ?_ aM ⟨q',aq,q'.length,cq,done++ [t],xs++ [x],a56,ni+1,p56,N11,N56,join2 Ns M44,rfl,rfl,rfl,hqq R sc,B11,by rw [cellsI,List.flatMap_append];exact r56,by simp [hni],(hs.le join2_left).snoc (hi.le (join2_right hap)),by rw [H,itF_ok (fun b t q h=>decF_lt h) (by omega) he,exMap_map];congr 1;funext l;simp,by have:=decF_lt he;omega⟩ ?_
   ·repeat first|apply bD|exact .nil|exact lkI rfl (by omega)|rfl
   ·exact(by have:=decF_lt he;omega)
  show At _ _ _ [N4,N11,Nr,Ns,R] _
  refine aF U U (aN aD U U U (aN aD U U U (aN aD U U U (bE aZ ze91 U (fun N12 b12 B12=>?_)))))
  change Blk N12 b12 _ [.bool false,.slice none 0 0,.slice none 0 0]at B12
  refine aX nxQ sz91 U U U U U B12 (by simp) sel0 (fun N12 B12=>?_)
  simp only [setL,List.set]at B12
  refine aG U U (aG U U (aB (s_13 (aC fun _ s_17=>aC fun _ s_18=>aA (aF U U (op_neq aD U U U (aB (s_18 (aO U (fun c49=>?_) (fun c49=>?_))))))))))
  rotate_left
  ·exfalso;omega
  refine aC fun _ s_19=>aA (op_build (out:= [.bool false,.slice none 0 0,.slice none 0 0]) aD ze91 pl91 .nil U U (aF U U (aX nxQ sz91 U U U U U B4 (by simp) sel1 (fun N4 B4=>?_))))
  simp only [setL,List.set]at B4
  refine aG U U (aG U U (aB (s_19 (aR (aJ (b9 (aJ (b9 (aJ ((dropAt4 (dropAt3 (cA (a7 (bV (L1:= []) U (.cell U (res_agg (ds:= [_,_,_]) ag91 B4 U U bZ) (.tmp U (.tmp U .nil))) U (.cons _ (.refl _)) aM ?_)))))))))))))))
  exact .inr ⟨e,by simp [decF,hc,H,itF_error (show 0<p'.length by omega) he,exMap],rfl,rfl,hne⟩
 refine bW (aK (aK (bH (aE (s_10 (aC fun _ s_20=>aA (aY (ds:= [_,_,_]) aD ag91 U B11 U U mem1 U (aF U U (aX nxQ sz91 U U U U U B4 (by simp) sel0 (fun N4 B4=>?_))))))))))
 simp only [setL,List.set]at B4
 refine aG U U (aG U U (aB (s_20 (aR ((bI (bR (bR (bI (bI (At.merge (fun hap=>cA (bR (permSel1 (bR (bV (L1:= [(join2 Nr Ns)]) U (.cell U (res_agg (ds:= [_,_,_]) ag91 B4 U U bZ) (.tmp U (.tmp U .nil))) U (.cons _ (.refl _)) aM ?_))))))))))))))))
 have hp0:p'= []:=List.eq_nil_of_length_eq_zero (by omega)
 subst hp0
 refine .inl ⟨.mk true [] done,r,join2 Nr Ns,⟨true,none,0,0,ai,ni,ci⟩,a2,c2,?_,rfl,rfl,ItN.mk (RSl.nil _ _) (sr.le join2_left) (hs.le (join2_right hap)),h2⟩
 simp [decF,hc,H,itF_nil,exMap]
theorem first_f (k:Nat): ∀(N:Heaplet) (ao:Option Addr) (n cap:Nat) (b:List UInt8) (q:Int),RSl N 1 ao n cap (u8s b)→n≤1099511627776→q+k=1024→0≤q→Fn Tryz.prog 94 #[.slice ao n cap,.int .i64 q] [] [N] (DecP ao n cap b (decF k b)):=by
 induction k with
 |zero=>
  intro N ao n cap b q h hn hq h0
  obtain rfl:q=1024:=by omega
  match hc:cutF b with
  |none=>exact first_none h hn hc 0 _
  |some (false,p,r)=>exact first_text h hn hc 0 _
  |some (true,p,r)=>exact first_deep h hn hc
 |succ k ih=>
  intro N ao n cap b q h hn hq h0
  match hc:cutF b with
  |none=>exact first_none h hn hc _ _
  |some (false,p,r)=>exact first_text h hn hc _ _
  |some (true,p,r)=>exact first_its h hn hc k q (by omega) h0 ih
theorem rDecode_f {N:Heaplet} {ao:Option Addr} {n cap:Nat} {b:List UInt8} (h:RSl N 1 ao n cap (u8s b)) (hn:n≤1099511627776):
 Fn Tryz.prog 36 #[.slice ao n cap] [] [N] (DecodeP (decodeF b)):=by
 refine Fn.enter (vs:= [.slice ao n cap]) Tryz.func36 U U U ?_
 intro E R hR
 have h:=h.le (hR N (by simp))
 change At _ _ E [R] _
 refine aC fun _ s_1=>aA (bE aZ ze91 U (fun N2 b2 B2=>?_))
 change Blk N2 b2 _ [.bool false,.slice none 0 0,.slice none 0 0]at B2
 refine aG U U (aB (s_1 (aC fun _ s_2=>aA (aF U U (aH aZ (.cons U (.cons U .nil)) (first_f 1024 R ao n cap b 0 h hn (by omega) (by omega)) Tryz.func94 U U (by simp) U ?_)))))
 rintro _ _ (⟨t,q,M9,x,aq,cq,he,rfl,rfl,hi,hq⟩|⟨e,he,rfl,rfl,hne⟩)
 ·show At _ _ _ [M9,N2,R] _
  refine aF U U (aN aD U U U (aN aD U U U (aN aD U U U (bE aZ ze91 U (fun N4 b4 B4=>?_)))))
  change Blk N4 b4 _ [.bool false,.slice none 0 0,.slice none 0 0]at B4
  refine aX nxQ sz91 U U U U U B4 (by simp) sel0 (fun N4 B4=>?_)
  simp only [setL,List.set]at B4
  refine aG U U (aG U U (aB (s_2 (aC fun _ s_3=>aC fun _ s_4=>aA (aF U U (op_neq aD U U U (aB (s_4 (At.condF U (aQ (aE (s_3 (aC fun _ s_5=>aC fun _ s_6=>aA (aF U U (bG aD se22 U U (op_gtr aD U U U (aB (s_6 (aO U (fun c19=>?_) (fun c19=>?_))))))))))))))))))))
  ·refine aC fun _ s_7=>aA (op_build (out:= [.bool false,.slice none 0 0,.slice none 0 0]) aD ze91 pl91 .nil U U (aX nxQ sz91 U U U U U B2 (by simp) sel2 (fun N2 B2=>?_)))
   simp only [setL,List.set]at B2
   refine aG U U (aB (s_7 (aR (aJ ((cA (a7 (bV (L1:= []) U (.cell U (res_agg (ds:= [_,_,_]) ag91 B2 U U bZ) (.tmp U .nil)) U (.cons _ (.refl _)) aM ?_))))))))
   exact .inr ⟨2,by rw [decodeF,he];simp only;rw [if_neg (by omega)],rfl,rfl,by decide⟩
  refine aQ (aE (s_5 (aC fun _ s_8=>aA (aY (ds:= [_,_,_]) aD ag91 U B4 U U bZ U (aX nxQ sz91 U U U U U B2 (by simp) sel2 (fun N2 B2=>?_))))))
  simp only [setL,List.set]at B2
  refine aG U U (aB (s_8 (aR ((a7 (bV (L1:= [M9]) U (.cell U (res_agg (ds:= [_,_,_]) ag91 B2 U U bZ) (.tmp U .nil)) U (.cons _ (.refl _)) aM ?_))))))
  exact .inl ⟨t,M9,x,by rw [decodeF,he];simp only;rw [if_pos (by omega)],rfl,rfl,hi⟩
 show At _ _ _ [N2,R] _
 refine aF U U (aN aD U U U (aN aD U U U (aN aD U U U (bE aZ ze91 U (fun N4 b4 B4=>?_)))))
 change Blk N4 b4 _ [.bool false,.slice none 0 0,.slice none 0 0]at B4
 refine aX nxQ sz91 U U U U U B4 (by simp) sel0 (fun N4 B4=>?_)
 simp only [setL,List.set]at B4
 refine aG U U (aG U U (aB (s_2 (aC fun _ s_9=>aC fun _ s_10=>aA (aF U U (op_neq aD U U U (aB (s_10 (aO U (fun c14=>?_) (fun c14=>?_))))))))))
 rotate_left
 ·exfalso;omega
 refine aC fun _ s_11=>aA (op_build (out:= [.bool false,.slice none 0 0,.slice none 0 0]) aD ze91 pl91 .nil U U (aF U U (aX nxQ sz91 U U U U U B2 (by simp) sel1 (fun N2 B2=>?_))))
 simp only [setL,List.set]at B2
 refine aG U U (aB (s_11 (aR (aJ ((a7 (bV (L1:= []) U (.cell U (res_agg (ds:= [_,_,_]) ag91 B2 U U bZ) (.tmp U .nil)) U (.cons _ (.refl _)) aM ?_)))))))
 exact .inr ⟨e,by rw [decodeF,he],rfl,rfl,hne⟩
section
variable {P : Program} {n : Nat} {l : List (Nat × Value)} {E : World} {L L1 Ls Ns : List Heaplet} {o : Oper} {X Y : Act → World → Prop} {N : Heaplet}
variable {d : Nat} {ty t t' e : TypeId} {pos : String} {aft : Array Edge} {g : Option (Nat × Bool)} {v : Value} {x y z : Operand} {k : IntKind} {p q : Int} {size len cap : Nat} {ao : Option Addr} {xs : List Value} {b off j : Nat}
theorem At.ex {K:Act→World→Prop} {φ:Heaplet→Prop} (hφ: ∀J:Heaplet,(∀N∈Ns,N.le J)→φ J) (hN: ∀N∈Ns,N∈L) (h: ∀J,φ J→At n l E L K):At n l E L K:=fun a w hf hw=>
 h (whole w) (hφ (whole w) fun N hn=>hw.sub N (hN N hn)) a w hf hw
end
section
variable {P : Program} {n : Nat} {l : List (Nat × Value)} {E : World} {L Ls : List Heaplet} {X Y : Act → World → Prop} {d : Nat} {t t' ty e : TypeId} {x y : Operand}
end
def Off (ao:Option Addr) (N N':Heaplet):Prop:= ∃b,ao=some ⟨b,0,none⟩∧ ∀k,k≠b→N' k=N k
def App (N N':Heaplet) (ao:Option Addr) (cap:Nat) (ao2:Option Addr) (cap2 need:Nat):Prop:=
 (ao2=ao∧cap2=cap∧need≤cap∧Off ao N N')∨(N.le N'∧ ∃b,ao2=some ⟨b,0,none⟩∧N b=none)
theorem Row.le {N M:Heaplet} (hl:N.le M) {e:TypeId} {size:Nat} {ao:Option Addr} {n cap:Nat} {xs:List Value} (h:Row N e size ao n cap xs):Row M e size ao n cap xs:=by
 obtain⟨h1,h2,h3,h4⟩:=h
 refine⟨h1,h2,h3,?_⟩
 rcases h4 with h4|⟨b,cur,ha,hN,hs,ht⟩
 ·exact .inl h4
 ·exact .inr ⟨b,cur,ha,hl _ _ hN,hs,ht⟩
theorem Row.block {N:Heaplet} {e:TypeId} {size:Nat} {ao:Option Addr} {n cap:Nat} {xs:List Value} (h:Row N e size ao n cap xs):(ao=none∧n=0∧cap=0)∨ ∃b o,ao=some ⟨b,0,none⟩∧N b=some o:=by
 obtain⟨_,_,_,h4⟩:=h
 rcases h4 with h4|⟨b,cur,ha,hN,_⟩
 ·exact .inl h4
 ·exact .inr ⟨b,_,ha,hN⟩
theorem Row.off {N N':Heaplet} {e:TypeId} {size:Nat} {ao p:Option Addr} {n cap:Nat} {xs:List Value} (h:Row N e size ao n cap xs) (ho:Off p N N') (hne:ao=none∨ao≠p):Row N' e size ao n cap xs:=by
 obtain⟨b,rfl,hk⟩:=ho
 obtain⟨h1,h2,h3,h4⟩:=h
 refine⟨h1,h2,h3,?_⟩
 rcases h4 with h4|⟨b',cur,ha,hN,hs,ht⟩
 ·exact .inl h4
 ·refine .inr ⟨b',cur,ha,?_,hs,ht⟩
  rw [hk b' fun e=>?_]
  ·exact hN
  ·subst e
   rcases hne with h|h
   ·rw [h]at ha;cases ha
   ·exact h ha
theorem Row.first {N:Heaplet} {e:TypeId} {size:Nat} {ao:Option Addr} {n m cap:Nat} {xs ys:List Value} (h:Row N e size ao n cap xs) (hm:m≤n) (hy:xs.take (m*size)=ys) (ha:ao≠none):Row N e size ao m cap ys:=by
 obtain⟨h1,h2,h3,h4⟩:=h
 rcases h4 with ⟨h4,_⟩|⟨b',cur,hb,hN,hs,ht⟩
 ·exact absurd h4 ha
 ·have hle:m*size≤n*size:=Nat.mul_le_mul_right _ hm
  refine⟨by rw [←hy,List.length_take,h1];exact Nat.min_eq_left hle,Nat.le_trans hm h2,h3,.inr ⟨b',cur,hb,hN,hs,?_⟩⟩
  rw [←hy, ←ht,List.take_take,Nat.min_eq_left hle]
section
variable {P : Program} {n : Nat} {l : List (Nat × Value)} {E : World} {L L1 Ls : List Heaplet} {X Y : Act → World → Prop} {d : Nat} {t t' ty e : TypeId} {x y : Operand}
end
end Go.Proofs.YtjfagifjajielaaGreat
