/- Several texts in one: see the remarks ahead of each part. No condition but those told there. -/
import Derived.Test.YtjfagifjajielaaGreatU14
import Derived.Test.YtjfagifjajielaaGreatU12
import Derived.Test.YtjfagifjajielaaGreatU8
import Derived.Test.YtjfagifjajielaaGreatU10
import Derived.Test.YtjfagifjajielaaGreatU4
import Derived.Test.YtjfagifjajielaaGreatU3
import Derived.ArgAppend
import Derived.Laws.OwnMore
set_option linter.unusedSimpArgs false
set_option linter.unusedVariables false
/- Layer 14: withdrawals; receipts written by the reference. Condition: sizes. -/
namespace Go.Proofs.YtjfagifjajielaaGreat
open Go Go.RowKit
set_option maxRecDepth 100000
/-- A withdrawal's cells, and its item. -/
def wdC (i v:UInt64) (a:List UInt8) (m:UInt64):List Value:=.int .u64 (i.toNat:Int)::.int .u64 (v.toNat:Int)::(u8s a++ [.int .u64 (m.toNat:Int)])
def wdIt (i v:UInt64) (a:List UInt8) (m:UInt64):It:=itL [itS (bytesOf i.toNat),itS (bytesOf v.toNat),itS a,itS (bytesOf m.toNat)]
section
variable {i v m : UInt64} {a : List UInt8}
theorem wdC_len (ha:a.length=20):(wdC i v a m).length=23:=by
 have:(u8s a).length=20:=by rw [aY,ha]
 simp only [wdC,List.length_cons,List.length_append,this,List.length_nil]
theorem wdC_one:(wdC i v a m).all (·.oneCell')=true:=by
 refine List.all_eq_true.2 fun u hu=>?_
 rcases List.mem_cons.1 hu with rfl|hu
 ·rfl
 rcases List.mem_cons.1 hu with rfl|hu
 ·rfl
 rcases List.mem_append.1 hu with hu|hu
 ·exact one_u8s _ u hu
 ·obtain rfl:=List.mem_singleton.1 hu;rfl
theorem wdC_am (ha:a.length=20):(wdC i v a m)[0+22]? =some (.int .u64 (m.toNat:Int)):=by
 have:(u8s a).length=20:=by rw [aY,ha]
 show(u8s a++ [_])[20]? =_
 rw [List.getElem?_append_right (by omega),this];rfl
theorem wdC_ad (ha:a.length=20):((wdC i v a m).drop 2).take 20=u8s a:=by
 show(u8s a++ [_]).take 20=_
 rw [List.take_left' (by rw [aY,ha])]
theorem wdIt_len (ha:a.length=20):(wdIt i v a m).form.length≤200:=by
 have h1:=formS_len a (by omega)
 have hb:=fun(u:UInt64)=>bytes8 u
 have h2:=formS_len (bytesOf i.toNat) (by have:=hb i;omega)
 have h3:=formS_len (bytesOf v.toNat) (by have:=hb v;omega)
 have h4:=formS_len (bytesOf m.toNat) (by have:=hb m;omega)
 have b2:=hb i
 have b3:=hb v
 have b4:=hb m
 have h5:(It.forms [itS (bytesOf i.toNat),itS (bytesOf v.toNat),itS a,itS (bytesOf m.toNat)]).length≤90:=by
  rw [forms_cons,forms_cons,forms_cons,forms_cons,forms_nil,List.length_append,List.length_append,List.length_append,List.length_append,List.length_nil];omega
 have:=formL_len [itS (bytesOf i.toNat),itS (bytesOf v.toNat),itS a,itS (bytesOf m.toNat)] (by omega)
 unfold wdIt;omega
theorem FPaid_b (ha:a.length=20):Fn Tryz.prog 68 #[.agg (wdC i v a m).toArray] [] [] (ItemP (wdIt i v a m)):=by
 have hl:=wdC_len (i:=i) (v:=v) (m:=m) ha
 refine Fn.enter (vs:= [.agg (wdC i v a m).toArray]) Tryz.func68 rfl rfl rfl ?_
 intro E R hR
 change At _ _ E [R] _
 refine At.seq fun _ s_1=>At.region (op_box (aT rfl) rfl rfl rfl (fun N1 b1 B1=>aS (aT rfl) ze91 rfl (fun N2 b2 B2=>?_)))
 change Blk N2 b2 _ [.bool false,.slice none 0 0,.slice none 0 0]at B2
 refine aA (aB (s_1 (At.seq fun _ s_2=>?_)))
 have s10:=sub8 B1.rng (wdC_ad (i:=i) (v:=v) (m:=m) ha) ha (by decide)
 refine At.drawnS [N1,R] [11,12,13,14] [] [0,1,3,4,6,7,9,10,2,5,8,11,12,13,14] (by kernel_rfl) (by kernel_rfl) (.cons _ (.refl _)) (aF (nxsf rfl rfl rfl) fl125_0 rfl rfl (aL (nxsf rfl rfl rfl) sc24 rfl B1 (by first|rfl|exact wdC_am ha) aP rfl ?_))
 refine aF (nxsf rfl rfl rfl) fl125_1 rfl rfl (aL (nxsf rfl rfl rfl) sc24 rfl B1 (by first|rfl|exact wdC_am ha) aP rfl ?_)
 refine aF (nxsf rfl rfl rfl) fl125_2 rfl rfl (op_sliceA (nxsf rfl rfl rfl) ae28 rfl .none .none .none (by omega) (by omega) (by omega) (by simp) rfl (aF (nxsf rfl rfl rfl) fl125_3 rfl rfl (aL (nxsf rfl rfl rfl) sc24 rfl B1 (by first|rfl|exact wdC_am ha) aP rfl ?_)))
 refine aG (Nx.agree (nxsm rfl rfl rfl)) (.cons rfl .nil) (FNumber_b i) Tryz.func112 rfl rfl (by simp) rfl ?_
 rintro v5 L5 ⟨M5,p5,k5,rfl,rfl,s5⟩
 change At _ _ _ [M5,N2,N1,R] _
 refine At.perm sel3 (At.perm sel3 (At.perm sel2 (At.perm sel3 (bL (Lst:= [N1,R]) (Lst':= [M5,N1,R]) (.cons _ (.refl _)) (.cons _ (.refl _)) (aG (Nx.agree (nxsm rfl rfl rfl)) (.cons rfl .nil) (FNumber_b v) Tryz.func112 rfl rfl (by simp) rfl ?_)))))
 rintro v8 L8 ⟨M8,p8,k8,rfl,rfl,s8⟩
 change At _ _ _ [M8,N2,M5,N1,R] _
 refine At.perm sel4 (At.perm sel4 (At.perm sel4 (At.perm sel3 (At.perm sel4 (bL (Lst:= [M5,N1,R]) (Lst':= [M8,M5,N1,R]) (.cons _ (.refl _)) (.cons _ (.refl _)) (aG (Nx.agree (nxsm rfl rfl rfl)) (.cons rfl .nil) (FText_b) Tryz.func111 rfl rfl (by simp) rfl ?_))))))
 rintro v11 L11 ⟨rfl,rfl⟩
 change At _ _ _ [N2,M8,M5,N1,R] _
 refine bL (Lst:= [M8,M5,N1,R]) (Lst':= [M8,M5,N1,R]) (.refl _) (.cons _ (.refl _)) (aG (Nx.agree (nxss rfl rfl rfl rfl)) (.cons rfl .nil) (FNumber_b m) Tryz.func112 rfl rfl (by simp) rfl ?_)
 rintro v14 L14 ⟨M14,p14,k14,rfl,rfl,s14⟩
 change At _ _ _ [M14,N2,M8,M5,N1,R] _
 refine At.anyS (.refl _) (op_lit (Nx.agree (nxss rfl rfl rfl rfl)) Tryz.underlying89 ze91 sz91 (.cons rfl (.cons rfl (.cons rfl (.cons rfl .nil)))) rfl rfl (by simp [Value.cells]) rfl rfl rfl (fun N15 a15 r15=>?_))
 simp only [flatV,List.flatMap_cons,List.flatMap_nil,Value.cells,List.append_nil,List.cons_append,List.nil_append]at r15
 have s15:=r15.rsl
 refine At.anyS (.refl _) ?_
 change Row N15 _ 3 a15 4 4 (cellsI [ivS p5 _ k5,ivS p8 _ k8,ivS (some ⟨b1,0+2+0*1,none⟩) (20- 0) (20- 0),ivS p14 _ k14])at r15
 have s15:=r15.rsl
 refine aG (Nx.agree (nxss rfl rfl rfl rfl)) (.cons rfl .nil) (FList_b) Tryz.func66 rfl rfl (by simp) rfl ?_
 rintro v16 L16 ⟨rfl,rfl⟩
 change At _ _ _ [N15,M14,N2,M8,M5,N1,R] _
 refine At.anyS (.refl _) (aI (nxsl rfl rfl rfl rfl) sz91 rfl rfl rfl rfl rfl B2 (by simp) sel2 (fun N2 B2=>?_))
 simp only [setL,List.set]at B2
 refine At.sNil (aB (s_2 (At.ret ((At.perm bO (At.perm bO (At.perm bE (At.perm bE (At.perm sel4 (At.perm bO (At.perm bO (bB (fun J J1 J2=>At.perm bE (At.perm bE (At.perm sel4 (At.perm sel4 (At.perm bE (At.perm bE (bB (fun K K1 K2=>At.perm sel4 (At.perm sel3 (At.perm sel3 ?_))))))))))))))))))))))
 refine At.perm sel4 (At.perm sel4 (bB (fun W W1 W2=>At.perm sel3 (At.perm sel2 (At.perm sel3 (At.perm sel3 (bB (fun Q Q1 Q2=>At.perm sel2 (At.perm sel1 (At.perm sel2 (aW (L1:= [Q]) rfl (.cell rfl (aZ (ds:= [_,_,_]) ag91 B2 rfl rfl aP) .nil) (.cons _ (.refl _)) (.refl _) ?_)))))))))))
 exact⟨Q,ivL a15 4 4,rfl,rfl,ItN_L (s15.le (Heaplet.le_trans J1 (Heaplet.le_trans K1 (Heaplet.le_trans W1 Q1)))) (aV (ItN_S (s5.le (Heaplet.le_trans J2 (Heaplet.le_trans K1 (Heaplet.le_trans W1 Q1))))) (aV (ItN_S (s8.le (Heaplet.le_trans K2 (Heaplet.le_trans W1 Q1)))) (aV (ItN_S (s10.le (Heaplet.le_trans W2 Q1))) (aV (ItN_S (s14.le Q2)) ItsN_nil))))⟩
theorem rPaid_b (ha:a.length=20):Fn Tryz.prog 74 #[.agg (wdC i v a m).toArray] [] [] (ItemP (wdIt i v a m)):=by
 have hl:=wdC_len (i:=i) (v:=v) (m:=m) ha
 refine Fn.enter (vs:= [.agg (wdC i v a m).toArray]) Tryz.func74 rfl rfl rfl ?_
 intro E R hR
 change At _ _ E [R] _
 refine At.seq fun _ s_1=>At.region (op_box (aT rfl) rfl rfl rfl (fun N1 b1 B1=>aS (aT rfl) ze91 rfl (fun N2 b2 B2=>?_)))
 change Blk N2 b2 _ [.bool false,.slice none 0 0,.slice none 0 0]at B2
 refine aA (aB (s_1 (At.seq fun _ s_2=>?_)))
 have s10:=sub8 B1.rng (wdC_ad (i:=i) (v:=v) (m:=m) ha) ha (by decide)
 refine At.drawnS [N1,R] [11,12,13,14] [] [0,1,3,4,6,7,9,10,2,5,8,11,12,13,14] (by kernel_rfl) (by kernel_rfl) (.cons _ (.refl _)) (aF (nxsf rfl rfl rfl) fl125_0 rfl rfl (aL (nxsf rfl rfl rfl) sc24 rfl B1 (by first|rfl|exact wdC_am ha) aP rfl ?_))
 refine aF (nxsf rfl rfl rfl) fl125_1 rfl rfl (aL (nxsf rfl rfl rfl) sc24 rfl B1 (by first|rfl|exact wdC_am ha) aP rfl ?_)
 refine aF (nxsf rfl rfl rfl) fl125_2 rfl rfl (op_sliceA (nxsf rfl rfl rfl) ae28 rfl .none .none .none (by omega) (by omega) (by omega) (by simp) rfl (aF (nxsf rfl rfl rfl) fl125_3 rfl rfl (aL (nxsf rfl rfl rfl) sc24 rfl B1 (by first|rfl|exact wdC_am ha) aP rfl ?_)))
 refine aG (Nx.agree (nxsm rfl rfl rfl)) (.cons rfl .nil) (rNum_b i) Tryz.func116 rfl rfl (by simp) rfl ?_
 rintro v5 L5 ⟨M5,p5,k5,rfl,rfl,s5⟩
 change At _ _ _ [M5,N2,N1,R] _
 refine At.perm sel3 (At.perm sel3 (At.perm sel2 (At.perm sel3 (bL (Lst:= [N1,R]) (Lst':= [M5,N1,R]) (.cons _ (.refl _)) (.cons _ (.refl _)) (aG (Nx.agree (nxsm rfl rfl rfl)) (.cons rfl .nil) (rNum_b v) Tryz.func116 rfl rfl (by simp) rfl ?_)))))
 rintro v8 L8 ⟨M8,p8,k8,rfl,rfl,s8⟩
 change At _ _ _ [M8,N2,M5,N1,R] _
 refine At.perm sel4 (At.perm sel4 (At.perm sel4 (At.perm sel3 (At.perm sel4 (bL (Lst:= [M5,N1,R]) (Lst':= [M8,M5,N1,R]) (.cons _ (.refl _)) (.cons _ (.refl _)) (aG (Nx.agree (nxsm rfl rfl rfl)) (.cons rfl .nil) (rBytes_b s10 (by decide)) Tryz.func71 rfl rfl (by simp) rfl ?_))))))
 rintro v11 L11 ⟨M11,p11,k11,rfl,rfl,s11⟩
 change At _ _ _ [M11,N2,M8,M5,N1,R] _
 refine At.perm bE (At.perm bE (At.perm bE (At.perm bE (At.perm sel4 (At.perm bE (bL (Lst:= [M8,M5,N1,R]) (Lst':= [M11,M8,M5,N1,R]) (.cons _ (.refl _)) (.cons _ (.refl _)) (aG (Nx.agree (nxss rfl rfl rfl rfl)) (.cons rfl .nil) (rNum_b m) Tryz.func116 rfl rfl (by simp) rfl ?_)))))))
 rintro v14 L14 ⟨M14,p14,k14,rfl,rfl,s14⟩
 change At _ _ _ [M14,N2,M11,M8,M5,N1,R] _
 refine At.anyS (.refl _) (op_lit (Nx.agree (nxss rfl rfl rfl rfl)) Tryz.underlying89 ze91 sz91 (.cons rfl (.cons rfl (.cons rfl (.cons rfl .nil)))) rfl rfl (by simp [Value.cells]) rfl rfl rfl (fun N15 a15 r15=>?_))
 simp only [flatV,List.flatMap_cons,List.flatMap_nil,Value.cells,List.append_nil,List.cons_append,List.nil_append]at r15
 have s15:=r15.rsl
 refine At.anyS (.refl _) ?_
 change Row N15 _ 3 a15 4 4 (cellsI [ivS p5 _ k5,ivS p8 _ k8,ivS p11 _ k11,ivS p14 _ k14])at r15
 have s15:=r15.rsl
 refine aG (Nx.agree (nxss rfl rfl rfl rfl)) (.cons rfl .nil) (rList_b) Tryz.func73 rfl rfl (by simp) rfl ?_
 rintro v16 L16 ⟨rfl,rfl⟩
 change At _ _ _ [N15,M14,N2,M11,M8,M5,N1,R] _
 refine At.anyS (.refl _) (aI (nxsl rfl rfl rfl rfl) sz91 rfl rfl rfl rfl rfl B2 (by simp) sel2 (fun N2 B2=>?_))
 simp only [setL,List.set]at B2
 refine At.sNil (aB (s_2 (At.ret ((At.perm sel7 (At.perm sel7 (At.perm bO (At.perm bO (At.perm bO (At.perm bE (At.perm sel7 (At.perm sel7 (bB (fun J J1 J2=>At.perm bO (At.perm bO (At.perm bE (At.perm bE (At.perm bE (At.perm bO (At.perm bO (bB (fun K K1 K2=>At.perm bE ?_))))))))))))))))))))))
 refine At.perm bE (At.perm sel4 (At.perm sel4 (At.perm bE (At.perm bE (bB (fun W W1 W2=>At.perm sel4 (At.perm sel4 (At.perm sel3 (At.perm sel4 (At.perm sel4 (bB (fun Q Q1 Q2=>At.sub (L':= [Q,N2,R]) (.cons_cons _ (.cons_cons _ (.cons _ (.cons_cons _ (.slnil))))) (At.perm sel2 (At.perm sel1 (At.perm sel2 (aW (L1:= [Q]) rfl (.cell rfl (aZ (ds:= [_,_,_]) ag91 B2 rfl rfl aP) .nil) (.cons _ (.refl _)) (.refl _) ?_))))))))))))))))
 exact⟨Q,ivL a15 4 4,rfl,rfl,ItN_L (s15.le (Heaplet.le_trans J1 (Heaplet.le_trans K1 (Heaplet.le_trans W1 Q1)))) (aV (ItN_S (s5.le (Heaplet.le_trans J2 (Heaplet.le_trans K1 (Heaplet.le_trans W1 Q1))))) (aV (ItN_S (s8.le (Heaplet.le_trans K2 (Heaplet.le_trans W1 Q1)))) (aV (ItN_S (s11.le (Heaplet.le_trans W2 Q1))) (aV (ItN_S (s14.le Q2)) ItsN_nil))))⟩
end
/-- Bytes in new memory. -/
def BytP2 (b:List UInt8) (v:Value) (L:List Heaplet):Prop:= ∃M a c,v=.slice a b.length c∧L= [M]∧RSl M 1 a b.length c (u8s b)
section
variable {N : Heaplet} {k : Int} {ao ra la : Option Addr} {n cap rn rc ln lc : Nat} {root bl : List UInt8} {ok : Bool} {gas : UInt64} {gs : List LogM} {xs : List LV} {its : List It}
end
end Go.Proofs.YtjfagifjajielaaGreat
/- The parts of a struct's cells, told by their lengths. No condition. -/
namespace Go.Proofs.YtjfagifjajielaaGreat
open Go Go.RowKit
theorem flatten_len (ps:List (List Value)):ps.flatten.length=(ps.map List.length).sum:=by rw [List.length_flatten]
theorem part_cut {ps:List (List Value)} : ∀ {j:Nat} {p:List Value},ps[j]? =some p→ps.flatten=(ps.take j).flatten++(p++(ps.drop (j+1)).flatten):=by
 intro j p h
 obtain⟨hj,rfl⟩:=List.getElem?_eq_some_iff.1 h
 conv=>lhs;rw [←List.take_append_drop j ps,List.flatten_append,List.drop_eq_getElem_cons hj,List.flatten_cons]
theorem part_len {ps:List (List Value)} {ls:List Nat} (hl:ps.map List.length=ls) (j:Nat):(ps.take j).flatten.length=(ls.take j).sum:=by
 rw [flatten_len,List.map_take,hl]
/-- A part. -/
theorem part_get {ps:List (List Value)} {ls:List Nat} {j o k:Nat} {p:List Value} (hl:ps.map List.length=ls) (hp:ps[j]? =some p) (ho:(ls.take j).sum=o) (hk:p.length=k):(ps.flatten.drop o).take k=p:=by
 rw [part_cut hp,List.drop_left' ((part_len hl j).trans ho),List.take_left' hk]
/-- A part of one cell. -/
theorem aK {ps:List (List Value)} {ls:List Nat} {j o:Nat} {v:Value} (hl:ps.map List.length=ls) (hp:ps[j]? =some [v]) (ho:(ls.take j).sum=o):ps.flatten[o]? =some v:=by
 rw [part_cut hp]
 have h1:=(part_len hl j).trans ho
 rw [List.getElem?_append_right (by omega),h1,Nat.sub_self];rfl
/-- A part is set. -/
theorem part_set {ps:List (List Value)} {ls:List Nat} {j o:Nat} {p q:List Value} (hl:ps.map List.length=ls) (hp:ps[j]? =some p) (ho:(ls.take j).sum=o) (hq:q.length=p.length):setL ps.flatten o q=(ps.set j q).flatten:=by
 have h1:=(part_len hl j).trans ho
 obtain⟨hj,_⟩:=List.getElem?_eq_some_iff.1 hp
 have h2:=setL_append q (ps.take j).flatten p (ps.drop (j+1)).flatten hq.symm
 rw [h1,List.append_assoc, ←part_cut hp]at h2
 rw [h2,List.set_eq_take_append_cons_drop,if_pos hj,List.flatten_append,List.flatten_cons,List.append_assoc]
theorem part_all {ps:List (List Value)} (h: ∀p∈ps, ∀u∈p,u.oneCell'=true):ps.flatten.all (·.oneCell')=true:=by
 refine List.all_eq_true.2 fun u hu=>?_
 obtain⟨p,hp,hu⟩:=List.mem_flatten.1 hu
 exact h p hp u hu
theorem cellsI_take (xs:List IV): ∀k,(cellsI xs).take (k*3)=cellsI (xs.take k):=by
 induction xs with
 |nil=>intro k;simp [cellsI]
 |cons x t ih=>
  intro k
  cases k with
  |zero=>simp [cellsI]
  |succ k=>
   have hx:x.cells.length=3:=rfl
   show(x.cells++cellsI t).take ((k+1)*3)=x.cells++cellsI (t.take k)
   rw [show(k+1)*3=x.cells.length+k*3 by rw [hx];omega,List.take_append,List.take_of_length_le (by omega),Nat.add_sub_cancel_left,ih k]
theorem ItsN.take {J:Heaplet} : ∀ {its:List It} {xs:List IV} (k:Nat),ItsN J its xs→ItsN J (its.take k) (xs.take k)
 | [],xs,k,h=>by
  have h:xs= []:=h
  subst h
  simp only [List.take_nil];exact ItsN_nil
 |t::ts,xs,0,h=>by simp only [List.take_zero];exact ItsN_nil
 |t::ts,xs,k+1,h=>by
  obtain⟨x,ys,rfl,h1,h2⟩:=h
  simp only [List.take_succ_cons]
  exact aV h1 (ItsN.take k h2)
end Go.Proofs.YtjfagifjajielaaGreat
/- Layer 14: a list's parts are read one by one. No condition. -/
namespace Go.Proofs.YtjfagifjajielaaGreat
open Go Go.RowKit
set_option maxRecDepth 100000
/-- What is still to be read. -/
def PartsN (Np NI:Heaplet) (bp:Nat) (zs:List IV) (its:List It):Prop:= ∃ao n cap,Blk Np bp 157 [.slice ao n cap]∧RSl NI 3 ao n cap (cellsI zs)∧ItsN NI its zs
def strE:It→Except Nat (List UInt8)
 |.mk false bs _=>.ok bs
 |.mk true _ _=>.error 2
def listE:It→Except Nat (List It)
 |.mk false _ _=>.error 2
 |.mk true _ its=>.ok its
def fixE (k:Nat) (t:It):Except Nat (List UInt8):=match strE t with
 |.ok b=>if b.length=k then .ok b else .error 2
 |.error e=>.error e
def wordE (t:It):Except Nat Nat:=match strE t with
 |.ok b=>if numE b=0 then .ok (be b)else .error (numE b)
 |.error e=>.error e
def smallE (t:It):Except Nat Nat:=match wordE t with
 |.ok x=>if x<2^64 then .ok x else .error 3
 |.error e=>.error e
theorem cellsI_len (xs:List IV):(cellsI xs).length=xs.length*3:=flat_len IV.cells fun y _=>rfl
section
variable {Np NI : Heaplet} {bp n cap k : Nat} {ao : Option Addr} {t : It} {ts : List It} {x z : IV} {xs zs : List IV}
theorem FNext_0 (B:Blk Np bp 157 [.slice ao n cap]) (hs:RSl NI 3 ao n cap (cellsI (x::xs))):Fn Tryz.prog 52 #[.pointer (some ⟨bp,0,none⟩)] [Np] [NI] (fun v L=> ∃Np,v=IV.val x∧L= [Np]∧Blk Np bp 157 [.slice (sadr ao 1 cap 3) (n- 1) (cap- 1)]):=by
 have hn:=hs.1
 rw [cellsI_len,List.length_cons]at hn
 have hc:=hs.2.1
 have hsome:ao.isSome=true:=by
  obtain⟨bA,oA,hao,_⟩:=hs.2.2.2 (by omega)
  rw [hao];rfl
 refine Fn.enter (vs:= [.pointer (some ⟨bp,0,none⟩)]) Tryz.func52 rfl rfl rfl ?_
 intro E R hR
 have hs:=hs.le (hR NI (by simp))
 have Bp:=B
 change At _ _ E [Np,R] _
 refine At.seq fun _ s_1=>At.region (aS (aT rfl) ze91 rfl (fun N2 b2 B2=>?_))
 change Blk N2 b2 _ [.bool false,.slice none 0 0,.slice none 0 0]at B2
 refine aA (aB (s_1 (At.seq fun _ s_2=>At.region (aE (aC rfl) rfl rfl (op_nilChk (aC rfl) rfl rfl (aF (aC rfl) fl157_0 rfl rfl (aL (aC rfl) sc89 rfl Bp (by first|rfl) bM rfl ?_)))))))
 refine op_idxE (aC rfl) se89 rfl rfl hs (show _=(((0:Nat)):Int)from by omega) (by omega) rfl ?_
 refine op_loadAggE (ds:= [.bool x.l,.slice x.ab x.nb x.cb,.slice x.ai x.ni x.ci]) (aC rfl) ag91 rfl hs (by rfl) (by rfl) (by omega) (by first|exact aP|exact bM|exact mem2|exact mem3|exact mem4|exact mem5|exact mem6|exact mem7|exact mem8|exact mem9) rfl ?_
 refine aS (aT rfl) ze91 rfl (fun N3 b3 B3=>?_)
 change Blk N3 b3 _ [.bool false,.slice none 0 0,.slice none 0 0]at B3
 refine aI (nxl rfl) sz91 rfl rfl rfl rfl rfl B3 (by simp) sel0 (fun N3 B3=>?_)
 simp only [setL,List.set]at B3
 refine aA (aB (s_2 (At.seq fun _ s_3=>At.region (aE (aC rfl) rfl rfl (aE (aC rfl) rfl rfl (op_nilChk (aC rfl) rfl rfl (aF (aC rfl) fl157_0 rfl rfl (aL (aC rfl) sc89 rfl Bp (by first|rfl) mem2 rfl ?_))))))))
 refine op_slice (aC rfl) se89 rfl (.some rfl (show _=(((1:Nat)):Int)from by omega)) .none .none (by omega) (by omega) (by omega) (by simp) rfl ?_
 refine op_nilChk (aC rfl) rfl rfl (aF (aC rfl) fl157_0 rfl rfl (aI (nxl rfl) sz89 rfl rfl rfl rfl rfl Bp (by simp) sel2 (fun Np Bp=>?_)))
 simp only [setL,List.set]at Bp
 refine aA (aB (s_3 (At.seq fun _ s_4=>At.region (aQ (ds:= [_,_,_]) (aC rfl) ag91 rfl B3 rfl rfl bM rfl (aI (nxl rfl) sz91 rfl rfl rfl rfl rfl B2 (by simp) sel2 (fun N2 B2=>?_))))))
 simp only [setL,List.set]at B2
 refine aA (aB (s_4 (At.ret ((At.sub (L':= [N2,Np,R]) (.cons_cons _ (.cons_cons _ (.cons _ (.cons_cons _ (.slnil))))) (aW (L1:= [Np]) rfl (.cell rfl (aZ (ds:= [_,_,_]) ag91 B2 rfl rfl aP) .nil) (.cons _ (.refl _)) (.refl _) ?_))))))
 exact⟨Np,rfl,rfl,Bp⟩
/-- The next part. -/
theorem FNext_p (h:PartsN Np NI bp (z::zs) (t::ts)):Fn Tryz.prog 52 #[.pointer (some ⟨bp,0,none⟩)] [Np] [NI] (fun v L=> ∃Np,v=IV.val z∧L= [Np]∧PartsN Np NI bp zs ts∧ItN NI t z):=by
 obtain⟨ao,n,cap,B,hs,hi⟩:=h
 obtain⟨x,ys,e,hx,hy⟩:=hi
 obtain⟨rfl,rfl⟩:=List.cons.inj e
 have hn:=hs.1
 rw [cellsI_len,List.length_cons]at hn
 refine(FNext_0 B hs).mono fun v L hp=>?_
 obtain⟨Mp,rfl,rfl,B'⟩:=hp
 exact⟨Mp,rfl,rfl,⟨_,_,_,B',hs.drop (lo:=1) (by omega),hy⟩,hx⟩
/-- There is a place for each part. -/
theorem PartsN.cons {its:List It} (h:PartsN Np NI bp zs (t::its)): ∃y ys,zs=y::ys:=by
 obtain⟨ao,n,cap,B,hs,hi⟩:=h
 obtain⟨x,ys,e,_⟩:=hi
 exact⟨x,ys,e⟩
theorem PartsN.nil (h:PartsN Np NI bp zs []):zs= []:=by
 obtain⟨ao,n,cap,B,hs,hi⟩:=h
 exact hi
theorem strE_of {x:IV} (h:ItN NI t x):(x.l=true∧strE t=.error 2)∨(x.l=false∧ ∃b,strE t=.ok b∧x.nb=b.length∧RSl NI 1 x.ab x.nb x.cb (u8s b)):=by
 obtain⟨l,bs,its⟩:=t
 simp only [ItN]at h
 obtain⟨h1,h2,_⟩:=h
 cases l with
 |true=>exact .inl ⟨h1,rfl⟩
 |false=>exact .inr ⟨h1,bs,rfl,h2.len8.symm,h2⟩
theorem FMust_any (b:Bool):FnE Tryz.prog 31 #[.bool b] [] [] (fun v L=>v=.tuple #[]∧L= []∧b=true) (fun v L=>v=gaveV 2∧L= []∧b=false):=by
 cases b
 ·exact FMust_f.mono (fun _ _ h=>h.elim) (fun v L h=>⟨h.1,h.2,rfl⟩)
 ·exact(FMust_t.mono (fun v L h=>⟨h.1,h.2,rfl⟩)).x
/-- A byte string. -/
theorem FBytes_x (h:PartsN Np NI bp (z::zs) (t::ts)):FnE Tryz.prog 90 #[.pointer (some ⟨bp,0,none⟩)] [Np] [NI] (fun v L=> ∃Np a c b,v=.slice a b.length c∧L= [Np]∧strE t=.ok b∧PartsN Np NI bp zs ts∧RSl NI 1 a b.length c (u8s b)∧z.ab=a∧z.nb=b.length∧z.cb=c) (fun v L=> ∃e:Nat,v=gaveV e∧L= []∧strE t=.error e):=by
 have h1:Fn Tryz.prog 52 #[.pointer (some ⟨bp,0,none⟩)] [Np] [NI] (fun v L=> ∃Np,v=IV.val z∧L= [Np]∧PartsN Np NI bp zs ts∧ItN NI t z):=FNext_p h
 refine FnE.enter (vs:= [.pointer (some ⟨bp,0,none⟩)]) Tryz.func90 rfl rfl rfl ?_
 intro E R hR
 have h1:=h1.liftB (hR NI (by simp))
 change At _ _ E [Np,R] _
 refine At.seq fun _ s_1=>At.region (aD (aC rfl) rfl rfl (aA (aB (s_1 (At.seq fun _ s_2=>At.region (aE (aC rfl) rfl rfl (op_call (nxl rfl) (.cons rfl .nil) (h1) (F:= [R]) Tryz.func52 rfl rfl (.refl _) (by simp) rfl ?_)))))))
 rintro v5 L5 ⟨Mp,rfl,rfl,hp,hx⟩
 change At _ _ _ [Mp,R] _
 change At _ ((5,.agg #[.bool z.l,.slice z.ab z.nb z.cb,.slice z.ai z.ni z.ci])::_) _ _ _;have hq:=strE_of hx
 refine aS (aT rfl) ze91 rfl (fun N3 b3 B3=>?_)
 change Blk N3 b3 _ [.bool false,.slice none 0 0,.slice none 0 0]at B3
 refine aI (nxl rfl) sz91 rfl rfl rfl rfl rfl B3 (by simp) sel0 (fun N3 B3=>?_)
 simp only [setL,List.set]at B3
 refine aA (aB (s_2 (At.seq fun _ s_3=>At.region (aF (aC rfl) fl91_0 rfl rfl (aL (aC rfl) sc4 rfl B3 (by first|rfl) aP rfl ?_)))))
 refine op_not (aC rfl) rfl rfl (op_callE (.cons rfl .nil) (FMust_any (!z.l)) (F:= [N3,Mp,R]) Tryz.func31 rfl rfl (.refl _) (by simp) rfl ?_ ?_)
 ·rintro v9 L9 ⟨rfl,rfl,hb⟩
  change At _ _ _ [N3,Mp,R] _
  refine aX ((At.sub (L':= [R]) (.cons _ (.cons _ (.cons_cons _ (.slnil)))) (At.pan (L1:= []) (.refl _) (.refl _) ?_)))
  have hl:z.l=true:=by simpa using hb
  rcases hq with ⟨_,e⟩|⟨h,_⟩
  ·exact⟨2,rfl,rfl,e⟩
  ·rw [hl]at h;cases h
 rintro v9 L9 ⟨rfl,rfl,hb⟩
 change At _ _ _ [N3,Mp,R] _
 refine aA (aB (s_3 (At.seq fun _ s_4=>At.region (aF (aC rfl) fl91_1 rfl rfl (aL (aC rfl) sc22 rfl B3 (by first|rfl) aP rfl ?_)))))
 refine aD (aC rfl) rfl rfl (aA (aB (s_4 (At.ret ((At.retX (At.sub (L':= [Mp,R]) (.cons _ (.cons_cons _ (.cons_cons _ (.slnil)))) (aW (L1:= [Mp]) rfl (.tmp rfl .nil) (.refl _) (.refl _) ?_))))))))
 have hl:z.l=false:=by simpa using hb
 rcases hq with ⟨h,_⟩|⟨_,b,e,hnb,hr⟩
 ·rw [hl]at h;cases h
 ·rw [hnb]at hr⊢
  exact⟨Mp,z.ab,z.cb,b,rfl,rfl,e,hp,hr,rfl,rfl,rfl⟩
theorem FBytes_p (h:PartsN Np NI bp (z::zs) (t::ts)):FnE Tryz.prog 90 #[.pointer (some ⟨bp,0,none⟩)] [Np] [NI] (fun v L=> ∃Np a c b,v=.slice a b.length c∧L= [Np]∧strE t=.ok b∧PartsN Np NI bp zs ts∧RSl NI 1 a b.length c (u8s b)) (fun v L=> ∃e:Nat,v=gaveV e∧L= []∧strE t=.error e):=
 (FBytes_x h).mono (fun v L ⟨Np,a,c,b,h1,h2,h3,h4,h5,_⟩=>⟨Np,a,c,b,h1,h2,h3,h4,h5⟩) (fun _ _ h=>h)
end
end Go.Proofs.YtjfagifjajielaaGreat
/- rlp.Split, the reference's Split; quarrylaw05.RlpSplit answers true. No condition but that bytes are not longer than a machine holds. -/
namespace Go.Proofs.YtjfagifjajielaaGreat
open Go Go.RowKit
/-- What the reference's Split tells. -/
def SplV (N:Heaplet) (r:Option (Bool×List UInt8×List UInt8)) (v:Value):Prop:=match r with
 |none=>v=.tuple #[.bool false,.slice none 0 0,.slice none 0 0,.int .i64 2]
 |some (isL,p,q)=> ∃a1 c1 a2 c2,v=.tuple #[.bool isL,.slice a1 p.length c1,.slice a2 q.length c2,.int .i64 0]∧RSl N 1 a1 p.length c1 (u8s p)∧RSl N 1 a2 q.length c2 (u8s q)
theorem splv_mk {N:Heaplet} {isL l:Bool} {p q:List UInt8} {a1 a2:Option Addr} {n1 n2 c1 c2:Nat} (hl:l=isL) (h1:RSl N 1 a1 n1 c1 (u8s p)) (h2:RSl N 1 a2 n2 c2 (u8s q)):SplV N (some (isL,p,q)) (.tuple #[.bool l,.slice a1 n1 c1,.slice a2 n2 c2,.int .i64 0]):=by
 have e1:=h1.len8
 have e2:=h2.len8
 subst e1;subst e2;subst hl
 exact⟨a1,c1,a2,c2,rfl,h1,h2⟩
theorem u64_of {n:Nat} (h:n<18446744073709551616):(UInt64.ofNat n).toNat=n:=by rw [UInt64.toNat_ofNat'];exact Nat.mod_eq_of_lt h
theorem rSplit_f {N:Heaplet} {ao:Option Addr} {n cap:Nat} {b:List UInt8} (h:RSl N 1 ao n cap (u8s b)) (hn:n≤1099511627776):
 Fn Tryz.prog 148 #[.slice ao n cap] [] [N] (fun v L=>L= []∧ ∀M:Heaplet,RSl M 1 ao n cap (u8s b)→SplV M (cutF b) v):=by
 have hlen:=h.len8
 have hcap:=h.cap63
 refine Fn.enter (vs:= [.slice ao n cap]) Tryz.func148 rfl rfl rfl ?_
 intro E R hR
 have h:=h.le (hR N (by simp))
 have hb0:=(b.getD 0 0).toNat_lt
 have hd:hdr b=((b.getD 0 0).toNat- 128) % 64:=rfl
 change At _ _ E [R] _
 refine At.seq fun _ s_1=>At.region (aD (aC rfl) rfl rfl (aD (aC rfl) rfl rfl (aD (aC rfl) rfl rfl (aD (aC rfl) rfl rfl (aA (aB (s_1 (At.seq fun _ s_2=>At.seq fun _ s_3=>At.region (aE (aC rfl) rfl rfl (a7 (aC rfl) se22 rfl rfl (op_eql (aC rfl) rfl rfl rfl (aA (aB (s_3 (aO rfl (fun c14=>?_) (fun c14=>?_))))))))))))))))
 ·refine At.seq fun _ s_4=>At.region (aD (aC rfl) rfl rfl (aD (aC rfl) rfl rfl (aD (aC rfl) rfl rfl (aD (aC rfl) rfl rfl (aA (aB (s_4 (At.ret (aJ ((aU (L1:= []) rfl (.tmp rfl (.tmp rfl (.tmp rfl (.tmp rfl .nil)))) rfl (.refl _) (.refl _) ?_)))))))))))
  exact⟨rfl,fun M hM=>by rw [cutF,if_pos (by omega)];rfl⟩
 refine At.skip (aB (s_2 (At.seq fun _ s_5=>At.region (aE (aC rfl) rfl rfl (op_idx1 (aC rfl) se22 rfl rfl (by assumption) (show _=((0:Nat):Int)from rfl) (by omega) rfl ?_)))))
 refine bK (aC rfl) sc5 rfl (by assumption) (by first|exact get8 (by omega)|exact get64 (by omega)|exact get32 (by omega)) (by first|exact aP|exact bM|exact mem2|exact mem3|exact mem4|exact mem5|exact mem6|exact mem7|exact mem8|exact mem9) rfl ?_
 refine op_convI (aC rfl) (und_some Tryz.underlying5) Tryz.underlying3 rfl (by omega) (by omega) rfl (aD (aC rfl) rfl rfl (aA (aB (s_5 (At.seq fun _ s_6=>At.seq fun _ s_7=>At.region (aE (aC rfl) rfl rfl (op_lss (aC rfl) rfl rfl rfl (aA (aB (s_7 (aO rfl (fun c20=>?_) (fun c20=>?_))))))))))))
 ·refine At.seq fun _ s_8=>At.drawn [] [0,1,2,3,4,5,6,7] (by kernel_rfl) (by kernel_rfl) (aE (aR rfl rfl rfl (by kernel_rfl)) rfl rfl (op_slice0 (aR rfl rfl rfl (by kernel_rfl)) se22 rfl (.some rfl (show _=((1:Nat):Int)from rfl)) .none (by omega) (by omega) (by simp) rfl (aE (aR rfl rfl rfl (by kernel_rfl)) rfl rfl (op_slice (aR rfl rfl rfl (by kernel_rfl)) se22 rfl (.some rfl (show _=((1:Nat):Int)from rfl)) .none .none (by omega) (by omega) (by omega) (by simp) rfl (aD (aR rfl rfl rfl (by kernel_rfl)) rfl rfl (aD (aR rfl rfl rfl (by kernel_rfl)) rfl rfl (aD (aR rfl rfl rfl (by kernel_rfl)) rfl rfl (aD (aR rfl rfl rfl (by kernel_rfl)) rfl rfl (At.oneNil (aB (s_8 (At.ret (aJ ((aU (L1:= []) rfl (.tmp rfl (.tmp rfl (.tmp rfl (.tmp rfl .nil)))) rfl (.refl _) (.refl _) (⟨rfl,fun M hM=>?_⟩))))))))))))))))
  rw [cutF,if_neg (by omega),if_pos (by omega)]
  exact splv_mk rfl (hM.take8 (by omega) (by omega) (by omega)) (hM.drop8 (by omega))
 refine At.skip (aB (s_6 (At.seq fun _ s_9=>At.region (aE (aC rfl) rfl rfl (op_geq (aC rfl) rfl rfl rfl (aD (aC rfl) rfl rfl (aA (aB (s_9 (At.seq fun _ s_10=>At.region (aE (aC rfl) rfl rfl (op_subI (aC rfl) rfl rfl (by omega) (by omega) rfl (op_rem (aC rfl) rfl rfl (by omega) (by omega) rfl (aD (aC rfl) rfl rfl (aA (aB (s_10 (At.seq fun _ s_11=>At.region (aD (aC rfl) rfl rfl (aA ?_))))))))))))))))))))
 refine aB (s_11 (At.seq fun _ s_12=>At.region (aE (aC rfl) rfl rfl (op_conv64 (aC rfl) (und_some Tryz.underlying3) Tryz.underlying24 rfl (show _=(((hdr b:Nat)):Int)from by omega) rfl ?_))))
 refine aD (aC rfl) rfl rfl (aA (aB (s_12 (At.seq fun _ s_13=>At.meet (fun fr_ hp_=> ∃(i:Nat) (m:UInt64),fr_= [(0,.slice ao n cap),(7,.bool (decide (192≤((b.getD 0 0).toNat:Int)))),(8,.int .i64 (i:Int)),(9,.int .u64 (m.toNat:Int))]∧hp_= [R]∧(i≤n)∧(1≤i)∧(cutF b=cutAt b i m.toNat)) ?_ (fun K13_ jk_13=>?_)))))
 rotate_left
 ·skip
  refine At.seq fun _ s_14=>At.region (aE (aC rfl) rfl rfl (op_gtr (aC rfl) rfl rfl rfl (aA (aB (s_14 (aO rfl (fun c33=>?_) (fun c33=>?_)))))))
  ·refine At.seq fun _ s_15=>At.region (aE (aC rfl) rfl rfl (op_subI (aC rfl) rfl rfl (by omega) (by omega) rfl (aD (aC rfl) rfl rfl (aA (aB (s_15 (At.seq fun _ s_16=>At.seq fun _ s_17=>At.region (aE (aC rfl) rfl rfl (a7 (aC rfl) se22 rfl rfl (aE (aC rfl) rfl rfl (op_lss (aC rfl) rfl rfl rfl (aE (aC rfl) rfl rfl (At.partP (d:=40) rfl (fun g40=>?_) (fun g40=>?_))))))))))))))
   ·refine aN rfl rfl rfl rfl rfl rfl rfl (aN rfl rfl rfl rfl rfl rfl rfl (aN rfl rfl rfl rfl rfl rfl rfl (aN rfl rfl rfl rfl rfl rfl rfl (bN (aC rfl) rfl rfl rfl (aA (aB (s_17 (At.condT rfl (At.seq fun _ s_18=>At.region (aD (aC rfl) rfl rfl (aD (aC rfl) rfl rfl (aD (aC rfl) rfl rfl (aD (aC rfl) rfl rfl (aA (aB (s_18 (At.ret (aJ (aJ ((aU (L1:= []) rfl (.tmp rfl (.tmp rfl (.tmp rfl (.tmp rfl .nil)))) rfl (.refl _) (.refl _) ?_)))))))))))))))))))))
    exact⟨rfl,fun M hM=>by rw [cutF,if_neg (by omega),if_neg (by omega),if_neg (by omega),if_pos (.inl (by omega))];rfl⟩
   refine aE (bF rfl rfl rfl rfl) rfl rfl (op_idx1 (bF rfl rfl rfl rfl) se22 rfl rfl (by assumption) (show _=((1:Nat):Int)from rfl) (by omega) rfl ?_)
   refine bK (bF rfl rfl rfl rfl) sc5 rfl (by assumption) (by first|exact get8 (by omega)|exact get64 (by omega)|exact get32 (by omega)) (by first|exact aP|exact bM|exact mem2|exact mem3|exact mem4|exact mem5|exact mem6|exact mem7|exact mem8|exact mem9) rfl ?_
   refine op_eql (bF rfl rfl rfl rfl) rfl rfl rfl (op_pickF (aC rfl) rfl rfl rfl (aA (aB (s_17 (aO rfl (fun c45=>?_) (fun c45=>?_))))))
   ·refine At.seq fun _ s_19=>At.region (aD (aC rfl) rfl rfl (aD (aC rfl) rfl rfl (aD (aC rfl) rfl rfl (aD (aC rfl) rfl rfl (aA (aB (s_19 (At.ret (aJ (aJ ((aU (L1:= []) rfl (.tmp rfl (.tmp rfl (.tmp rfl (.tmp rfl .nil)))) rfl (.refl _) (.refl _) ?_))))))))))))
    exact⟨rfl,fun M hM=>by rw [cutF,if_neg (by omega),if_neg (by omega),if_neg (by omega),if_pos (.inr (by omega))];rfl⟩
   refine At.skip (aB (s_16 (At.seq fun _ s_20=>At.region (aE (aC rfl) rfl rfl (aE (aC rfl) rfl rfl (op_slice (aC rfl) se22 rfl (.some rfl (show _=((1:Nat):Int)from rfl)) (.some rfl (show _=(((hdr b- 54:Nat)):Int)from by omega)) .none (by omega) (by omega) (by omega) (by simp) rfl ?_))))))
   refine aG (aT rfl) (.cons rfl .nil) (rFrom_f (h.part8 (lo:=1) (hi:=hdr b- 54) (m:=cap) (by omega) (by omega) (by omega) (by omega)) (by omega)) Tryz.func149 rfl rfl (by simp) rfl ?_
   rintro v49 L49 ⟨M49,a49,c49,rfl,rfl,s49⟩
   change At _ _ _ [M49,R] _
   have hl:=lng_pos (b:=b) (by omega) (by omega) (by omega)
   change RSl M49 1 a49 (digsOf (lng b)).length c49 (u32s (digsOf (lng b)))at s49
   change At _ ((49,.slice a49 (digsOf (lng b)).length c49)::_) _ [M49,R] _
   refine aD (aC rfl) rfl rfl (aA (aB (s_20 (At.seq fun _ s_21=>At.seq fun _ s_22=>At.region (aE (aC rfl) rfl rfl (aG (aT rfl) (.cons rfl .nil) (Of32_f 55) Tryz.func100 rfl rfl (by simp) rfl ?_))))))
   rintro v51 L51 ⟨M51,a51,c51,rfl,rfl,s51⟩
   change At _ _ _ [M51,M49,R] _
   refine aG (aT rfl) (.cons rfl (.cons rfl .nil)) (Cmp32_f s49 s51) Tryz.func99 rfl rfl (by simp) rfl ?_
   rintro v52 L52 ⟨rfl,rfl⟩
   change At _ _ _ [M51,M49,R] _
   have q52:= @cmpI_le (lng b) 55
   change At _ ((52,.int .i64 (cmpI (lng b) 55))::_) _ _ _
   refine op_leq (aC rfl) rfl rfl rfl (aE (aC rfl) rfl rfl (At.partP (d:=54) rfl (fun g54=>?_) (fun g54=>?_)))
   ·refine aN rfl rfl rfl rfl rfl rfl rfl (aN rfl rfl rfl rfl rfl rfl rfl (aN rfl rfl rfl rfl rfl rfl rfl (aN rfl rfl rfl rfl rfl rfl rfl (bN (aC rfl) rfl rfl rfl (aA (aB (s_22 (At.condT rfl (At.seq fun _ s_23=>At.region (aD (aC rfl) rfl rfl (aD (aC rfl) rfl rfl (aD (aC rfl) rfl rfl (aD (aC rfl) rfl rfl (aA (aB (s_23 (At.ret (aJ (aJ ((At.sub (L':= [R]) (.cons _ (.cons _ (.cons_cons _ (.slnil)))) (aU (L1:= []) rfl (.tmp rfl (.tmp rfl (.tmp rfl (.tmp rfl .nil)))) rfl (.refl _) (.refl _) ?_))))))))))))))))))))))
    exact⟨rfl,fun M hM=>by rw [cutF,if_neg (by omega),if_neg (by omega),if_neg (by omega),if_neg (by omega),if_pos (.inl (by omega))];rfl⟩
   refine aE (bF rfl rfl rfl rfl) rfl rfl (aG (nxga rfl rfl rfl rfl) (.cons rfl .nil) (Of32_f 1099511627776) Tryz.func100 rfl rfl (by simp) rfl ?_)
   rintro v56 L56 ⟨M56,a56,c56,rfl,rfl,s56⟩
   change At _ _ _ [M56,M51,M49,R] _
   refine aG (nxga rfl rfl rfl rfl) (.cons rfl (.cons rfl .nil)) (Cmp32_f s49 s56) Tryz.func99 rfl rfl (by simp) rfl ?_
   rintro v57 L57 ⟨rfl,rfl⟩
   change At _ _ _ [M56,M51,M49,R] _
   have q57:= @cmpI_le (lng b) 1099511627776
   change At _ ((57,.int .i64 (cmpI (lng b) 1099511627776))::_) _ _ _
   refine op_gtr (bF rfl rfl rfl rfl) rfl rfl rfl (op_pickF (aC rfl) rfl rfl rfl (aA (aB (s_22 (aO rfl (fun c59=>?_) (fun c59=>?_))))))
   ·refine At.seq fun _ s_24=>At.region (aD (aC rfl) rfl rfl (aD (aC rfl) rfl rfl (aD (aC rfl) rfl rfl (aD (aC rfl) rfl rfl (aA (aB (s_24 (At.ret (aJ (aJ ((At.sub (L':= [R]) (.cons _ (.cons _ (.cons _ (.cons_cons _ (.slnil))))) (aU (L1:= []) rfl (.tmp rfl (.tmp rfl (.tmp rfl (.tmp rfl .nil)))) rfl (.refl _) (.refl _) ?_)))))))))))))
    exact⟨rfl,fun M hM=>by rw [cutF,if_neg (by omega),if_neg (by omega),if_neg (by omega),if_neg (by omega),if_pos (.inr (by omega))];rfl⟩
   refine At.skip (aB (s_21 (At.region (aE (aC rfl) rfl rfl (aG (aT rfl) (.cons rfl .nil) (rW_f s49) Tryz.func104 rfl rfl (by simp) rfl ?_)))))
   rintro v61 L61 ⟨rfl,wa,wb,wc,wd,rfl,hw⟩
   change At _ _ _ [M56,M51,M49,R] _
   rw [v32_digsOf,Nat.mod_eq_of_lt (Nat.lt_trans hl.2 (by decide))]at hw
   have hwa:wa.toNat=lng b:=by
    have e:=limb_v64 (a:= [wa,wb,wc,wd]) (i:=0) (by simp)
    rw [hw,Nat.mul_zero,Nat.pow_zero,Nat.div_one,Nat.mod_eq_of_lt hl.2]at e
    exact e.symm
   refine op_idxV (aC rfl) ae26 sc24 rfl rfl (show _=((0:Nat):Int)from rfl) (by omega) rfl rfl (aD (aC rfl) rfl rfl (aA (At.sub (L':= [R]) (.cons _ (.cons _ (.cons _ (.cons_cons _ (.slnil))))) ?_)))
   refine aB (jk_13 ?_ (.refl _) ⟨hdr b- 54,wa,rfl,rfl,by omega,by omega,by(rw [hwa,cutF,if_neg (by omega),if_neg (by omega),if_neg (by omega),if_neg (by omega)];by_cases hbl:b.length<lng b;(rw [if_pos (.inr hbl),cutAt,if_pos (by omega)]);(rw [if_neg (by omega)]))⟩)
   exact .cons (by first|exact a6 rfl (by omega)|rfl) (.cons (by first|exact a6 rfl (by omega)|rfl) (.cons (by first|exact a6 rfl (by omega)|rfl) (.cons (by first|exact a6 rfl (by omega)|rfl) .nil)))
  refine At.skip (aB (jk_13 ?_ (.refl _) ⟨1,UInt64.ofNat (hdr b),rfl,rfl,by omega,by omega,by rw [u64_of (by omega),cutF,if_neg (by omega),if_neg (by omega),if_pos (by omega)]⟩))
  exact .cons (by first|exact a6 rfl (by omega)|rfl) (.cons (by first|exact a6 rfl (by omega)|rfl) (.cons (by first|exact a6 rfl (by omega)|rfl) (.cons (by first|exact a6 rfl (by omega)|rfl) .nil)))
 rintro _ _ ⟨i,m,rfl,rfl,hi,hi0,hc⟩
 have hni:=u64_of (n:=n- i) (by omega)
 refine s_13 (At.seq fun _ s_25=>At.seq fun _ s_26=>At.region (aE (aC rfl) rfl rfl (aE (aC rfl) rfl rfl (a7 (aC rfl) se22 rfl rfl (aE (aC rfl) rfl rfl (op_subI (aC rfl) rfl rfl (by omega) (by omega) rfl (op_conv64 (aC rfl) (und_some Tryz.underlying3) Tryz.underlying24 rfl (show _=(((n- i:Nat)):Int)from by omega) rfl ?_)))))))
 refine op_gtr (aC rfl) rfl rfl rfl (aA (aB (s_26 (aO rfl (fun c69=>?_) (fun c69=>?_)))))
 ·refine At.seq fun _ s_27=>At.region (aD (aC rfl) rfl rfl (aD (aC rfl) rfl rfl (aD (aC rfl) rfl rfl (aD (aC rfl) rfl rfl (aA (aB (s_27 (At.ret (aJ ((aU (L1:= []) rfl (.tmp rfl (.tmp rfl (.tmp rfl (.tmp rfl .nil)))) rfl (.refl _) (.refl _) ?_)))))))))))
  exact⟨rfl,fun M hM=>by rw [hc,cutAt,if_pos (by omega)];rfl⟩
 refine At.skip (aB (s_25 (At.seq fun _ s_28=>At.region (aE (aC rfl) rfl rfl (aE (aC rfl) rfl rfl (aE (aC rfl) rfl rfl (aE (aC rfl) rfl rfl (op_convI (aC rfl) (und_some Tryz.underlying24) Tryz.underlying3 rfl (by omega) (by omega) rfl (bI (aC rfl) rfl rfl (by omega) (by omega) rfl (op_slice (aC rfl) se22 rfl (.some rfl (show _=(((i:Nat)):Int)from by omega)) (.some rfl (show _=(((i+m.toNat:Nat)):Int)from by omega)) .none (by omega) (by omega) (by omega) (by simp) rfl ?_))))))))))
 have s76:=h.part8 (lo:=i) (hi:=i+m.toNat) (m:=cap) (by omega) (by omega) (by omega) (by omega)
 have l76:=s76.len8
 refine aD (aC rfl) rfl rfl (aA (aB (s_28 (At.seq fun _ s_29=>At.seq fun _ s_30=>At.region (aE (aC rfl) rfl rfl (op_notP (aC rfl) rfl rfl (aE (aC rfl) rfl rfl (At.partP (d:=79) rfl (fun g79=>?_) (fun g79=>?_)))))))))
 ·refine aE (bF rfl rfl rfl rfl) rfl rfl (op_eql (bF rfl rfl rfl rfl) rfl rfl rfl (bN (aC rfl) rfl rfl rfl (aE (aC rfl) rfl rfl (At.partP (d:=83) rfl (fun g83=>?_) (fun g83=>?_)))))
  ·refine aE (bF rfl rfl rfl rfl) rfl rfl (op_idx1 (bF rfl rfl rfl rfl) se22 rfl rfl (by assumption) (show _=((0:Nat):Int)from rfl) (by omega) rfl ?_)
   refine bK (bF rfl rfl rfl rfl) sc5 rfl (by assumption) (by first|exact get8 (by omega)|exact get64 (by omega)|exact get32 (by omega)) (by first|exact aP|exact bM|exact mem2|exact mem3|exact mem4|exact mem5|exact mem6|exact mem7|exact mem8|exact mem9) rfl ?_
   refine op_lss (bF rfl rfl rfl rfl) rfl rfl rfl (bN (aC rfl) rfl rfl rfl (aA (aB (s_30 (aO rfl (fun c88=>?_) (fun c88=>?_))))))
   ·refine At.seq fun _ s_31=>At.region (aD (aC rfl) rfl rfl (aD (aC rfl) rfl rfl (aD (aC rfl) rfl rfl (aD (aC rfl) rfl rfl (aA (aB (s_31 (At.ret (aJ ((aU (L1:= []) rfl (.tmp rfl (.tmp rfl (.tmp rfl (.tmp rfl .nil)))) rfl (.refl _) (.refl _) ?_)))))))))))
    exact⟨rfl,fun M hM=>by rw [hc,cutAt,if_neg (by omega),if_neg (by omega),if_pos ⟨by omega,by rw [getD_part (by omega)]at c88;omega⟩];rfl⟩
   refine At.skip (aB (s_29 (At.seq fun _ s_32=>At.drawn [] [0,1,2,3,4,5,6,7,8,9,10,11] (by kernel_rfl) (by kernel_rfl) (aE (aR rfl rfl rfl (by kernel_rfl)) rfl rfl (aE (aR rfl rfl rfl (by kernel_rfl)) rfl rfl (aE (aR rfl rfl rfl (by kernel_rfl)) rfl rfl (aE (aR rfl rfl rfl (by kernel_rfl)) rfl rfl (aE (aR rfl rfl rfl (by kernel_rfl)) rfl rfl (op_convI (aR rfl rfl rfl (by kernel_rfl)) (und_some Tryz.underlying24) Tryz.underlying3 rfl (by omega) (by omega) rfl (bI (aR rfl rfl rfl (by kernel_rfl)) rfl rfl (by omega) (by omega) rfl (op_slice (aR rfl rfl rfl (by kernel_rfl)) se22 rfl (.some rfl (show _=(((i+m.toNat:Nat)):Int)from by omega)) .none .none (by omega) (by omega) (by omega) (by simp) rfl ?_)))))))))))
   refine aD (aR rfl rfl rfl (by kernel_rfl)) rfl rfl (aD (aR rfl rfl rfl (by kernel_rfl)) rfl rfl (aD (aR rfl rfl rfl (by kernel_rfl)) rfl rfl (aD (aR rfl rfl rfl (by kernel_rfl)) rfl rfl (At.oneNil (aB (s_32 (At.ret ((aU (L1:= []) rfl (.tmp rfl (.tmp rfl (.tmp rfl (.tmp rfl .nil)))) rfl (.refl _) (.refl _) (⟨rfl,fun M hM=>?_⟩))))))))))
   rw [getD_part (by omega)]at c88
   rw [hc,cutAt,if_neg (by omega),if_neg (by omega),if_neg (by omega)]
   have e:=hM.part8 (lo:=i) (hi:=i+m.toNat) (m:=cap) (by omega) (by omega) (by omega) (by omega)
   rw [show i+m.toNat- i=m.toNat by omega]at e⊢
   exact splv_mk (decide_eq_false (by omega)) e (hM.drop8 (by omega))
  refine aN rfl rfl rfl rfl rfl rfl rfl (aN rfl rfl rfl rfl rfl rfl rfl (aN rfl rfl rfl rfl rfl rfl rfl (aN rfl rfl rfl rfl rfl rfl rfl (op_pickF (aC rfl) rfl rfl rfl (aA (aB (s_30 (At.condF rfl (At.skip (aB (s_29 (At.seq fun _ s_33=>At.drawn [] [0,1,2,3,4,5,6,7,8,9,10,11] (by kernel_rfl) (by kernel_rfl) (aE (aR rfl rfl rfl (by kernel_rfl)) rfl rfl (aE (aR rfl rfl rfl (by kernel_rfl)) rfl rfl (aE (aR rfl rfl rfl (by kernel_rfl)) rfl rfl (aE (aR rfl rfl rfl (by kernel_rfl)) rfl rfl (aE (aR rfl rfl rfl (by kernel_rfl)) rfl rfl (op_convI (aR rfl rfl rfl (by kernel_rfl)) (und_some Tryz.underlying24) Tryz.underlying3 rfl (by omega) (by omega) rfl (bI (aR rfl rfl rfl (by kernel_rfl)) rfl rfl (by omega) (by omega) rfl (op_slice (aR rfl rfl rfl (by kernel_rfl)) se22 rfl (.some rfl (show _=(((i+m.toNat:Nat)):Int)from by omega)) .none .none (by omega) (by omega) (by omega) (by simp) rfl ?_))))))))))))))))))))
  refine aD (aR rfl rfl rfl (by kernel_rfl)) rfl rfl (aD (aR rfl rfl rfl (by kernel_rfl)) rfl rfl (aD (aR rfl rfl rfl (by kernel_rfl)) rfl rfl (aD (aR rfl rfl rfl (by kernel_rfl)) rfl rfl (At.oneNil (aB (s_33 (At.ret ((aU (L1:= []) rfl (.tmp rfl (.tmp rfl (.tmp rfl (.tmp rfl .nil)))) rfl (.refl _) (.refl _) (⟨rfl,fun M hM=>?_⟩))))))))))
  rw [hc,cutAt,if_neg (by omega),if_neg (by omega),if_neg (by omega)]
  have e:=hM.part8 (lo:=i) (hi:=i+m.toNat) (m:=cap) (by omega) (by omega) (by omega) (by omega)
  rw [show i+m.toNat- i=m.toNat by omega]at e⊢
  exact splv_mk (decide_eq_false (by omega)) e (hM.drop8 (by omega))
 refine aN rfl rfl rfl rfl rfl rfl rfl (aN rfl rfl rfl rfl rfl rfl rfl (op_pickF (aC rfl) rfl rfl rfl (aE (aC rfl) rfl rfl (aN rfl rfl rfl rfl rfl rfl rfl (aN rfl rfl rfl rfl rfl rfl rfl (aN rfl rfl rfl rfl rfl rfl rfl (aN rfl rfl rfl rfl rfl rfl rfl (op_pickF (aC rfl) rfl rfl rfl (aA (aB (s_30 (At.condF rfl (At.skip (aB (s_29 (At.seq fun _ s_34=>At.drawn [] [0,1,2,3,4,5,6,7,8,9,10,11] (by kernel_rfl) (by kernel_rfl) (aE (aR rfl rfl rfl (by kernel_rfl)) rfl rfl (aE (aR rfl rfl rfl (by kernel_rfl)) rfl rfl (aE (aR rfl rfl rfl (by kernel_rfl)) rfl rfl (aE (aR rfl rfl rfl (by kernel_rfl)) rfl rfl (aE (aR rfl rfl rfl (by kernel_rfl)) rfl rfl ?_)))))))))))))))))))))
 refine op_convI (aR rfl rfl rfl (by kernel_rfl)) (und_some Tryz.underlying24) Tryz.underlying3 rfl (by omega) (by omega) rfl (bI (aR rfl rfl rfl (by kernel_rfl)) rfl rfl (by omega) (by omega) rfl (op_slice (aR rfl rfl rfl (by kernel_rfl)) se22 rfl (.some rfl (show _=(((i+m.toNat:Nat)):Int)from by omega)) .none .none (by omega) (by omega) (by omega) (by simp) rfl ?_))
 refine aD (aR rfl rfl rfl (by kernel_rfl)) rfl rfl (aD (aR rfl rfl rfl (by kernel_rfl)) rfl rfl (aD (aR rfl rfl rfl (by kernel_rfl)) rfl rfl (aD (aR rfl rfl rfl (by kernel_rfl)) rfl rfl (At.oneNil (aB (s_34 (At.ret ((aU (L1:= []) rfl (.tmp rfl (.tmp rfl (.tmp rfl (.tmp rfl .nil)))) rfl (.refl _) (.refl _) (⟨rfl,fun M hM=>?_⟩))))))))))
 rw [hc,cutAt,if_neg (by omega),if_pos (by omega)]
 have e:=hM.part8 (lo:=i) (hi:=i+m.toNat) (m:=cap) (by omega) (by omega) (by omega) (by omega)
 rw [show i+m.toNat- i=m.toNat by omega]at e⊢
 exact splv_mk (decide_eq_true (by omega)) e (hM.drop8 (by omega))
theorem rSplit_none {N:Heaplet} {ao:Option Addr} {n cap:Nat} {b:List UInt8} (h:RSl N 1 ao n cap (u8s b)) (hn:n≤1099511627776) (hc:cutF b=none):
 Fn Tryz.prog 148 #[.slice ao n cap] [] [N] (fun v L=>v=.tuple #[.bool false,.slice none 0 0,.slice none 0 0,.int .i64 2]∧L= []):=
 (rSplit_f h hn).mono fun v L ⟨h1,h2⟩=>⟨by have:=h2 N h;rw [hc]at this;exact this,h1⟩
theorem rSplit_some {N:Heaplet} {ao:Option Addr} {n cap:Nat} {b p q:List UInt8} {l:Bool} (h:RSl N 1 ao n cap (u8s b)) (hn:n≤1099511627776) (hc:cutF b=some (l,p,q)):
 Fn Tryz.prog 148 #[.slice ao n cap] [] [N] (fun v L=> ∃a1 c1 a2 c2,v=.tuple #[.bool l,.slice a1 p.length c1,.slice a2 q.length c2,.int .i64 0]∧L= []∧RSl N 1 a1 p.length c1 (u8s p)∧ ∀M,RSl M 1 ao n cap (u8s b)→RSl M 1 a2 q.length c2 (u8s q)):=
 (rSplit_f h hn).mono fun v L ⟨h1,h2⟩=>by
  have h3:=h2 N h
  rw [hc]at h3
  obtain⟨a1,c1,a2,c2,rfl,h4,h5⟩:=h3
  refine⟨a1,c1,a2,c2,rfl,h1,h4,fun M hM=>?_⟩
  have h6:=h2 M hM
  rw [hc]at h6
  obtain⟨_,_,a2',c2',e,_,h7⟩:=h6
  simp only [Value.tuple.injEq,List.toArray_inj,Array.mk.injEq,List.cons.injEq,Value.slice.injEq,true_and,and_true]at e
  obtain⟨_,rfl,rfl⟩:=e
  exact h7
end Go.Proofs.YtjfagifjajielaaGreat
/- The reference's Decode; quarrylaw05.RlpDecode answers true. No condition but that bytes are not longer than a machine holds. -/
namespace Go.Proofs.YtjfagifjajielaaGreat
open Go Go.RowKit
theorem first_none {N:Heaplet} {ao:Option Addr} {n cap:Nat} {b:List UInt8} (h:RSl N 1 ao n cap (u8s b)) (hn:n≤1099511627776) (hc:cutF b=none) (k:Nat) (q:Int):
 Fn Tryz.prog 94 #[.slice ao n cap,.int .i64 q] [] [N] (DecP ao n cap b (decF k b)):=by
 have hd:decF k b=.error 2:=by cases k<;>simp [decF,hc]
 refine Fn.enter (vs:= [.slice ao n cap,.int .i64 q]) Tryz.func94 rfl rfl rfl ?_
 intro E R hR
 have h:=h.le (hR N (by simp))
 change At _ _ E [R] _
 refine At.seq fun _ s_1=>At.region (aS (aT rfl) ze91 rfl (fun N4 b4 B4=>?_))
 change Blk N4 b4 _ [.bool false,.slice none 0 0,.slice none 0 0]at B4
 refine aD (aC rfl) rfl rfl (aD (aC rfl) rfl rfl (aA (aB (s_1 (At.seq fun _ s_2=>At.region (aE (aC rfl) rfl rfl (aG (aT rfl) (.cons rfl .nil) (rSplit_none h hn hc) Tryz.func148 rfl rfl (by simp) rfl ?_)))))))
 rintro v17 L17 ⟨rfl,rfl⟩
 change At _ _ _ [N4,R] _
 refine aE (aC rfl) rfl rfl (aH (aC rfl) rfl rfl rfl (aH (aC rfl) rfl rfl rfl (aH (aC rfl) rfl rfl rfl (aH (aC rfl) rfl rfl rfl (aD (aC rfl) rfl rfl (aD (aC rfl) rfl rfl (aD (aC rfl) rfl rfl (aD (aC rfl) rfl rfl (aA (aB (s_2 (At.seq fun _ s_3=>At.seq fun _ s_4=>At.region (aE (aC rfl) rfl rfl (op_neq (aC rfl) rfl rfl rfl (aA (aB (s_4 (At.condT rfl (At.seq fun _ s_5=>At.region ?_)))))))))))))))))))
 refine op_build (out:= [.bool false,.slice none 0 0,.slice none 0 0]) (aC rfl) ze91 pl91 .nil rfl rfl (aE (aC rfl) rfl rfl (aI (nxl rfl) sz91 rfl rfl rfl rfl rfl B4 (by simp) sel0 (fun N4 B4=>?_)))
 simp only [setL,List.set]at B4
 refine aD (aC rfl) rfl rfl (aD (aC rfl) rfl rfl (aA (aB (s_5 (At.ret (aJ ((aU (L1:= []) rfl (.cell rfl (aZ (ds:= [_,_,_]) ag91 B4 rfl rfl aP) (.tmp rfl (.tmp rfl .nil))) rfl (.cons _ (.refl _)) (.refl _) ?_))))))))
 exact .inr ⟨2,hd,rfl,rfl,by decide⟩
theorem first_text {N:Heaplet} {ao:Option Addr} {n cap:Nat} {b p r:List UInt8} (h:RSl N 1 ao n cap (u8s b)) (hn:n≤1099511627776) (hc:cutF b=some (false,p,r)) (k:Nat) (q:Int):
 Fn Tryz.prog 94 #[.slice ao n cap,.int .i64 q] [] [N] (DecP ao n cap b (decF k b)):=by
 have hd:decF k b=.ok (.mk false p [],r):=by cases k<;>simp [decF,hc]
 have hlen:=h.len8
 have hcl:=(cutF_len hc).1
 refine Fn.enter (vs:= [.slice ao n cap,.int .i64 q]) Tryz.func94 rfl rfl rfl ?_
 intro E R hR
 have h:=h.le (hR N (by simp))
 change At _ _ E [R] _
 refine At.seq fun _ s_1=>At.region (aS (aT rfl) ze91 rfl (fun N4 b4 B4=>?_))
 change Blk N4 b4 _ [.bool false,.slice none 0 0,.slice none 0 0]at B4
 refine aD (aC rfl) rfl rfl (aD (aC rfl) rfl rfl (aA (aB (s_1 (At.seq fun _ s_2=>At.region (aE (aC rfl) rfl rfl (aG (aT rfl) (.cons rfl .nil) (rSplit_some h hn hc) Tryz.func148 rfl rfl (by simp) rfl ?_)))))))
 rintro v17 L17 ⟨a1,c1,a2,c2,rfl,rfl,h1,h2⟩
 change At _ _ _ [N4,R] _
 refine aE (aC rfl) rfl rfl (aH (aC rfl) rfl rfl rfl (aH (aC rfl) rfl rfl rfl (aH (aC rfl) rfl rfl rfl (aH (aC rfl) rfl rfl rfl (aD (aC rfl) rfl rfl (aD (aC rfl) rfl rfl (aD (aC rfl) rfl rfl (aD (aC rfl) rfl rfl (aA (aB (s_2 (At.seq fun _ s_3=>At.seq fun _ s_4=>At.region (aE (aC rfl) rfl rfl (op_neq (aC rfl) rfl rfl rfl (aA (aB (s_4 (At.condF rfl (At.skip (aB (s_3 ?_)))))))))))))))))))))
 refine At.seq fun _ s_5=>At.seq fun _ s_6=>At.region (aE (aC rfl) rfl rfl (op_not (aC rfl) rfl rfl (aA (aB (s_6 (At.condT rfl (At.seq fun _ s_7=>At.region (op_lit (aT rfl) Tryz.underlying22 ze5 sz5 .nil rfl rfl (by simp [Value.cells]) rfl rfl rfl (fun N28 a28 r28=>?_)))))))))
 simp only [flatV,List.flatMap_cons,List.flatMap_nil,Value.cells,List.append_nil,List.cons_append,List.nil_append]at r28
 have s28:=r28.rsl
 refine aE (aC rfl) rfl rfl ?_
 refine op_append (nxl rfl) Tryz.underlying22 Tryz.underlying22 te5 rfl rfl r28 (by assumption) (by first|exact aP|exact bM|exact mem2|exact mem3|exact mem4|exact mem5|exact mem6|exact mem7|exact mem8|exact mem9) (by first|exact one_u8s _|exact one_u64s _|exact one_u32s _|(intro u hu;simp at hu;subst hu;rfl)) (by omega) (by omega) sel0 rfl (fun N30 a30 p30 r30=>?_)
 have s30:=r30.rsl
 refine op_build (out:= [.bool false,_,.slice none 0 0]) (aC rfl) ze91 pl91 (.cons rfl .nil) rfl rfl (aE (aC rfl) rfl rfl (aI (nxl rfl) sz91 rfl rfl rfl rfl rfl B4 (by simp) sel1 (fun N4 B4=>?_)))
 simp only [setL,List.set]at B4
 refine aD (aC rfl) rfl rfl (aD (aC rfl) rfl rfl (aA (aB (s_7 (At.ret (aJ ((aU (L1:= [N30]) rfl (.cell rfl (aZ (ds:= [_,_,_]) ag91 B4 rfl rfl aP) (.tmp rfl (.tmp rfl .nil))) rfl (.cons _ (.refl _)) (.refl _) ?_))))))))
 rw [List.nil_append,Nat.zero_add]at s30
 refine .inl ⟨_,_,N30,⟨false,a30,p.length,p30,none,0,0⟩,a2,c2,hd,?_,rfl,ItN.mk s30 (xs:= []) (RSl.nil _ _) rfl,h2⟩
 simp only [Nat.zero_add]
theorem first_deep {N:Heaplet} {ao:Option Addr} {n cap:Nat} {b p r:List UInt8} (h:RSl N 1 ao n cap (u8s b)) (hn:n≤1099511627776) (hc:cutF b=some (true,p,r)):
 Fn Tryz.prog 94 #[.slice ao n cap,.int .i64 1024] [] [N] (DecP ao n cap b (decF 0 b)):=by
 have hd:decF 0 b=.error 7:=by simp [decF,hc]
 refine Fn.enter (vs:= [.slice ao n cap,.int .i64 1024]) Tryz.func94 rfl rfl rfl ?_
 intro E R hR
 have h:=h.le (hR N (by simp))
 change At _ _ E [R] _
 refine At.seq fun _ s_1=>At.region (aS (aT rfl) ze91 rfl (fun N4 b4 B4=>?_))
 change Blk N4 b4 _ [.bool false,.slice none 0 0,.slice none 0 0]at B4
 refine aD (aC rfl) rfl rfl (aD (aC rfl) rfl rfl (aA (aB (s_1 (At.seq fun _ s_2=>At.region (aE (aC rfl) rfl rfl (aG (aT rfl) (.cons rfl .nil) (rSplit_some h hn hc) Tryz.func148 rfl rfl (by simp) rfl ?_)))))))
 rintro v17 L17 ⟨a1,c1,a2,c2,rfl,rfl,h1,h2⟩
 change At _ _ _ [N4,R] _
 refine aE (aC rfl) rfl rfl (aH (aC rfl) rfl rfl rfl (aH (aC rfl) rfl rfl rfl (aH (aC rfl) rfl rfl rfl (aH (aC rfl) rfl rfl rfl (aD (aC rfl) rfl rfl (aD (aC rfl) rfl rfl (aD (aC rfl) rfl rfl (aD (aC rfl) rfl rfl (aA (aB (s_2 (At.seq fun _ s_3=>At.seq fun _ s_4=>At.region (aE (aC rfl) rfl rfl (op_neq (aC rfl) rfl rfl rfl (aA (aB (s_4 (At.condF rfl (At.skip (aB (s_3 ?_)))))))))))))))))))))
 refine At.seq fun _ s_5=>At.seq fun _ s_6=>At.region (aE (aC rfl) rfl rfl (op_not (aC rfl) rfl rfl (aA (aB (s_6 (At.condF rfl (At.skip (aB (s_5 (At.seq fun _ s_7=>At.seq fun _ s_8=>At.region (aE (aC rfl) rfl rfl (op_eql (aC rfl) rfl rfl rfl (aA (aB (s_8 (aO rfl (fun c34=>?_) (fun c34=>?_)))))))))))))))))
 rotate_left
 ·exact absurd rfl c34
 refine At.seq fun _ s_9=>At.region (op_build (out:= [.bool false,.slice none 0 0,.slice none 0 0]) (aC rfl) ze91 pl91 .nil rfl rfl (aI (nxl rfl) sz91 rfl rfl rfl rfl rfl B4 (by simp) sel0 (fun N4 B4=>?_)))
 simp only [setL,List.set]at B4
 refine aD (aC rfl) rfl rfl (aD (aC rfl) rfl rfl (aA (aB (s_9 (At.ret (aJ ((aU (L1:= []) rfl (.cell rfl (aZ (ds:= [_,_,_]) ag91 B4 rfl rfl aP) (.tmp rfl (.tmp rfl .nil))) rfl (.cons _ (.refl _)) (.refl _) ?_))))))))
 exact .inr ⟨7,hd,rfl,rfl,by decide⟩
theorem first_its {N:Heaplet} {ao:Option Addr} {n cap:Nat} {b p r:List UInt8} (h:RSl N 1 ao n cap (u8s b)) (hn:n≤1099511627776) (hc:cutF b=some (true,p,r)) (k:Nat) (q:Int) (hq:q+k+1=1024) (hk0:0≤q)
 (ih: ∀(N:Heaplet) (ao:Option Addr) (n cap:Nat) (b:List UInt8) (q:Int),RSl N 1 ao n cap (u8s b)→n≤1099511627776→q+k=1024→0≤q→Fn Tryz.prog 94 #[.slice ao n cap,.int .i64 q] [] [N] (DecP ao n cap b (decF k b))):
 Fn Tryz.prog 94 #[.slice ao n cap,.int .i64 q] [] [N] (DecP ao n cap b (decF (k+1) b)):=by
 have hlen:=h.len8
 have hcl:=(cutF_len hc).1
 refine Fn.enter (vs:= [.slice ao n cap,.int .i64 q]) Tryz.func94 rfl rfl rfl ?_
 intro E R hR
 have h:=h.le (hR N (by simp))
 change At _ _ E [R] _
 refine At.seq fun _ s_1=>At.region (aS (aT rfl) ze91 rfl (fun N4 b4 B4=>?_))
 change Blk N4 b4 _ [.bool false,.slice none 0 0,.slice none 0 0]at B4
 refine aD (aC rfl) rfl rfl (aD (aC rfl) rfl rfl (aA (aB (s_1 (At.seq fun _ s_2=>At.region (aE (aC rfl) rfl rfl (aG (aT rfl) (.cons rfl .nil) (rSplit_some h hn hc) Tryz.func148 rfl rfl (by simp) rfl ?_)))))))
 rintro v17 L17 ⟨a1,c1,a2,c2,rfl,rfl,h1,h2⟩
 change At _ _ _ [N4,R] _
 refine aE (aC rfl) rfl rfl (aH (aC rfl) rfl rfl rfl (aH (aC rfl) rfl rfl rfl (aH (aC rfl) rfl rfl rfl (aH (aC rfl) rfl rfl rfl (aD (aC rfl) rfl rfl (aD (aC rfl) rfl rfl (aD (aC rfl) rfl rfl (aD (aC rfl) rfl rfl (aA (aB (s_2 (At.seq fun _ s_3=>At.seq fun _ s_4=>At.region (aE (aC rfl) rfl rfl (op_neq (aC rfl) rfl rfl rfl (aA (aB (s_4 (At.condF rfl (At.skip (aB (s_3 ?_)))))))))))))))))))))
 refine At.seq fun _ s_5=>At.seq fun _ s_6=>At.region (aE (aC rfl) rfl rfl (op_not (aC rfl) rfl rfl (aA (aB (s_6 (At.condF rfl (At.skip (aB (s_5 (At.seq fun _ s_7=>At.seq fun _ s_8=>At.region (aE (aC rfl) rfl rfl (op_eql (aC rfl) rfl rfl rfl (aA (aB (s_8 (aO rfl (fun c34=>?_) (fun c34=>?_)))))))))))))))))
 ·exfalso;omega
 refine At.skip (aB (s_7 (At.seq fun _ s_9=>At.region (op_build (out:= [_,.slice none 0 0,.slice none 0 0]) (aC rfl) ze91 pl91 (.cons rfl .nil) rfl rfl (aS (aT rfl) ze91 rfl (fun N11 b11 B11=>?_))))))
 change Blk N11 b11 _ [.bool false,.slice none 0 0,.slice none 0 0]at B11
 refine aI (nxl rfl) sz91 rfl rfl rfl rfl rfl B11 (by simp) sel0 (fun N11 B11=>?_)
 simp only [setL,List.set]at B11
 refine aA (aB (s_9 (At.seq fun _ s_10=>At.block (At.empty (At.empty (At.perm sel4 (At.perm sel1 (At.perm sel2 (At.perm sel3 (At.perm sel4 ?_))))))))))
 refine At.loop (fun fr_ hp_ ms_=> ∃(p':List UInt8) (ac:Option Addr) (m cc:Nat) (done:List It) (xs:List IV) (ai:Option Addr) (ni ci:Nat) (N11 Nr Ns:Heaplet),fr_= [(0,.slice ao n cap),(1,.int .i64 q),(4,.pointer (some ⟨b4,0,none⟩)),(8,.slice ac m cc),(9,.slice a2 r.length c2),(11,.pointer (some ⟨b11,0,none⟩))]∧hp_= [N4,N11,Nr,Ns,R]∧m=ms_∧(RSl R 1 ac m cc (u8s p'))∧(Blk N11 b11 91 [.bool true,.slice none 0 0,.slice ai ni ci])∧(Row Nr 91 3 ai ni ci (cellsI xs))∧(xs.length=ni)∧(ItsN Ns done xs)∧(itF (decF k) p=exMap (done++ ·) (itF (decF k) p'))∧(ni+m≤p.length)) ?_ (.refl _) ⟨p,a1,p.length,c1,[],[],none,0,0,N11,nilH,nilH,rfl,rfl,rfl,h1,B11,Row.nil _ _ _,rfl,rfl,by cases itF (decF k) p<;>rfl,by omega⟩ ?_
 ·exact .cons (by first|exact a6 rfl (by omega)|rfl) (.cons (by first|exact a6 rfl (by omega)|rfl) (.cons (by first|exact a6 rfl (by omega)|rfl) (.cons (by first|exact a6 rfl (by omega)|rfl) (.cons (by first|exact a6 rfl (by omega)|rfl) (.cons (by first|exact a6 rfl (by omega)|rfl) .nil)))))
 rintro _ _ _ ⟨p',ac,m,cc,done,xs,ai,ni,ci,N11,Nr,Ns,rfl,rfl,rfl,sc,B11,rr,hni,hs,H,hcnt⟩
 have hlp:=sc.len8
 have sr:=rr.rsl
 refine At.seq fun _ s_11=>At.seq fun _ s_12=>At.region (aE (aC rfl) rfl rfl (a7 (aC rfl) se22 rfl rfl (op_gtr (aC rfl) rfl rfl rfl (aA (aB (s_12 (aO rfl (fun c39=>?_) (fun c39=>?_))))))))
 ·refine At.skip (aB (s_11 (At.block (At.seq fun _ s_13=>At.region (aE (aC rfl) rfl rfl (aE (aC rfl) rfl rfl (bI (aC rfl) rfl rfl (by omega) (by omega) rfl (aG (aT rfl) (.cons rfl (.cons rfl .nil)) (ih R ac m cc p' (q+1) sc (by omega) (by omega) (by omega)) Tryz.func94 rfl rfl (by simp) rfl ?_))))))))
  rintro v44 L44 (⟨t,q',M44,x,aq,cq,he,rfl,rfl,hi,hqq⟩|⟨e,he,rfl,rfl,hne⟩)
  ·change At _ _ _ [M44,N4,N11,Nr,Ns,R] _
   refine aE (aC rfl) rfl rfl (aH (aC rfl) rfl rfl rfl (aH (aC rfl) rfl rfl rfl (aH (aC rfl) rfl rfl rfl (aS (aT rfl) ze91 rfl (fun N12 b12 B12=>?_)))))
   change Blk N12 b12 _ [.bool false,.slice none 0 0,.slice none 0 0]at B12
   refine aI (nxl rfl) sz91 rfl rfl rfl rfl rfl B12 (by simp) sel0 (fun N12 B12=>?_)
   simp only [setL,List.set]at B12
   refine aD (aC rfl) rfl rfl (aD (aC rfl) rfl rfl (aA (aB (s_13 (At.seq fun _ s_14=>At.seq fun _ s_15=>At.region (aE (aC rfl) rfl rfl (op_neq (aC rfl) rfl rfl rfl (aA (aB (s_15 (At.condF rfl (At.skip (aB (s_14 (At.seq fun _ s_16=>At.region (aF (aC rfl) fl91_2 rfl rfl (aL (aC rfl) sc89 rfl B11 (by first|rfl) mem3 rfl ?_)))))))))))))))))
   refine aQ (ds:= [_,_,_]) (aC rfl) ag91 rfl B12 rfl rfl aP rfl (op_lit (aT rfl) Tryz.underlying89 ze91 sz91 (.cons rfl .nil) rfl rfl (by simp [Value.cells]) rfl rfl rfl (fun N55 a55 r55=>?_))
   simp only [flatV,List.flatMap_cons,List.flatMap_nil,Value.cells,List.append_nil,List.cons_append,List.nil_append]at r55
   have s55:=r55.rsl
   refine op_append (nxl rfl) Tryz.underlying89 Tryz.underlying89 te91 rfl rfl rr (by assumption) (by first|exact aP|exact bM|exact mem2|exact mem3|exact mem4|exact mem5|exact mem6|exact mem7|exact mem8|exact mem9) (by intro u hu;simp at hu;rcases hu with rfl|rfl|rfl<;>rfl) (by omega) (by omega) bE rfl (fun N56 a56 p56 r56=>?_)
   have s56:=r56.rsl
   refine aF (aC rfl) fl91_2 rfl rfl (aI (nxl rfl) sz89 rfl rfl rfl rfl rfl B11 (by simp) bE (fun N11 B11=>?_))
   simp only [setL,List.set]at B11
   refine aA (aB (s_16 (At.region (aE (aC rfl) rfl rfl (aD (aC rfl) rfl rfl (aA (bC (aB (At.perm sel7 (At.perm bO (At.perm bE (At.perm bE (At.perm bE (At.perm bE (At.perm bO (At.perm sel7 (At.merge (fun hap=>At.sub (L':= [(join2 Ns M44),N11,N56,N4,R]) (.cons_cons _ (.cons_cons _ (.cons_cons _ (.cons _ (.cons _ (.cons_cons _ (.cons_cons _ (.slnil)))))))) (At.perm sel4 (At.perm sel1 (At.perm sel3 ?_)))))))))))))))))))))
   refine At.perm sel3 (At.perm sel4 ?_)
   refine At.back ?_ (.refl _) ⟨q',aq,q'.length,cq,done++ [t],xs++ [x],a56,ni+1,p56,N11,N56,join2 Ns M44,rfl,rfl,rfl,hqq R sc,B11,by rw [cellsI,List.flatMap_append];exact r56,by simp [hni],(hs.le join2_left).snoc (hi.le (join2_right hap)),by rw [H,itF_ok (fun b t q h=>decF_lt h) (by omega) he,exMap_map];congr 1;funext l;simp,by have:=decF_lt he;omega⟩ ?_
   ·exact .cons (by first|exact a6 rfl (by omega)|rfl) (.cons (by first|exact a6 rfl (by omega)|rfl) (.cons (by first|exact a6 rfl (by omega)|rfl) (.cons (by first|exact a6 rfl (by omega)|rfl) (.cons (by first|exact a6 rfl (by omega)|rfl) (.cons (by first|exact a6 rfl (by omega)|rfl) .nil)))))
   ·exact(by have:=decF_lt he;omega)
  change At _ _ _ [N4,N11,Nr,Ns,R] _
  refine aE (aC rfl) rfl rfl (aH (aC rfl) rfl rfl rfl (aH (aC rfl) rfl rfl rfl (aH (aC rfl) rfl rfl rfl (aS (aT rfl) ze91 rfl (fun N12 b12 B12=>?_)))))
  change Blk N12 b12 _ [.bool false,.slice none 0 0,.slice none 0 0]at B12
  refine aI (nxl rfl) sz91 rfl rfl rfl rfl rfl B12 (by simp) sel0 (fun N12 B12=>?_)
  simp only [setL,List.set]at B12
  refine aD (aC rfl) rfl rfl (aD (aC rfl) rfl rfl (aA (aB (s_13 (At.seq fun _ s_17=>At.seq fun _ s_18=>At.region (aE (aC rfl) rfl rfl (op_neq (aC rfl) rfl rfl rfl (aA (aB (s_18 (aO rfl (fun c49=>?_) (fun c49=>?_))))))))))))
  rotate_left
  ·exfalso;omega
  refine At.seq fun _ s_19=>At.region (op_build (out:= [.bool false,.slice none 0 0,.slice none 0 0]) (aC rfl) ze91 pl91 .nil rfl rfl (aE (aC rfl) rfl rfl (aI (nxl rfl) sz91 rfl rfl rfl rfl rfl B4 (by simp) sel1 (fun N4 B4=>?_))))
  simp only [setL,List.set]at B4
  refine aD (aC rfl) rfl rfl (aD (aC rfl) rfl rfl (aA (aB (s_19 (At.ret (aJ (bP (aJ (bP (aJ ((At.sub (L':= [N4,R]) (.cons_cons _ (.cons _ (.cons _ (.cons _ (.cons _ (.cons_cons _ (.slnil))))))) (aU (L1:= []) rfl (.cell rfl (aZ (ds:= [_,_,_]) ag91 B4 rfl rfl aP) (.tmp rfl (.tmp rfl .nil))) rfl (.cons _ (.refl _)) (.refl _) ?_)))))))))))))
  exact .inr ⟨e,by simp [decF,hc,H,itF_error (show 0<p'.length by omega) he,exMap],rfl,rfl,hne⟩
 refine At.exit (aM (aM (At.inHit (aB (s_10 (At.seq fun _ s_20=>At.region (aQ (ds:= [_,_,_]) (aC rfl) ag91 rfl B11 rfl rfl bM rfl (aE (aC rfl) rfl rfl (aI (nxl rfl) sz91 rfl rfl rfl rfl rfl B4 (by simp) sel0 (fun N4 B4=>?_))))))))))
 simp only [setL,List.set]at B4
 refine aD (aC rfl) rfl rfl (aD (aC rfl) rfl rfl (aA (aB (s_20 (At.ret ((At.perm sel4 (At.perm sel2 (At.perm sel2 (At.perm sel4 (At.perm sel4 (At.merge (fun hap=>At.sub (L':= [(join2 Nr Ns),N4,R]) (.cons_cons _ (.cons_cons _ (.cons _ (.cons_cons _ (.slnil))))) (At.perm sel2 (At.perm sel1 (At.perm sel2 (aU (L1:= [(join2 Nr Ns)]) rfl (.cell rfl (aZ (ds:= [_,_,_]) ag91 B4 rfl rfl aP) (.tmp rfl (.tmp rfl .nil))) rfl (.cons _ (.refl _)) (.refl _) ?_)))))))))))))))))
 have hp0:p'= []:=List.eq_nil_of_length_eq_zero (by omega)
 subst hp0
 refine .inl ⟨.mk true [] done,r,join2 Nr Ns,⟨true,none,0,0,ai,ni,ci⟩,a2,c2,?_,rfl,rfl,ItN.mk (RSl.nil _ _) (sr.le join2_left) (hs.le (join2_right hap)),h2⟩
 simp [decF,hc,H,itF_nil,exMap]
theorem first_f (k:Nat): ∀(N:Heaplet) (ao:Option Addr) (n cap:Nat) (b:List UInt8) (q:Int),RSl N 1 ao n cap (u8s b)→n≤1099511627776→q+k=1024→0≤q→Fn Tryz.prog 94 #[.slice ao n cap,.int .i64 q] [] [N] (DecP ao n cap b (decF k b)):=by
 induction k with
 |zero=>
  intro N ao n cap b q h hn hq h0
  obtain rfl:q=1024:=by omega
  match hc:cutF b with
  |none=>exact first_none h hn hc 0 _
  |some (false,p,r)=>exact first_text h hn hc 0 _
  |some (true,p,r)=>exact first_deep h hn hc
 |succ k ih=>
  intro N ao n cap b q h hn hq h0
  match hc:cutF b with
  |none=>exact first_none h hn hc _ _
  |some (false,p,r)=>exact first_text h hn hc _ _
  |some (true,p,r)=>exact first_its h hn hc k q (by omega) h0 ih
theorem rDecode_f {N:Heaplet} {ao:Option Addr} {n cap:Nat} {b:List UInt8} (h:RSl N 1 ao n cap (u8s b)) (hn:n≤1099511627776):
 Fn Tryz.prog 36 #[.slice ao n cap] [] [N] (DecodeP (decodeF b)):=by
 refine Fn.enter (vs:= [.slice ao n cap]) Tryz.func36 rfl rfl rfl ?_
 intro E R hR
 have h:=h.le (hR N (by simp))
 change At _ _ E [R] _
 refine At.seq fun _ s_1=>At.region (aS (aT rfl) ze91 rfl (fun N2 b2 B2=>?_))
 change Blk N2 b2 _ [.bool false,.slice none 0 0,.slice none 0 0]at B2
 refine aD (aC rfl) rfl rfl (aA (aB (s_1 (At.seq fun _ s_2=>At.region (aE (aC rfl) rfl rfl (aG (aT rfl) (.cons rfl (.cons rfl .nil)) (first_f 1024 R ao n cap b 0 h hn (by omega) (by omega)) Tryz.func94 rfl rfl (by simp) rfl ?_))))))
 rintro v9 L9 (⟨t,q,M9,x,aq,cq,he,rfl,rfl,hi,hq⟩|⟨e,he,rfl,rfl,hne⟩)
 ·change At _ _ _ [M9,N2,R] _
  refine aE (aC rfl) rfl rfl (aH (aC rfl) rfl rfl rfl (aH (aC rfl) rfl rfl rfl (aH (aC rfl) rfl rfl rfl (aS (aT rfl) ze91 rfl (fun N4 b4 B4=>?_)))))
  change Blk N4 b4 _ [.bool false,.slice none 0 0,.slice none 0 0]at B4
  refine aI (nxl rfl) sz91 rfl rfl rfl rfl rfl B4 (by simp) sel0 (fun N4 B4=>?_)
  simp only [setL,List.set]at B4
  refine aD (aC rfl) rfl rfl (aD (aC rfl) rfl rfl (aA (aB (s_2 (At.seq fun _ s_3=>At.seq fun _ s_4=>At.region (aE (aC rfl) rfl rfl (op_neq (aC rfl) rfl rfl rfl (aA (aB (s_4 (At.condF rfl (At.skip (aB (s_3 (At.seq fun _ s_5=>At.seq fun _ s_6=>At.region (aE (aC rfl) rfl rfl (a7 (aC rfl) se22 rfl rfl (op_gtr (aC rfl) rfl rfl rfl (aA ?_)))))))))))))))))))
  refine aB (s_6 (aO rfl (fun c19=>?_) (fun c19=>?_)))
  ·refine At.seq fun _ s_7=>At.region (op_build (out:= [.bool false,.slice none 0 0,.slice none 0 0]) (aC rfl) ze91 pl91 .nil rfl rfl (aI (nxl rfl) sz91 rfl rfl rfl rfl rfl B2 (by simp) sel2 (fun N2 B2=>?_)))
   simp only [setL,List.set]at B2
   refine aD (aC rfl) rfl rfl (aA (aB (s_7 (At.ret (aJ ((At.sub (L':= [N2,R]) (.cons_cons _ (.cons _ (.cons _ (.cons_cons _ (.slnil))))) (aU (L1:= []) rfl (.cell rfl (aZ (ds:= [_,_,_]) ag91 B2 rfl rfl aP) (.tmp rfl .nil)) rfl (.cons _ (.refl _)) (.refl _) ?_))))))))
   exact .inr ⟨2,by rw [decodeF,he];simp only;rw [if_neg (by omega)],rfl,rfl,by decide⟩
  refine At.skip (aB (s_5 (At.seq fun _ s_8=>At.region (aQ (ds:= [_,_,_]) (aC rfl) ag91 rfl B4 rfl rfl aP rfl (aI (nxl rfl) sz91 rfl rfl rfl rfl rfl B2 (by simp) sel2 (fun N2 B2=>?_))))))
  simp only [setL,List.set]at B2
  refine aD (aC rfl) rfl rfl (aA (aB (s_8 (At.ret ((At.sub (L':= [N2,M9,R]) (.cons_cons _ (.cons _ (.cons_cons _ (.cons_cons _ (.slnil))))) (aU (L1:= [M9]) rfl (.cell rfl (aZ (ds:= [_,_,_]) ag91 B2 rfl rfl aP) (.tmp rfl .nil)) rfl (.cons _ (.refl _)) (.refl _) ?_)))))))
  exact .inl ⟨t,M9,x,by rw [decodeF,he];simp only;rw [if_pos (by omega)],rfl,rfl,hi⟩
 change At _ _ _ [N2,R] _
 refine aE (aC rfl) rfl rfl (aH (aC rfl) rfl rfl rfl (aH (aC rfl) rfl rfl rfl (aH (aC rfl) rfl rfl rfl (aS (aT rfl) ze91 rfl (fun N4 b4 B4=>?_)))))
 change Blk N4 b4 _ [.bool false,.slice none 0 0,.slice none 0 0]at B4
 refine aI (nxl rfl) sz91 rfl rfl rfl rfl rfl B4 (by simp) sel0 (fun N4 B4=>?_)
 simp only [setL,List.set]at B4
 refine aD (aC rfl) rfl rfl (aD (aC rfl) rfl rfl (aA (aB (s_2 (At.seq fun _ s_9=>At.seq fun _ s_10=>At.region (aE (aC rfl) rfl rfl (op_neq (aC rfl) rfl rfl rfl (aA (aB (s_10 (aO rfl (fun c14=>?_) (fun c14=>?_))))))))))))
 rotate_left
 ·exfalso;omega
 refine At.seq fun _ s_11=>At.region (op_build (out:= [.bool false,.slice none 0 0,.slice none 0 0]) (aC rfl) ze91 pl91 .nil rfl rfl (aE (aC rfl) rfl rfl (aI (nxl rfl) sz91 rfl rfl rfl rfl rfl B2 (by simp) sel1 (fun N2 B2=>?_))))
 simp only [setL,List.set]at B2
 refine aD (aC rfl) rfl rfl (aA (aB (s_11 (At.ret (aJ ((At.sub (L':= [N2,R]) (.cons_cons _ (.cons _ (.cons_cons _ (.slnil)))) (aU (L1:= []) rfl (.cell rfl (aZ (ds:= [_,_,_]) ag91 B2 rfl rfl aP) (.tmp rfl .nil)) rfl (.cons _ (.refl _)) (.refl _) ?_))))))))
 exact .inr ⟨e,by rw [decodeF,he],rfl,rfl,hne⟩
end Go.Proofs.YtjfagifjajielaaGreat
/- The engine: a cell read that lies in some of the parts of the memory, it is not told in which. For whatever program. No condition. -/
namespace Go.Proofs.YtjfagifjajielaaGreat
open Go Go.RowKit
section
variable {P : Program} {n : Nat} {l : List (Nat × Value)} {E : World} {L L1 Ls Ns : List Heaplet} {o : Oper} {X Y : Act → World → Prop} {N : Heaplet}
variable {d : Nat} {ty t t' e : TypeId} {pos : String} {aft : Array Edge} {g : Option (Nat × Bool)} {v : Value} {x y z : Operand} {k : IntKind} {p q : Int} {size len cap : Nat} {ao : Option Addr} {xs : List Value} {b off j : Nat}
theorem At.ex {K:Act→World→Prop} {φ:Heaplet→Prop} (hφ: ∀J:Heaplet,(∀N∈Ns,N.le J)→φ J) (hN: ∀N∈Ns,N∈L) (h: ∀J,φ J→At n l E L K):At n l E L K:=fun a w hf hw=>
 h (whole w) (hφ (whole w) fun N hn=>hw.sub N (hN N hn)) a w hf hw
end
end Go.Proofs.YtjfagifjajielaaGreat
/- The engine, append to a slice without room: a new row, whatever memory the old one lies in. For whatever program. Condition: the old slice is full. -/
namespace Go.Proofs.YtjfagifjajielaaGreat
open Go Go.RowKit
section
variable {P : Program} {n : Nat} {l : List (Nat × Value)} {E : World} {L Ls : List Heaplet} {X Y : Act → World → Prop} {d : Nat} {t t' ty e : TypeId} {x y : Operand}
end
end Go.Proofs.YtjfagifjajielaaGreat
/- The engine: many rows in one part of the memory, told apart by their blocks; stores and appends that leave the others as they are. For whatever program. No condition. -/
namespace Go.Proofs.YtjfagifjajielaaGreat
open Go Go.RowKit
/-- N' is N but for this block. -/
def Off (ao:Option Addr) (N N':Heaplet):Prop:= ∃b,ao=some ⟨b,0,none⟩∧ ∀k,k≠b→N' k=N k
/-- What an append leaves of the memory: in its own block, or in a new one. -/
def App (N N':Heaplet) (ao:Option Addr) (cap:Nat) (ao2:Option Addr) (cap2 need:Nat):Prop:=
 (ao2=ao∧cap2=cap∧need≤cap∧Off ao N N')∨(N.le N'∧ ∃b,ao2=some ⟨b,0,none⟩∧N b=none)
theorem Row.le {N M:Heaplet} (hl:N.le M) {e:TypeId} {size:Nat} {ao:Option Addr} {n cap:Nat} {xs:List Value} (h:Row N e size ao n cap xs):Row M e size ao n cap xs:=by
 obtain⟨h1,h2,h3,h4⟩:=h
 refine⟨h1,h2,h3,?_⟩
 rcases h4 with h4|⟨b,cur,ha,hN,hs,ht⟩
 ·exact .inl h4
 ·exact .inr ⟨b,cur,ha,hl _ _ hN,hs,ht⟩
/-- The block of a row. -/
theorem Row.block {N:Heaplet} {e:TypeId} {size:Nat} {ao:Option Addr} {n cap:Nat} {xs:List Value} (h:Row N e size ao n cap xs):(ao=none∧n=0∧cap=0)∨ ∃b o,ao=some ⟨b,0,none⟩∧N b=some o:=by
 obtain⟨_,_,_,h4⟩:=h
 rcases h4 with h4|⟨b,cur,ha,hN,_⟩
 ·exact .inl h4
 ·exact .inr ⟨b,_,ha,hN⟩
/-- A row is read off its block alone. -/
theorem Row.off {N N':Heaplet} {e:TypeId} {size:Nat} {ao p:Option Addr} {n cap:Nat} {xs:List Value} (h:Row N e size ao n cap xs) (ho:Off p N N') (hne:ao=none∨ao≠p):Row N' e size ao n cap xs:=by
 obtain⟨b,rfl,hk⟩:=ho
 obtain⟨h1,h2,h3,h4⟩:=h
 refine⟨h1,h2,h3,?_⟩
 rcases h4 with h4|⟨b',cur,ha,hN,hs,ht⟩
 ·exact .inl h4
 ·refine .inr ⟨b',cur,ha,?_,hs,ht⟩
  rw [hk b' fun e=>?_]
  ·exact hN
  ·subst e
   rcases hne with h|h
   ·rw [h]at ha;cases ha
   ·exact h ha
/-- The first part of a row. -/
theorem Row.first {N:Heaplet} {e:TypeId} {size:Nat} {ao:Option Addr} {n m cap:Nat} {xs ys:List Value} (h:Row N e size ao n cap xs) (hm:m≤n) (hy:xs.take (m*size)=ys) (ha:ao≠none):Row N e size ao m cap ys:=by
 obtain⟨h1,h2,h3,h4⟩:=h
 rcases h4 with ⟨h4,_⟩|⟨b',cur,hb,hN,hs,ht⟩
 ·exact absurd h4 ha
 ·have hle:m*size≤n*size:=Nat.mul_le_mul_right _ hm
  refine⟨by rw [←hy,List.length_take,h1];exact Nat.min_eq_left hle,Nat.le_trans hm h2,h3,.inr ⟨b',cur,hb,hN,hs,?_⟩⟩
  rw [←hy, ←ht,List.take_take,Nat.min_eq_left hle]
section
variable {P : Program} {n : Nat} {l : List (Nat × Value)} {E : World} {L L1 Ls : List Heaplet} {X Y : Act → World → Prop} {d : Nat} {t t' ty e : TypeId} {x y : Operand}
end
end Go.Proofs.YtjfagifjajielaaGreat
