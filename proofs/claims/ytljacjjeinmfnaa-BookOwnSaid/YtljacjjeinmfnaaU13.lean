/- Several texts in one: see the remarks ahead of each part. No condition but those told there. -/
import Derived.Test.YtljacjjeinmfnaaU12
import Derived.Test.YtljacjjeinmfnaaU9
import Derived.Test.YtljacjjeinmfnaaU4
set_option linter.unusedSimpArgs false
set_option linter.unusedVariables false
/- Layer 14: receipts written by the program. Condition: sizes. -/
namespace Go.Proofs.Ytljacjjeinmfnaa
open Go Go.RowKit
set_option maxRecDepth 100000
/-- A receipt's cells. -/
def rcC (k:Int) (rv:Value) (ok:Bool) (gas:UInt64) (bl:List UInt8) (lv:Value):List Value:=.int .i64 k::rv::.bool ok::.int .u64 (gas.toNat:Int)::(u8s bl++ [lv])
def firstI (root:List UInt8) (ok:Bool):It:=if root.length=0∧ok=true then itS (bytesOf 1)else itS root
def rcIt (root:List UInt8) (ok:Bool) (gas:UInt64) (bl:List UInt8) (gs:List LogM):It:=itL [firstI root ok,itS (bytesOf gas.toNat),itS bl,itL (gs.map logIt)]
def kindB (k:Int):List UInt8:=if 0<k then [UInt8.ofNat k.toNat]else []
def rcB (k:Int) (root:List UInt8) (ok:Bool) (gas:UInt64) (bl:List UInt8) (gs:List LogM):List UInt8:=kindB k++(rcIt root ok gas bl gs).form
section
variable {k : Int} {rv lv : Value} {ok : Bool} {gas : UInt64} {bl : List UInt8}
end
/-- Bytes in new memory, and no error. -/
def OutP (b:List UInt8) (v:Value) (L:List Heaplet):Prop:= ∃M a c,v=.tuple #[.slice a b.length c,.int .i64 0]∧L= [M]∧RSl M 1 a b.length c (u8s b)
section
variable {N : Heaplet} {k : Int} {ra la : Option Addr} {rn rc ln lc : Nat} {root bl : List UInt8} {ok : Bool} {gas : UInt64} {gs : List LogM} {xs : List LV}
end
end Go.Proofs.Ytljacjjeinmfnaa
/- Layer 14: withdrawals; receipts written by the reference. Condition: sizes. -/
namespace Go.Proofs.Ytljacjjeinmfnaa
open Go Go.RowKit
set_option maxRecDepth 100000
/-- A withdrawal's cells, and its item. -/
def wdC (i v:UInt64) (a:List UInt8) (m:UInt64):List Value:=.int .u64 (i.toNat:Int)::.int .u64 (v.toNat:Int)::(u8s a++ [.int .u64 (m.toNat:Int)])
def wdIt (i v:UInt64) (a:List UInt8) (m:UInt64):It:=itL [itS (bytesOf i.toNat),itS (bytesOf v.toNat),itS a,itS (bytesOf m.toNat)]
section
variable {i v m : UInt64} {a : List UInt8}
theorem wdC_len (ha:a.length=20):(wdC i v a m).length=23:=by
 have:(u8s a).length=20:=by rw [bN,ha]
 simp only [wdC,List.length_cons,List.length_append,this,List.length_nil]
theorem wdC_one:(wdC i v a m).all (·.oneCell')=true:=by
 refine List.all_eq_true.2 fun u hu=>?_
 rcases List.mem_cons.1 hu with rfl|hu
 ·rfl
 rcases List.mem_cons.1 hu with rfl|hu
 ·rfl
 rcases List.mem_append.1 hu with hu|hu
 ·exact one_u8s _ u hu
 ·obtain rfl:=List.mem_singleton.1 hu;rfl
end
/-- Bytes in new memory. -/
def BytP2 (b:List UInt8) (v:Value) (L:List Heaplet):Prop:= ∃M a c,v=.slice a b.length c∧L= [M]∧RSl M 1 a b.length c (u8s b)
section
variable {N : Heaplet} {k : Int} {ao ra la : Option Addr} {n cap rn rc ln lc : Nat} {root bl : List UInt8} {ok : Bool} {gas : UInt64} {gs : List LogM} {xs : List LV} {its : List It}
end
end Go.Proofs.Ytljacjjeinmfnaa
/- The parts of a struct's cells, told by their lengths. No condition. -/
namespace Go.Proofs.Ytljacjjeinmfnaa
open Go Go.RowKit
theorem flatten_len (ps:List (List Value)):ps.flatten.length=(ps.map List.length).sum:=by rw [List.length_flatten]
theorem part_cut {ps:List (List Value)} : ∀ {j:Nat} {p:List Value},ps[j]? =some p→ps.flatten=(ps.take j).flatten++(p++(ps.drop (j+1)).flatten):=by
 intro j p h
 obtain⟨hj,rfl⟩:=List.getElem?_eq_some_iff.1 h
 conv=>lhs;rw [←List.take_append_drop j ps,List.flatten_append,List.drop_eq_getElem_cons hj,List.flatten_cons]
theorem part_len {ps:List (List Value)} {ls:List Nat} (hl:ps.map List.length=ls) (j:Nat):(ps.take j).flatten.length=(ls.take j).sum:=by
 rw [flatten_len,List.map_take,hl]
/-- A part. -/
theorem part_get {ps:List (List Value)} {ls:List Nat} {j o k:Nat} {p:List Value} (hl:ps.map List.length=ls) (hp:ps[j]? =some p) (ho:(ls.take j).sum=o) (hk:p.length=k):(ps.flatten.drop o).take k=p:=by
 rw [part_cut hp,List.drop_left' ((part_len hl j).trans ho),List.take_left' hk]
/-- A part of one cell. -/
theorem part_val {ps:List (List Value)} {ls:List Nat} {j o:Nat} {v:Value} (hl:ps.map List.length=ls) (hp:ps[j]? =some [v]) (ho:(ls.take j).sum=o):ps.flatten[o]? =some v:=by
 rw [part_cut hp]
 have h1:=(part_len hl j).trans ho
 rw [List.getElem?_append_right (by omega),h1,Nat.sub_self];rfl
/-- A part is set. -/
theorem part_set {ps:List (List Value)} {ls:List Nat} {j o:Nat} {p q:List Value} (hl:ps.map List.length=ls) (hp:ps[j]? =some p) (ho:(ls.take j).sum=o) (hq:q.length=p.length):setL ps.flatten o q=(ps.set j q).flatten:=by
 have h1:=(part_len hl j).trans ho
 obtain⟨hj,_⟩:=List.getElem?_eq_some_iff.1 hp
 have h2:=setL_append q (ps.take j).flatten p (ps.drop (j+1)).flatten hq.symm
 rw [h1,List.append_assoc, ←part_cut hp]at h2
 rw [h2,List.set_eq_take_append_cons_drop,if_pos hj,List.flatten_append,List.flatten_cons,List.append_assoc]
theorem part_all {ps:List (List Value)} (h: ∀p∈ps, ∀u∈p,u.oneCell'=true):ps.flatten.all (·.oneCell')=true:=by
 refine List.all_eq_true.2 fun u hu=>?_
 obtain⟨p,hp,hu⟩:=List.mem_flatten.1 hu
 exact h p hp u hu
theorem ItsN.take {J:Heaplet} : ∀ {its:List It} {xs:List IV} (k:Nat),ItsN J its xs→ItsN J (its.take k) (xs.take k)
 | [],xs,k,h=>by
  have h:xs= []:=h
  subst h
  simp only [List.take_nil];exact ItsN_nil
 |t::ts,xs,0,h=>by simp only [List.take_zero];exact ItsN_nil
 |t::ts,xs,k+1,h=>by
  obtain⟨x,ys,rfl,h1,h2⟩:=h
  simp only [List.take_succ_cons]
  exact ItsN_cons h1 (ItsN.take k h2)
end Go.Proofs.Ytljacjjeinmfnaa
/- Layer 14: a list's parts are read one by one. No condition. -/
namespace Go.Proofs.Ytljacjjeinmfnaa
open Go Go.RowKit
set_option maxRecDepth 100000
/-- What is still to be read. -/
def PartsN (Np NI:Heaplet) (bp:Nat) (zs:List IV) (its:List It):Prop:= ∃ao n cap,Blk Np bp 159 [.slice ao n cap]∧RSl NI 3 ao n cap (cellsI zs)∧ItsN NI its zs
def strE:It→Except Nat (List UInt8)
 |.mk false bs _=>.ok bs
 |.mk true _ _=>.error 2
def listE:It→Except Nat (List It)
 |.mk false _ _=>.error 2
 |.mk true _ its=>.ok its
def fixE (k:Nat) (t:It):Except Nat (List UInt8):=match strE t with
 |.ok b=>if b.length=k then .ok b else .error 2
 |.error e=>.error e
def wordE (t:It):Except Nat Nat:=match strE t with
 |.ok b=>if numE b=0 then .ok (be b)else .error (numE b)
 |.error e=>.error e
def smallE (t:It):Except Nat Nat:=match wordE t with
 |.ok x=>if x<2^64 then .ok x else .error 3
 |.error e=>.error e
theorem cellsI_len (xs:List IV):(cellsI xs).length=xs.length*3:=flat_len IV.cells fun y _=>rfl
section
variable {Np NI : Heaplet} {bp n cap k : Nat} {ao : Option Addr} {t : It} {ts : List It} {x z : IV} {xs zs : List IV}
theorem FNext_0 (B:Blk Np bp 159 [.slice ao n cap]) (hs:RSl NI 3 ao n cap (cellsI (x::xs))):Fn Try.prog 74 #[.pointer (some ⟨bp,0,none⟩)] [Np] [NI] (fun v L=> ∃Np,v=IV.val x∧L= [Np]∧Blk Np bp 159 [.slice (sadr ao 1 cap 3) (n- 1) (cap- 1)]):=by
 have hn:=hs.1
 rw [cellsI_len,List.length_cons]at hn
 have hc:=hs.2.1
 have hsome:ao.isSome=true:=by
  obtain⟨bA,oA,hao,_⟩:=hs.2.2.2 (by omega)
  rw [hao];rfl
 refine Fn.enter (vs:= [.pointer (some ⟨bp,0,none⟩)]) Try.func74 rfl rfl rfl ?_
 intro E R hR
 have hs:=hs.le (hR NI (by simp))
 have Bp:=B
 change At _ _ E [Np,R] _
 refine At.seq fun _ s_1=>At.region (aU (aV rfl) ze92 rfl (fun N2 b2 B2=>?_))
 change Blk N2 b2 _ [.bool false,.slice none 0 0,.slice none 0 0]at B2
 refine aA (aB (s_1 (At.seq fun _ s_2=>At.region (aD (aC rfl) rfl rfl (aK (aC rfl) rfl rfl (aF (aC rfl) fl159_0 rfl rfl (aH (aC rfl) sc90 rfl Bp (by first|rfl) bC rfl ?_)))))))
 refine op_idxE (aC rfl) se90 rfl rfl hs (show _=(((0:Nat)):Int)from by omega) (by omega) rfl ?_
 refine op_loadAggE (ds:= [.bool x.l,.slice x.ab x.nb x.cb,.slice x.ai x.ni x.ci]) (aC rfl) ag92 rfl hs (by rfl) (by rfl) (by omega) (by first|exact aN|exact bC|exact bV|exact mem3|exact mem4|exact mem5|exact mem6|exact mem7|exact mem8|exact mem9) rfl ?_
 refine aU (aV rfl) ze92 rfl (fun N3 b3 B3=>?_)
 change Blk N3 b3 _ [.bool false,.slice none 0 0,.slice none 0 0]at B3
 refine aG (nxl rfl) sz92 rfl rfl rfl rfl rfl B3 (by simp) sel0 (fun N3 B3=>?_)
 simp only [setL,List.set]at B3
 refine aA (aB (s_2 (At.seq fun _ s_3=>At.region (aD (aC rfl) rfl rfl (aD (aC rfl) rfl rfl (aK (aC rfl) rfl rfl (aF (aC rfl) fl159_0 rfl rfl (aH (aC rfl) sc90 rfl Bp (by first|rfl) bV rfl ?_))))))))
 refine op_slice (aC rfl) se90 rfl (.some rfl (show _=(((1:Nat)):Int)from by omega)) .none .none (by omega) (by omega) (by omega) (by simp) rfl ?_
 refine aK (aC rfl) rfl rfl (aF (aC rfl) fl159_0 rfl rfl (aG (nxl rfl) sz90 rfl rfl rfl rfl rfl Bp (by simp) aX (fun Np Bp=>?_)))
 simp only [setL,List.set]at Bp
 refine aA (aB (s_3 (At.seq fun _ s_4=>At.region (aL (ds:= [_,_,_]) (aC rfl) ag92 rfl B3 rfl rfl bC rfl (aG (nxl rfl) sz92 rfl rfl rfl rfl rfl B2 (by simp) aX (fun N2 B2=>?_))))))
 simp only [setL,List.set]at B2
 refine aA (aB (s_4 (At.ret ((At.sub (L':= [N2,Np,R]) (.cons_cons _ (.cons_cons _ (.cons _ (.cons_cons _ (.slnil))))) (aZ (L1:= [Np]) rfl (.cell rfl (bH (ds:= [_,_,_]) ag92 B2 rfl rfl aN) .nil) (.cons _ (.refl _)) (.refl _) ?_))))))
 exact⟨Np,rfl,rfl,Bp⟩
/-- The next part. -/
theorem FNext_p (h:PartsN Np NI bp (z::zs) (t::ts)):Fn Try.prog 74 #[.pointer (some ⟨bp,0,none⟩)] [Np] [NI] (fun v L=> ∃Np,v=IV.val z∧L= [Np]∧PartsN Np NI bp zs ts∧ItN NI t z):=by
 obtain⟨ao,n,cap,B,hs,hi⟩:=h
 obtain⟨x,ys,e,hx,hy⟩:=hi
 obtain⟨rfl,rfl⟩:=List.cons.inj e
 have hn:=hs.1
 rw [cellsI_len,List.length_cons]at hn
 refine(FNext_0 B hs).mono fun v L hp=>?_
 obtain⟨Mp,rfl,rfl,B'⟩:=hp
 exact⟨Mp,rfl,rfl,⟨_,_,_,B',hs.drop (lo:=1) (by omega),hy⟩,hx⟩
/-- There is a place for each part. -/
theorem PartsN.cons {its:List It} (h:PartsN Np NI bp zs (t::its)): ∃y ys,zs=y::ys:=by
 obtain⟨ao,n,cap,B,hs,hi⟩:=h
 obtain⟨x,ys,e,_⟩:=hi
 exact⟨x,ys,e⟩
theorem PartsN.nil (h:PartsN Np NI bp zs []):zs= []:=by
 obtain⟨ao,n,cap,B,hs,hi⟩:=h
 exact hi
theorem strE_of {x:IV} (h:ItN NI t x):(x.l=true∧strE t=.error 2)∨(x.l=false∧ ∃b,strE t=.ok b∧x.nb=b.length∧RSl NI 1 x.ab x.nb x.cb (u8s b)):=by
 obtain⟨l,bs,its⟩:=t
 simp only [ItN]at h
 obtain⟨h1,h2,_⟩:=h
 cases l with
 |true=>exact .inl ⟨h1,rfl⟩
 |false=>exact .inr ⟨h1,bs,rfl,h2.len8.symm,h2⟩
theorem FMust_any (b:Bool):FnE Try.prog 66 #[.bool b] [] [] (fun v L=>v=.tuple #[]∧L= []∧b=true) (fun v L=>v=gaveV 2∧L= []∧b=false):=by
 cases b
 ·exact FMust_f.mono (fun _ _ h=>h.elim) (fun v L h=>⟨h.1,h.2,rfl⟩)
 ·exact(FMust_t.mono (fun v L h=>⟨h.1,h.2,rfl⟩)).x
/-- A byte string. -/
theorem FBytes_x (h:PartsN Np NI bp (z::zs) (t::ts)):FnE Try.prog 107 #[.pointer (some ⟨bp,0,none⟩)] [Np] [NI] (fun v L=> ∃Np a c b,v=.slice a b.length c∧L= [Np]∧strE t=.ok b∧PartsN Np NI bp zs ts∧RSl NI 1 a b.length c (u8s b)∧z.ab=a∧z.nb=b.length∧z.cb=c) (fun v L=> ∃e:Nat,v=gaveV e∧L= []∧strE t=.error e):=by
 have h1:Fn Try.prog 74 #[.pointer (some ⟨bp,0,none⟩)] [Np] [NI] (fun v L=> ∃Np,v=IV.val z∧L= [Np]∧PartsN Np NI bp zs ts∧ItN NI t z):=FNext_p h
 refine FnE.enter (vs:= [.pointer (some ⟨bp,0,none⟩)]) Try.func107 rfl rfl rfl ?_
 intro E R hR
 have h1:=h1.liftB (hR NI (by simp))
 change At _ _ E [Np,R] _
 refine At.seq fun _ s_1=>At.region (aE (aC rfl) rfl rfl (aA (aB (s_1 (At.seq fun _ s_2=>At.region (aD (aC rfl) rfl rfl (op_call (nxl rfl) (.cons rfl .nil) (h1) (F:= [R]) Try.func74 rfl rfl (.refl _) (by simp) rfl ?_)))))))
 rintro v5 L5 ⟨Mp,rfl,rfl,hp,hx⟩
 change At _ _ _ [Mp,R] _
 change At _ ((5,.agg #[.bool z.l,.slice z.ab z.nb z.cb,.slice z.ai z.ni z.ci])::_) _ _ _;have hq:=strE_of hx
 refine aU (aV rfl) ze92 rfl (fun N3 b3 B3=>?_)
 change Blk N3 b3 _ [.bool false,.slice none 0 0,.slice none 0 0]at B3
 refine aG (nxl rfl) sz92 rfl rfl rfl rfl rfl B3 (by simp) sel0 (fun N3 B3=>?_)
 simp only [setL,List.set]at B3
 refine aA (aB (s_2 (At.seq fun _ s_3=>At.region (aF (aC rfl) fl92_0 rfl rfl (aH (aC rfl) sc4 rfl B3 (by first|rfl) aN rfl ?_)))))
 refine op_not (aC rfl) rfl rfl (aQ (.cons rfl .nil) (FMust_any (!z.l)) (F:= [N3,Mp,R]) Try.func66 rfl rfl (.refl _) (by simp) rfl ?_ ?_)
 ·rintro v9 L9 ⟨rfl,rfl,hb⟩
  change At _ _ _ [N3,Mp,R] _
  refine aI ((At.sub (L':= [R]) (.cons _ (.cons _ (.cons_cons _ (.slnil)))) (a0 (L1:= []) (.refl _) (.refl _) ?_)))
  have hl:z.l=true:=by simpa using hb
  rcases hq with ⟨_,e⟩|⟨h,_⟩
  ·exact⟨2,rfl,rfl,e⟩
  ·rw [hl]at h;cases h
 rintro v9 L9 ⟨rfl,rfl,hb⟩
 change At _ _ _ [N3,Mp,R] _
 refine aA (aB (s_3 (At.seq fun _ s_4=>At.region (aF (aC rfl) fl92_1 rfl rfl (aH (aC rfl) sc27 rfl B3 (by first|rfl) aN rfl ?_)))))
 refine aE (aC rfl) rfl rfl (aA (aB (s_4 (At.ret ((At.retX (At.sub (L':= [Mp,R]) (.cons _ (.cons_cons _ (.cons_cons _ (.slnil)))) (aZ (L1:= [Mp]) rfl (.tmp rfl .nil) (.refl _) (.refl _) ?_))))))))
 have hl:z.l=false:=by simpa using hb
 rcases hq with ⟨h,_⟩|⟨_,b,e,hnb,hr⟩
 ·rw [hl]at h;cases h
 ·rw [hnb]at hr⊢
  exact⟨Mp,z.ab,z.cb,b,rfl,rfl,e,hp,hr,rfl,rfl,rfl⟩
theorem FBytes_p (h:PartsN Np NI bp (z::zs) (t::ts)):FnE Try.prog 107 #[.pointer (some ⟨bp,0,none⟩)] [Np] [NI] (fun v L=> ∃Np a c b,v=.slice a b.length c∧L= [Np]∧strE t=.ok b∧PartsN Np NI bp zs ts∧RSl NI 1 a b.length c (u8s b)) (fun v L=> ∃e:Nat,v=gaveV e∧L= []∧strE t=.error e):=
 (FBytes_x h).mono (fun v L ⟨Np,a,c,b,h1,h2,h3,h4,h5,_⟩=>⟨Np,a,c,b,h1,h2,h3,h4,h5⟩) (fun _ _ h=>h)
end
end Go.Proofs.Ytljacjjeinmfnaa
/- Layer 14: parts of a fixed length, numbers. No condition. -/
namespace Go.Proofs.Ytljacjjeinmfnaa
open Go Go.RowKit
set_option maxRecDepth 100000
theorem FnE.liftB {P:Program} {f:FuncId} {args:Array Value} {L0:List Heaplet} {N R:Heaplet} {Post Pan:Value→List Heaplet→Prop} (h:FnE P f args L0 [N] Post Pan) (hl:N.le R):FnE P f args L0 [R] Post Pan:=fun E w F hp hr=>
 h E w F hp fun M hM=>by rw [List.mem_singleton.1 hM];exact Heaplet.le_trans hl (hr R (by simp))
section
variable {Np NI : Heaplet} {bp k : Nat} {t : It} {ts : List It} {z : IV} {zs : List IV}
theorem FCheck_any (e:Nat):FnE Try.prog 65 #[.int .i64 (e:Int)] [] [] (fun v L=>v=.tuple #[]∧L= []∧e=0) (fun v L=>v=gaveV e∧L= []∧e≠0):=by
 by_cases h:e=0
 ·subst h
  exact(FCheck_0.mono (fun v L h=>⟨h.1,h.2,rfl⟩)).x
 ·exact(FCheck_e (e:=(e:Int)) (by omega)).mono (fun _ _ h=>h.elim) (fun v L k=>⟨k.1,k.2,h⟩)
theorem FFixed_p (h:PartsN Np NI bp (z::zs) (t::ts)):FnE Try.prog 112 #[.pointer (some ⟨bp,0,none⟩),.int .i64 (k:Int)] [Np] [NI] (fun v L=> ∃Np a c b,v=.slice a b.length c∧L= [Np]∧fixE k t=.ok b∧b.length=k∧PartsN Np NI bp zs ts∧RSl NI 1 a b.length c (u8s b)) (fun v L=> ∃e:Nat,v=gaveV e∧L= []∧fixE k t=.error e):=by
 have h1:=FBytes_p h
 refine FnE.enter (vs:= [.pointer (some ⟨bp,0,none⟩),.int .i64 (k:Int)]) Try.func112 rfl rfl rfl ?_
 intro E R hR
 have h1:=h1.liftB (hR NI (by simp))
 change At _ _ E [Np,R] _
 refine At.seq fun _ s_1=>At.region (aE (aC rfl) rfl rfl (aA (aB (s_1 (At.seq fun _ s_2=>At.region (aD (aC rfl) rfl rfl (aQ (.cons rfl .nil) (h1) (F:= [R]) Try.func107 rfl rfl (.refl _) (by simp) rfl ?_ ?_)))))))
 ·rintro v7 L7 ⟨e,rfl,rfl,he⟩
  change At _ _ _ [R] _
  refine aI ((a0 (L1:= []) (.refl _) (.refl _) ?_))
  exact⟨e,rfl,rfl,by simp only [fixE,he]⟩
 rintro v7 L7 ⟨Mp,a,c,b,rfl,rfl,e,hp,hr⟩
 change At _ _ _ [Mp,R] _
 refine aE (aC rfl) rfl rfl (aA (aB (s_2 (At.seq fun _ s_3=>At.region (aD (aC rfl) rfl rfl (bP (aC rfl) se27 rfl rfl (aD (aC rfl) rfl rfl (op_eql (aC rfl) rfl rfl rfl (aQ (.cons rfl .nil) (FMust_any (decide ((b.length:Int)=(k:Int)))) (F:= [Mp,R]) Try.func66 rfl rfl (.refl _) (by simp) rfl ?_ ?_)))))))))
 ·rintro v12 L12 ⟨rfl,rfl,hb⟩
  change At _ _ _ [Mp,R] _
  refine aI ((At.sub (L':= [R]) (.cons _ (.cons_cons _ (.slnil))) (a0 (L1:= []) (.refl _) (.refl _) ?_)))
  have hb:=of_decide_eq_false hb
  exact⟨2,rfl,rfl,by simp only [fixE,e];rw [if_neg (by omega)]⟩
 rintro v12 L12 ⟨rfl,rfl,hb⟩
 change At _ _ _ [Mp,R] _
 refine aA (aB (s_3 (At.seq fun _ s_4=>At.region (aD (aC rfl) rfl rfl (aE (aC rfl) rfl rfl (aA (aB (s_4 (At.ret ((At.retX (aZ (L1:= [Mp]) rfl (.tmp rfl .nil) (.refl _) (.refl _) ?_))))))))))))
 have hb:=of_decide_eq_true hb
 exact⟨Mp,a,c,b,rfl,rfl,by simp only [fixE,e];rw [if_pos (by omega)],by omega,hp,hr⟩
theorem FHash_p (h:PartsN Np NI bp (z::zs) (t::ts)):FnE Try.prog 111 #[.pointer (some ⟨bp,0,none⟩)] [Np] [NI] (fun v L=> ∃Np b,v=.agg (u8s b).toArray∧L= [Np]∧fixE 32 t=.ok b∧b.length=32∧PartsN Np NI bp zs ts) (fun v L=> ∃e:Nat,v=gaveV e∧L= []∧fixE 32 t=.error e):=by
 have h1:=FFixed_p (k:=32) h
 refine FnE.enter (vs:= [.pointer (some ⟨bp,0,none⟩)]) Try.func111 rfl rfl rfl ?_
 intro E R hR
 have hNR:=hR NI (by simp)
 have h1:=h1.liftB hNR
 change At _ _ E [Np,R] _
 refine At.seq fun _ s_1=>At.region (aU (aV rfl) ze73 rfl (fun N2 b2 B2=>?_))
 change Blk N2 b2 _ [.int .u8 0,.int .u8 0,.int .u8 0,.int .u8 0,.int .u8 0,.int .u8 0,.int .u8 0,.int .u8 0,.int .u8 0,.int .u8 0,.int .u8 0,.int .u8 0,.int .u8 0,.int .u8 0,.int .u8 0,.int .u8 0,.int .u8 0,.int .u8 0,.int .u8 0,.int .u8 0,.int .u8 0,.int .u8 0,.int .u8 0,.int .u8 0,.int .u8 0,.int .u8 0,.int .u8 0,.int .u8 0,.int .u8 0,.int .u8 0,.int .u8 0,.int .u8 0]at B2
 refine aA (aB (s_1 (At.seq fun _ s_2=>At.region (aD (aC rfl) rfl rfl (At.perm aX (At.perm bZ (At.perm aX (aQ (.cons rfl (.cons rfl .nil)) (h1) (F:= [N2,R]) Try.func112 rfl rfl (.refl _) (by simp) rfl ?_ ?_))))))))
 ·rintro v4 L4 ⟨e,rfl,rfl,he⟩
  change At _ _ _ [N2,R] _
  refine aI ((At.sub (L':= [R]) (.cons _ (.cons_cons _ (.slnil))) (a0 (L1:= []) (.refl _) (.refl _) ?_)))
  exact⟨e,rfl,rfl,he⟩
 rintro v4 L4 ⟨Mp,a,c,b,rfl,rfl,e,hbl,hp,hr⟩
 change At _ _ _ [Mp,N2,R] _
 have hrR:=hr.le hNR
 obtain⟨bT,oT,hto,hrT⟩:=hrR.2.2.2 (by omega)
 subst hto
 refine op_toArr (aC rfl) ae73 rfl (by omega) rfl ?_
 refine op_loadAgg (aC rfl) ag73 rfl hrT (by rw [bN];exact hbl) bV rfl ?_
 refine aG (nxl rfl) sz73 rfl rfl rfl (by rw [bN];exact hbl) (all8x2 _) B2 (by rw [bN,hbl];exact Nat.le_refl _) bZ (fun N2 B2=>?_)
 rw [bD (by rw [bN,hbl];rfl)]at B2
 refine aA (aB (s_2 (At.ret ((At.retX (aZ (L1:= [Mp]) rfl (.cell rfl (bH (ds:=u8s b) ag73 B2 (tk_all (by rw [bN,hbl])) (by rw [bN,hbl]) aN) .nil) (.cons _ (.refl _)) (.refl _) ?_))))))
 exact⟨Mp,b,rfl,rfl,e,hbl,hp⟩
theorem FAddr_p (h:PartsN Np NI bp (z::zs) (t::ts)):FnE Try.prog 81 #[.pointer (some ⟨bp,0,none⟩)] [Np] [NI] (fun v L=> ∃Np b,v=.agg (u8s b).toArray∧L= [Np]∧fixE 20 t=.ok b∧b.length=20∧PartsN Np NI bp zs ts) (fun v L=> ∃e:Nat,v=gaveV e∧L= []∧fixE 20 t=.error e):=by
 have h1:=FFixed_p (k:=20) h
 refine FnE.enter (vs:= [.pointer (some ⟨bp,0,none⟩)]) Try.func81 rfl rfl rfl ?_
 intro E R hR
 have hNR:=hR NI (by simp)
 have h1:=h1.liftB hNR
 change At _ _ E [Np,R] _
 refine At.seq fun _ s_1=>At.region (aU (aV rfl) ze23 rfl (fun N2 b2 B2=>?_))
 change Blk N2 b2 _ [.int .u8 0,.int .u8 0,.int .u8 0,.int .u8 0,.int .u8 0,.int .u8 0,.int .u8 0,.int .u8 0,.int .u8 0,.int .u8 0,.int .u8 0,.int .u8 0,.int .u8 0,.int .u8 0,.int .u8 0,.int .u8 0,.int .u8 0,.int .u8 0,.int .u8 0,.int .u8 0]at B2
 refine aA (aB (s_1 (At.seq fun _ s_2=>At.region (aD (aC rfl) rfl rfl (At.perm aX (At.perm bZ (At.perm aX (aQ (.cons rfl (.cons rfl .nil)) (h1) (F:= [N2,R]) Try.func112 rfl rfl (.refl _) (by simp) rfl ?_ ?_))))))))
 ·rintro v4 L4 ⟨e,rfl,rfl,he⟩
  change At _ _ _ [N2,R] _
  refine aI ((At.sub (L':= [R]) (.cons _ (.cons_cons _ (.slnil))) (a0 (L1:= []) (.refl _) (.refl _) ?_)))
  exact⟨e,rfl,rfl,he⟩
 rintro v4 L4 ⟨Mp,a,c,b,rfl,rfl,e,hbl,hp,hr⟩
 change At _ _ _ [Mp,N2,R] _
 have hrR:=hr.le hNR
 obtain⟨bT,oT,hto,hrT⟩:=hrR.2.2.2 (by omega)
 subst hto
 refine op_toArr (aC rfl) ae23 rfl (by omega) rfl ?_
 refine op_loadAgg (aC rfl) ag23 rfl hrT (by rw [bN];exact hbl) bV rfl ?_
 refine aG (nxl rfl) sz23 rfl rfl rfl (by rw [bN];exact hbl) (all8x2 _) B2 (by rw [bN,hbl];exact Nat.le_refl _) bZ (fun N2 B2=>?_)
 rw [bD (by rw [bN,hbl];rfl)]at B2
 refine aA (aB (s_2 (At.ret ((At.retX (aZ (L1:= [Mp]) rfl (.cell rfl (bH (ds:=u8s b) ag23 B2 (tk_all (by rw [bN,hbl])) (by rw [bN,hbl]) aN) .nil) (.cons _ (.refl _)) (.refl _) ?_))))))
 exact⟨Mp,b,rfl,rfl,e,hbl,hp⟩
theorem FWord_p (h:PartsN Np NI bp (z::zs) (t::ts)):FnE Try.prog 105 #[.pointer (some ⟨bp,0,none⟩)] [Np] [NI] (fun v L=> ∃Np x,v=wo x∧L= [Np]∧wordE t=.ok x∧x<WW∧PartsN Np NI bp zs ts) (fun v L=> ∃e:Nat,v=gaveV e∧L= []∧wordE t=.error e):=by
 have h1:=FBytes_p h
 refine FnE.enter (vs:= [.pointer (some ⟨bp,0,none⟩)]) Try.func105 rfl rfl rfl ?_
 intro E R hR
 have hNR:=hR NI (by simp)
 have h1:=h1.liftB hNR
 change At _ _ E [Np,R] _
 refine At.seq fun _ s_1=>At.region (aU (aV rfl) ze26 rfl (fun N2 b2 B2=>?_))
 change Blk N2 b2 _ [.int .u64 0,.int .u64 0,.int .u64 0,.int .u64 0]at B2
 refine aA (aB (s_1 (At.seq fun _ s_2=>At.region (aD (aC rfl) rfl rfl (At.perm aX (At.perm bZ (At.perm aX (aQ (.cons rfl .nil) (h1) (F:= [N2,R]) Try.func107 rfl rfl (.refl _) (by simp) rfl ?_ ?_))))))))
 ·rintro v7 L7 ⟨e,rfl,rfl,he⟩
  change At _ _ _ [N2,R] _
  refine aI ((At.sub (L':= [R]) (.cons _ (.cons_cons _ (.slnil))) (a0 (L1:= []) (.refl _) (.refl _) ?_)))
  exact⟨e,rfl,rfl,by simp only [wordE,he]⟩
 rintro v7 L7 ⟨Mp,a,c,b,rfl,rfl,e,hp,hr⟩
 change At _ _ _ [Mp,N2,R] _
 refine aR (aV rfl) (.cons rfl .nil) (Number_f (hr.le hNR)) Try.func125 rfl rfl (by simp) rfl ?_
 rintro v8 L8 ⟨wa,wb,wc,wd,rfl,rfl,hv⟩
 change At _ _ _ [Mp,N2,R] _
 refine aD (aC rfl) rfl rfl (aM (aC rfl) rfl rfl rfl (aM (aC rfl) rfl rfl rfl (aU (aV rfl) ze26 rfl (fun N3 b3 B3=>?_))))
 change Blk N3 b3 _ [.int .u64 0,.int .u64 0,.int .u64 0,.int .u64 0]at B3
 refine aG (nxl rfl) sz26 rfl rfl rfl rfl rfl B3 (by simp) sel0 (fun N3 B3=>?_)
 simp only [setL,List.set]at B3
 refine aE (aC rfl) rfl rfl (aA (aB (s_2 (At.seq fun _ s_3=>At.region (aD (aC rfl) rfl rfl (aQ (.cons rfl .nil) (FCheck_any (numE b)) (F:= [N3,Mp,N2,R]) Try.func65 rfl rfl (.refl _) (by simp) rfl ?_ ?_))))))
 ·rintro v12 L12 ⟨rfl,rfl,hz⟩
  change At _ _ _ [N3,Mp,N2,R] _
  refine aI ((At.sub (L':= [R]) (.cons _ (.cons _ (.cons _ (.cons_cons _ (.slnil))))) (a0 (L1:= []) (.refl _) (.refl _) ?_)))
  exact⟨numE b,rfl,rfl,by simp only [wordE,e];rw [if_neg hz]⟩
 rintro v12 L12 ⟨rfl,rfl,hz⟩
 change At _ _ _ [N3,Mp,N2,R] _
 refine aA (aB (s_3 (At.seq fun _ s_4=>At.region (aL (ds:= [_,_,_,_]) (aC rfl) ag26 rfl B3 rfl rfl aN rfl (aG (nxl rfl) sz26 rfl rfl rfl rfl rfl B2 (by simp) aX (fun N2 B2=>?_))))))
 simp only [setL,List.set]at B2
 refine aA (aB (s_4 (At.ret ((At.retX (At.sub (L':= [N2,Mp,R]) (.cons_cons _ (.cons _ (.cons_cons _ (.cons_cons _ (.slnil))))) (aZ (L1:= [Mp]) rfl (.cell rfl (bH (ds:= [_,_,_,_]) ag26 B2 rfl rfl aN) .nil) (.cons _ (.refl _)) (.refl _) ?_)))))))
 have hw:v64 [wa,wb,wc,wd]=be b:=by rw [hv,numV,if_pos hz]
 refine⟨Mp,be b,?_,rfl,by simp only [wordE,e];rw [if_pos hz],hw▸v64_lt4 rfl,hp⟩
 rw [←hw];exact wo_list (w:= [wa,wb,wc,wd]) rfl
theorem WSmall_b {x:Nat} (hx:x<WW):Fn Try.prog 113 #[wo x] [] [] (fun v L=>v=.tuple #[.int .u64 ((if x<2^64 then x else 0:Nat):Int),.bool (decide (x<2^64))]∧L= []):=by
 by_cases h:x<2^64
 ·rw [if_pos h,decide_eq_true h];exact WSmall_f hx h
 ·rw [if_neg h,decide_eq_false h];exact WSmall_no hx h
theorem FSmall_p (h:PartsN Np NI bp (z::zs) (t::ts)):FnE Try.prog 80 #[.pointer (some ⟨bp,0,none⟩)] [Np] [NI] (fun v L=> ∃Np x,v=.int .u64 ((x:Nat):Int)∧L= [Np]∧smallE t=.ok x∧x<2^64∧PartsN Np NI bp zs ts) (fun v L=> ∃e:Nat,v=gaveV e∧L= []∧smallE t=.error e):=by
 have h1:=FWord_p h
 refine FnE.enter (vs:= [.pointer (some ⟨bp,0,none⟩)]) Try.func80 rfl rfl rfl ?_
 intro E R hR
 have hNR:=hR NI (by simp)
 have h1:=h1.liftB hNR
 change At _ _ E [Np,R] _
 refine At.seq fun _ s_1=>At.region (aE (aC rfl) rfl rfl (aA (aB (s_1 (At.seq fun _ s_2=>At.region (aD (aC rfl) rfl rfl (aQ (.cons rfl .nil) (h1) (F:= [R]) Try.func105 rfl rfl (.refl _) (by simp) rfl ?_ ?_)))))))
 ·rintro v7 L7 ⟨e,rfl,rfl,he⟩
  change At _ _ _ [R] _
  refine aI ((a0 (L1:= []) (.refl _) (.refl _) ?_))
  exact⟨e,rfl,rfl,by simp only [smallE,he]⟩
 rintro v7 L7 ⟨Mp,x,rfl,rfl,e,hx,hp⟩
 change At _ _ _ [Mp,R] _
 refine aR (aV rfl) (.cons rfl .nil) (WSmall_b hx) Try.func113 rfl rfl (by simp) rfl ?_
 rintro v8 L8 ⟨rfl,rfl⟩
 change At _ _ _ [Mp,R] _
 refine aD (aC rfl) rfl rfl (aM (aC rfl) rfl rfl rfl (aM (aC rfl) rfl rfl rfl (aE (aC rfl) rfl rfl (aE (aC rfl) rfl rfl (aA (aB (s_2 (At.seq fun _ s_3=>At.seq fun _ s_4=>At.region (aD (aC rfl) rfl rfl (op_notP (aC rfl) rfl rfl (aA (aB (s_4 (aP rfl (fun c12=>?_) (fun c12=>?_)))))))))))))))
 ·refine At.region (aQ (.cons rfl .nil) (FCheck_e (by decide)) (F:= [Mp,R]) Try.func65 rfl rfl (.refl _) (by simp) rfl ?_ ?_)
  ·rintro v13 L13 ⟨rfl,rfl⟩
   change At _ _ _ [Mp,R] _
   refine aI ((At.sub (L':= [R]) (.cons _ (.cons_cons _ (.slnil))) (a0 (L1:= []) (.refl _) (.refl _) ?_)))
   exact⟨3,rfl,rfl,by simp only [smallE,e];rw [if_neg c12]⟩
  intro _ _ h_;exact h_.elim
 refine At.skip (aB (s_3 (At.seq fun _ s_5=>At.region (aD (aC rfl) rfl rfl (aE (aC rfl) rfl rfl (aA (aB (s_5 (At.ret ((At.retX (aZ (L1:= [Mp]) rfl (.tmp rfl .nil) (.refl _) (.refl _) ?_))))))))))))
 have hlt:x<2^64:=Decidable.not_not.1 c12
 rw [if_pos hlt]
 exact⟨Mp,x,rfl,rfl,by simp only [smallE,e];rw [if_pos hlt],hlt,hp⟩
end
end Go.Proofs.Ytljacjjeinmfnaa
/- Layer 14: a list is opened, its parts are counted. No condition. -/
namespace Go.Proofs.Ytljacjjeinmfnaa
open Go Go.RowKit
set_option maxRecDepth 100000
def intC (ks:List Nat):List Value:=ks.map fun k:Nat=>Value.int .i64 (k:Int)
theorem intC_get {ks:List Nat} {i:Nat} (h:i<ks.length):(intC ks)[i]? =some (.int .i64 ((ks.getD i 0:Nat):Int)):=by
 rw [intC,List.getElem?_map,List.getElem?_eq_getElem h,List.getD_eq_getElem?_getD,List.getElem?_eq_getElem h];rfl
theorem no_next {P:Nat→Prop} {i:Nat} (h: ∀j,j<i→P j) (hi:P i): ∀j,j<i+1→P j:=fun j hj=>by
 rcases Nat.lt_or_ge j i with k|k
 ·exact h j k
 ·rw [show j=i by omega];exact hi
theorem getD_at {ks:List Nat} {i:Nat} (h:i<ks.length):ks.getD i 0=ks[i]:=by
 rw [List.getD_eq_getElem?_getD,List.getElem?_eq_getElem h];rfl
section
variable {Np NI M : Heaplet} {bp n cap m c : Nat} {ao a : Option Addr} {t : It} {ts : List It} {x z : IV} {zs : List IV} {ks : List Nat}
theorem listE_of (h:ItN NI t x):(x.l=false∧listE t=.error 2)∨(x.l=true∧ ∃its xs,listE t=.ok its∧RSl NI 3 x.ai x.ni x.ci (cellsI xs)∧ItsN NI its xs):=by
 obtain⟨l,bs,its⟩:=t
 simp only [ItN]at h
 obtain⟨h1,_,xs,h3,h4⟩:=h
 cases l with
 |false=>exact .inl ⟨h1,rfl⟩
 |true=>exact .inr ⟨h1,its,xs,rfl,h3,h4⟩
theorem FOpened_p (h:ItN NI t x):FnE Try.prog 68 #[.agg #[.bool x.l,.slice x.ab x.nb x.cb,.slice x.ai x.ni x.ci]] [] [NI] (fun v L=> ∃Np bp its zs,v=.pointer (some ⟨bp,0,none⟩)∧L= [Np]∧listE t=.ok its∧PartsN Np NI bp zs its∧RSl NI 3 x.ai x.ni x.ci (cellsI zs)) (fun v L=> ∃e:Nat,v=gaveV e∧L= []∧listE t=.error e):=by
 have hq:=listE_of h
 refine FnE.enter (vs:= [.agg #[.bool x.l,.slice x.ab x.nb x.cb,.slice x.ai x.ni x.ci]]) Try.func68 rfl rfl rfl ?_
 intro E R hR
 change At _ _ E [R] _
 refine At.seq fun _ s_1=>At.region (op_box (aV rfl) rfl rfl rfl (fun N1 b1 B1=>aE (aC rfl) rfl rfl (aA (aB (s_1 (At.seq fun _ s_2=>At.region (aF (aC rfl) fl92_0 rfl rfl (aH (aC rfl) sc4 rfl B1 (by first|rfl) aN rfl ?_))))))))
 refine aQ (.cons rfl .nil) (FMust_any x.l) (F:= [N1,R]) Try.func66 rfl rfl (.refl _) (by simp) rfl ?_ ?_
 ·rintro v5 L5 ⟨rfl,rfl,hb⟩
  change At _ _ _ [N1,R] _
  refine aI ((At.sub (L':= [R]) (.cons _ (.cons_cons _ (.slnil))) (a0 (L1:= []) (.refl _) (.refl _) ?_)))
  rcases hq with ⟨_,e⟩|⟨h,_⟩
  ·exact⟨2,rfl,rfl,e⟩
  ·rw [hb]at h;cases h
 rintro v5 L5 ⟨rfl,rfl,hb⟩
 change At _ _ _ [N1,R] _
 refine aA (aB (s_2 (At.seq fun _ s_3=>At.region (aF (aC rfl) fl92_2 rfl rfl (aH (aC rfl) sc90 rfl B1 (by first|rfl) aN rfl ?_)))))
 refine op_build (out:= [_]) (aC rfl) ze159 pl159 (.cons rfl .nil) rfl rfl (op_box (aV rfl) rfl rfl rfl (fun N9 b9 B9=>aE (aC rfl) rfl rfl (aA (aB (s_3 (At.ret ((At.retX (At.sub (L':= [N9,R]) (.cons_cons _ (.cons _ (.cons_cons _ (.slnil)))) (aZ (L1:= [N9]) rfl (.tmp rfl .nil) (.refl _) (.refl _) ?_))))))))))
 rcases hq with ⟨h,_⟩|⟨_,its,xs,e,h3,h4⟩
 ·rw [hb]at h;cases h
 ·exact⟨N9,b9,its,xs,rfl,rfl,e,⟨_,_,_,B9,h3,h4⟩,h3⟩
theorem PartsN.len (h:PartsN Np NI bp zs ts): ∃ao cap,Blk Np bp 159 [.slice ao ts.length cap]∧ts.length≤cap∧cap≤maxLen:=by
 obtain⟨ao,n,cap,B,hs,hi⟩:=h
 have hn:=hs.1
 rw [cellsI_len,hi.length]at hn
 have:n=ts.length:=by omega
 subst this
 exact⟨ao,cap,B,hs.2.1,hs.2.2.1⟩
theorem FJust_p (h:PartsN Np NI bp zs ts) (hk:RSl M 1 a m c (intC ks)) (hm:m≤1099511627776):FnE Try.prog 73 #[.pointer (some ⟨bp,0,none⟩),.slice a m c] [Np] [M] (fun v L=>v=.int .i64 (ts.length:Int)∧L= [Np]∧ts.length∈ks) (fun v L=>v=gaveV 2∧L= []∧ts.length∉ks):=by
 obtain⟨ao,cap,B,_,hcap⟩:=h.len
 unfold maxLen at hcap
 have hkl:ks.length=m:=by have:=hk.1;rw [intC,List.length_map]at this;omega
 refine FnE.enter (vs:= [.pointer (some ⟨bp,0,none⟩),.slice a m c]) Try.func73 rfl rfl rfl ?_
 intro E R hR
 have hk:=hk.le (hR M (by simp))
 have Bp:=B
 change At _ _ E [Np,R] _
 refine At.seq fun _ s_1=>At.region (aE (aC rfl) rfl rfl (aA (aB (s_1 (At.seq fun _ s_2=>At.seq fun _ s_3=>At.region (aD (aC rfl) rfl rfl (bP (aC rfl) se167 rfl rfl (aD (aC rfl) rfl rfl (aA (aB (s_3 (At.block (At.loop (fun fr_ hp_ ms_=> ∃(i:Nat),fr_= [(0,.pointer (some ⟨bp,0,none⟩)),(7,.slice a m c),(8,.int .i64 (m:Int)),(9,.int .i64 (i:Int))]∧hp_= [Np,R]∧m- i=ms_∧(i≤m)∧(∀j,j<i→ks.getD j 0≠ts.length)) ?_ (.refl _) ⟨0,rfl,rfl,rfl,Nat.zero_le _,fun j hj=>absurd hj (Nat.not_lt_zero _)⟩ ?_)))))))))))))
 ·exact .cons (by first|exact bE rfl (by omega)|rfl) (.cons (by first|exact bE rfl (by omega)|rfl) (.cons (by first|exact bE rfl (by omega)|rfl) (.cons (by first|exact bE rfl (by omega)|rfl) .nil)))
 rintro _ _ _ ⟨i,rfl,rfl,rfl,hi,hno⟩
 refine At.seq fun _ s_4=>At.region (op_lss (aC rfl) rfl rfl rfl (aA (aB (s_4 (At.seq fun _ s_5=>aP rfl (fun c10=>?_) (fun c10=>?_))))))
 ·refine At.skip (aB (s_5 (At.seq fun _ s_6=>At.block (At.seq fun _ s_7=>At.region (op_idx1 (aC rfl) se167 rfl rfl hk (show _=(((i:Nat)):Int)from by omega) (by omega) rfl ?_)))))
  refine bS (aC rfl) sc3 rfl hk (by first|exact get8 (by omega)|exact get64 (by omega)|exact get32 (by omega)|exact intC_get (by omega)) (by first|exact aN|exact bC|exact bV|exact mem3|exact mem4|exact mem5|exact mem6|exact mem7|exact mem8|exact mem9) rfl ?_
  refine aE (aC rfl) rfl rfl (aA (aB (s_7 (At.seq fun _ s_8=>At.region (aD (aC rfl) rfl rfl (aK (aC rfl) rfl rfl (aF (aC rfl) fl159_0 rfl rfl (aH (aC rfl) sc90 rfl Bp (by first|rfl) aN rfl ?_))))))))
  refine bP (aC rfl) se90 rfl rfl (aD (aC rfl) rfl rfl (op_eql (aC rfl) rfl rfl rfl (aA (aB (s_8 (aP rfl (fun c19=>?_) (fun c19=>?_)))))))
  ·refine At.seq fun _ s_9=>At.region (aD (aC rfl) rfl rfl (aE (aC rfl) rfl rfl (aA (aB (s_9 (At.ret (At.inRet (aT (aT (At.inRet (aT ((At.retX (aZ (L1:= [Np]) rfl (.tmp rfl .nil) (.refl _) (.refl _) ?_))))))))))))))
   have hh:ks.getD i 0=ts.length:=by omega
   have hm2:ts.length∈ks:=by rw [←hh,getD_at (by omega)];exact List.getElem_mem _
   rw [hh]
   exact⟨rfl,rfl,hm2⟩
  refine At.skip (bB (aB (s_6 (At.region (bI (aC rfl) rfl rfl (by omega) (by omega) rfl (aD (aC rfl) rfl rfl (aA (aB (At.back ?_ (.refl _) ⟨i+1,rfl,rfl,rfl,by omega,no_next (P:=fun j=>ks.getD j 0≠ts.length) hno (fun h=>c19 (by omega))⟩ ?_)))))))))
  ·exact .cons (by first|exact bE rfl (by omega)|rfl) (.cons (by first|exact bE rfl (by omega)|rfl) (.cons (by first|exact bE rfl (by omega)|rfl) (.cons (by first|exact bE rfl (by omega)|rfl) .nil)))
  ·omega
 refine At.exit (aO (aO (At.inHit (aB (s_2 (At.seq fun _ s_10=>At.region (aQ (.cons rfl .nil) (FMust_f) (F:= [Np,R]) Try.func66 rfl rfl (.refl _) (by simp) rfl ?_ ?_)))))))
 ·rintro v22 L22 ⟨rfl,rfl⟩
  change At _ _ _ [Np,R] _
  refine aI ((At.sub (L':= [R]) (.cons _ (.cons_cons _ (.slnil))) (a0 (L1:= []) (.refl _) (.refl _) (⟨rfl,rfl,fun hmem=>?_⟩))))
  obtain⟨j,hj,e⟩:=List.getElem_of_mem hmem
  exact hno j (by omega) (by rw [getD_at hj];exact e)
 intro _ _ h_;exact h_.elim
end
end Go.Proofs.Ytljacjjeinmfnaa
/- The engine, a closure called that returns or panics. For whatever program. No condition. -/
namespace Go.Proofs.Ytljacjjeinmfnaa
open Go Go.RowKit
section
variable {P : Program} {n : Nat} {l : List (Nat × Value)} {E : World} {L : List Heaplet} {d : Nat} {ty : TypeId} {pos : _} {aft : _} {Q : Exit → Act → World → Prop} {rest : List Oper} {ops : Array Oper} {Post Pan : Value → List Heaplet → Prop}
theorem op_callVE {f:FuncId} {fn:Func} {c:Operand} {xs:List Operand} {args caps:List Value} {ats:Array TypeId} {L0 Lr F:List Heaplet}
 (hcv:ev l c=some (.func (.func f) #[] caps.toArray)) (ha:Evs l xs args) (hc:FnE P f (args++caps).toArray L0 Lr Post Pan) (hfn:P.funcs[f]? =some fn) (hb:fn.body.isSome=true) (hne:(fn.name== "runtime.NumGoroutine")=false) (hL:L.Perm (L0++F)) (hr: ∀N∈Lr,N∈F) (hn:Nat.ble (d+1) n=true)
 (hp: ∀v L1,Pan v L1→At n l E (L1++F) (Q (.panic (pnk v))))
 (h: ∀v L1,Post v L1→At n ((d,v)::l) E (L1++F) (wpList P ops Q rest)):At n l E L (wpList P ops Q (⟨some d,.call ⟨.value c,xs.toArray,ats⟩,ty,pos,aft,none⟩::rest)):=fun a w hf hw=>by
 refine wpList_plain rfl fun K hK=>?_
 unfold Oper.wp
 have hw2:=hw.perm hL
 have hrun:(execOp a.eval ⟨some d,.call ⟨.value c,xs.toArray,ats⟩,ty,pos,aft,none⟩).run P w=.ok (.enter f (args++caps).toArray) w:=by
  have hne':fn.name≠ "runtime.NumGoroutine" :=by simpa using hne
  have he:=hf.eval hcv
  have hap:args.toArray++caps.toArray=(args++caps).toArray:=by simp
  simp only [execOp,resolve,invoke,Sem.run_bind,Sem.run_pure,Result.andThen_ok,List.map_toArray,ha.map hf,he,Deferred.ofValue,Array.empty_append,hap,run_call hfn hb hne']
 rw [hrun]
 obtain⟨R,hwR,hFR,hF⟩:=hw2.apartRest
 refine Calls.mono (hc E w R hwR fun N hN=>hFR N (hr N hN)) ?_
 rintro e w' (⟨v,L1,rfl,hP,hw'⟩|⟨v,L1,rfl,hP,hw'⟩)
 ·exact hK _ _ (h v L1 hP _ _ (hf.put (Nat.le_of_ble_eq_true hn)) (hw'.refine hFR hF))
 ·exact hp v L1 hP _ _ hf (hw'.refine hFR hF)
end
end Go.Proofs.Ytljacjjeinmfnaa
/- Layer 14: a list is read part by part, by a closure. No condition. -/
namespace Go.Proofs.Ytljacjjeinmfnaa
open Go Go.RowKit
set_option maxRecDepth 100000
/-- What the parts are, or what is wrong with the first wrong one. -/
def mapE {α:Type} (g:It→Except Nat α):List It→Except Nat (List α)
 | []=>.ok []
 |t::ts=>match g t with
  |.error e=>.error e
  |.ok a=>match mapE g ts with
   |.error e=>.error e
   |.ok l=>.ok (a::l)
def eachE {α:Type} (g:It→Except Nat α) (t:It):Except Nat (List α):=match listE t with
 |.error e=>.error e
 |.ok its=>mapE g its
/-- As mapE, behind what is done. -/
def restE {α:Type} (g:It→Except Nat α) (done:List α) (ts:List It):Except Nat (List α):=match mapE g ts with
 |.error e=>.error e
 |.ok l=>.ok (done++l)
theorem restE_nil {α:Type} (g:It→Except Nat α) (done:List α):restE g done []=.ok done:=by simp [restE,mapE]
theorem restE_ok {α:Type} {g:It→Except Nat α} {done:List α} {t:It} {ts:List It} {a:α} (h:g t=.ok a):restE g done (t::ts)=restE g (done++ [a]) ts:=by
 simp only [restE,mapE,h]
 cases mapE g ts with
 |error e=>rfl
 |ok l=>simp
theorem restE_bad {α:Type} {g:It→Except Nat α} {done:List α} {t:It} {ts:List It} {e:Nat} (h:g t=.error e):restE g done (t::ts)=.error e:=by
 simp only [restE,mapE,h]
theorem restE_0 {α:Type} (g:It→Except Nat α) (ts:List It):restE g [] ts=mapE g ts:=by
 simp only [restE]
 cases mapE g ts with
 |error e=>rfl
 |ok l=>simp
section
variable {α : Type} {El : It → Prop} {g : It → Except Nat α} {Inv : List IV → List α → Heaplet → Prop} {z : IV} {zs : List IV} {Np NI NO : Heaplet} {bp : Nat} {t : It} {ts : List It} {f : FuncId} {fn : Func} {caps : List Value}
theorem FEach_p (h:PartsN Np NI bp (z::zs) (t::ts)) (hI:Inv [] [] NO) (hk: ∀its,listE t=.ok its→its.length≤1099511627776) (hel: ∀its,listE t=.ok its→ ∀y∈its,El y) (hfn:Try.prog.funcs[f]? =some fn) (hb:fn.body.isSome=true) (hne:(fn.name== "runtime.NumGoroutine")=false)
 (hc: ∀(Nq NO:Heaplet) (bq:Nat) (z:IV) (zs ys:List IV) (t:It) (ts:List It) (l:List α),PartsN Nq NI bq (z::zs) (t::ts)→Inv ys l NO→ys.length=l.length→l.length<1099511627776→El t→FnE Try.prog f ([Value.pointer (some ⟨bq,0,none⟩)]++caps).toArray [Nq,NO] [NI] (fun _ L=> ∃Nq NO a,L= [Nq,NO]∧g t=.ok a∧PartsN Nq NI bq zs ts∧Inv (ys++ [z]) (l++ [a]) NO) (fun v L=> ∃e:Nat,v=gaveV e∧L= []∧g t=.error e)):
 FnE Try.prog 75 #[.pointer (some ⟨bp,0,none⟩),.func (.func f) #[] caps.toArray] [Np,NO] [NI] (fun v L=> ∃Np NO l ys,v=.tuple #[]∧L= [Np,NO]∧eachE g t=.ok l∧PartsN Np NI bp zs ts∧Inv ys l NO∧RSl NI 3 z.ai z.ni z.ci (cellsI ys)) (fun v L=> ∃e:Nat,v=gaveV e∧L= []∧eachE g t=.error e):=by
 have h1:=FNext_p h
 refine FnE.enter (vs:= [.pointer (some ⟨bp,0,none⟩),.func (.func f) #[] caps.toArray]) Try.func75 rfl rfl rfl ?_
 intro E R hR
 have hNR:=hR NI (by simp)
 have h1:=h1.liftB hNR
 change At _ _ E [Np,NO,R] _
 refine At.seq fun _ s_1=>At.region (aD (aC rfl) rfl rfl (op_call (nxl rfl) (.cons rfl .nil) (h1) (F:= [NO,R]) Try.func74 rfl rfl (.refl _) (by simp) rfl ?_))
 rintro v6 L6 ⟨Mp,rfl,rfl,hp,hx⟩
 change At _ _ _ [Mp,NO,R] _
 change At _ ((6,.agg #[.bool z.l,.slice z.ab z.nb z.cb,.slice z.ai z.ni z.ci])::_) _ _ _
 refine aQ (.cons rfl .nil) ((FOpened_p hx).liftB hNR) (F:= [Mp,NO,R]) Try.func68 rfl rfl (.refl _) (by simp) rfl ?_ ?_
 ·rintro v7 L7 ⟨e,rfl,rfl,he⟩
  change At _ _ _ [Mp,NO,R] _
  refine aI ((At.sub (L':= [R]) (.cons _ (.cons _ (.cons_cons _ (.slnil)))) (a0 (L1:= []) (.refl _) (.refl _) ?_)))
  exact⟨e,rfl,rfl,by simp only [eachE,he]⟩
 rintro v7 L7 ⟨Nq,bq,its,zq,rfl,rfl,he,hq,hzq⟩
 change At _ _ _ [Nq,Mp,NO,R] _
 have hkl:=hk its he
 refine aE (aC rfl) rfl rfl (aA (aB (s_1 (At.block (At.perm aW (At.perm aX (At.perm aW (At.perm aW (At.loop (fun fr_ hp_ ms_=> ∃(done:List α) (rest:List It) (ys zr:List IV) (Nr NS:Heaplet),fr_= [(0,.pointer (some ⟨bp,0,none⟩)),(1,.func (.func f) #[] caps.toArray),(4,.pointer (some ⟨bq,0,none⟩))]∧hp_= [Nr,NS,Mp,R]∧rest.length=ms_∧(PartsN Nr NI bq zr rest)∧(Inv ys done NS)∧(ys++zr=zq)∧(ys.length=done.length)∧(mapE g its=restE g done rest)∧(∀y∈rest,El y)∧(done.length+rest.length=its.length)) ?_ (.refl _) ⟨[],its,[],zq,Nq,NO,rfl,rfl,rfl,hq,hI,rfl,rfl,(restE_0 g its).symm,hel its he,by simp⟩ ?_)))))))))
 ·exact .cons (by first|exact bE rfl (by omega)|rfl) (.cons (by first|exact bE rfl (by omega)|rfl) (.cons (by first|exact bE rfl (by omega)|rfl) .nil))
 rintro _ _ _ ⟨done,rest,ys,zr,Nr,NS,rfl,rfl,rfl,hr,hi,hyz,hyl,hm,hsub,hcnt⟩
 refine At.seq fun _ s_2=>At.seq fun _ s_3=>At.region ?_
 obtain⟨ar,cr,Br,hle,hcm⟩:=hr.len
 refine aD (aC rfl) rfl rfl (aK (aC rfl) rfl rfl (aF (aC rfl) fl159_0 rfl rfl (aH (aC rfl) sc90 rfl Br (by first|rfl) aN rfl ?_)))
 refine bP (aC rfl) se90 rfl rfl (op_gtr (aC rfl) rfl rfl rfl (aA (aB (s_3 (aP rfl (fun c13=>?_) (fun c13=>?_))))))
 ·obtain⟨t',rest',rfl⟩: ∃t' rest',rest=t'::rest':=by
   cases rest with
   |nil=>exact absurd c13 (by simp)
   |cons a b=>exact⟨a,b,rfl⟩
  obtain⟨z',zr',rfl⟩:=hr.cons
  have hln:(t'::rest').length=rest'.length+1:=rfl
  refine At.skip (aB (s_2 (At.block (At.region (aD (aC rfl) rfl rfl (aD (aC rfl) rfl rfl (op_callVE rfl (.cons rfl .nil) ((hc Nr NS bq z' zr' ys t' rest' done hr hi hyl (by omega) (hsub _ (by simp))).liftB hNR) (F:= [Mp,R]) hfn hb hne (.refl _) (by simp) rfl ?_ ?_)))))))
  ·rintro v16 L16 ⟨e,rfl,rfl,hy⟩
   change At _ _ _ [Mp,R] _
   refine At.inPan (aI (At.inPan ((At.sub (L':= [R]) (.cons _ (.cons_cons _ (.slnil))) (a0 (L1:= []) (.refl _) (.refl _) ?_)))))
   exact⟨e,rfl,rfl,by simp only [eachE,he,hm,restE_bad hy]⟩
  rintro v16 L16 ⟨M1,M2,y,rfl,hy,hr',hi'⟩
  change At _ _ _ [M1,M2,Mp,R] _
  refine aA (bB (aB ?_))
  refine At.back ?_ (.refl _) ⟨done++ [y],rest',ys++ [z'],zr',M1,M2,rfl,rfl,rfl,hr',hi',by rw [List.append_assoc];exact hyz,by simp [hyl],by rw [hm,restE_ok hy],fun z hz=>hsub z (List.mem_cons_of_mem _ hz),by rw [List.length_append,List.length_singleton];omega⟩ ?_
  ·exact .cons (by first|exact bE rfl (by omega)|rfl) (.cons (by first|exact bE rfl (by omega)|rfl) (.cons (by first|exact bE rfl (by omega)|rfl) .nil))
  ·omega
 refine At.exit (aO (aO (At.inHit (At.norX (At.sub (L':= [NS,Mp,R]) (.cons _ (.cons_cons _ (.cons_cons _ (.cons_cons _ (.slnil))))) (At.perm aX (At.perm bZ (At.perm aX (At.retNE (L1:= [Mp,NS]) rfl .nil rfl (.refl _) (.refl _) ?_)))))))))
 have h0:rest= []:=List.length_eq_zero_iff.1 (by omega)
 subst h0
 obtain rfl:zr= []:=hr.nil
 rw [List.append_nil]at hyz
 exact⟨Mp,NS,done,ys,rfl,rfl,by simp only [eachE,he,hm,restE_nil],hp,hi,hyz▸hzq⟩
end
end Go.Proofs.Ytljacjjeinmfnaa
