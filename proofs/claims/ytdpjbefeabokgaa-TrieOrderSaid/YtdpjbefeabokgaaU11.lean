/- Several texts in one: see the remarks ahead of each part. No condition but those told there. -/
import Derived.Test.YtdpjbefeabokgaaU10
set_option linter.unusedSimpArgs false
set_option linter.unusedVariables false
/- Layer 12: pairs without their first nibbles, those under a nibble, how many all share. No condition but that bytes are not longer than a machine holds. -/
namespace Go.Proofs.Ytdpjbefeabokgaa
open Go Go.RowKit
set_option maxRecDepth 100000
theorem cellsP_one (xs:List PV): ∀u∈cellsP xs,u.oneCell'=true:=fun u hu=>by
 obtain⟨x,_,hx⟩:=List.mem_flatMap.1 hu
 simp only [PV.cells,List.mem_cons,List.not_mem_nil,or_false]at hx
 rcases hx with rfl|rfl<;>rfl
theorem cellsP_app (xs ys:List PV):cellsP (xs++ys)=cellsP xs++cellsP ys:=by rw [cellsP,cellsP,cellsP,List.flatMap_append]
theorem take_next1 {α:Type} {l:List α} {j:Nat} {u:α} (h:l[j]? =some u):l.take (j+1)=l.take j++ [u]:=by
 obtain⟨hlt,rfl⟩:=List.getElem?_eq_some_iff.1 h
 exact List.take_succ_eq_append_getElem hlt
theorem set_two {cs:List Value} {o:Nat} {x y:Value} (h:o+2≤cs.length):(setL cs o [x,y]).take (o+2)=cs.take o++ [x,y]:=by
 simp only [setL]
 refine List.ext_getElem? fun i=>?_
 rw [List.getElem?_take]
 rcases Nat.lt_or_ge i o with hi|hi
 ·rw [if_pos (by omega),List.getElem?_set_ne (by omega),List.getElem?_set_ne (by omega),List.getElem?_append_left (by rw [List.length_take];omega),List.getElem?_take,if_pos hi]
 ·rw [List.getElem?_append_right (by rw [List.length_take];omega),List.length_take,Nat.min_eq_left (by omega)]
  rcases Nat.lt_or_ge i (o+2)with hj|hj
  ·rw [if_pos hj]
   have:i=o∨i=o+1:=by omega
   rcases this with rfl|rfl
   ·rw [List.getElem?_set_ne (by omega),List.getElem?_set_self (by omega),Nat.sub_self];rfl
   ·rw [List.getElem?_set_self (by rw [List.length_set];omega),show o+1- o=1 by omega];rfl
  ·rw [if_neg (by omega),List.getElem?_eq_none (by simp only [List.length_cons,List.length_nil];omega)]
/-- Bounds of the rows. -/
def RowsB (k:Nat) (xs:List PV):Prop:= ∀x∈xs,k≤x.rn∧x.rn≤x.rc∧x.rc≤9223372036854775807
theorem PsN.rows {K:Heaplet} {l:List PR} {xs:List PV} (h:PsN K l xs) {k:Nat} (hk: ∀p∈l,k≤p.1.length):RowsB k xs:=fun x hx=>by
 obtain⟨i,hi,rfl⟩:=List.mem_iff_getElem.1 hx
 obtain⟨p,y,h1,h2,h3⟩:=h.at (i:=i) (by rw [←h.len];exact hi)
 rw [List.getElem?_eq_getElem hi]at h2
 obtain rfl:=Option.some.inj h2
 have:=h3.row.cap63
 exact⟨by rw [h3.rn];exact hk p (List.mem_of_getElem? h1),this.1,this.2⟩
section
variable {N : Heaplet} {ao : Option Addr} {n cap : Nat} {xs : List PV}
def PairsP (xs:List PV) (v:Value) (L:List Heaplet):Prop:= ∃M a c,v=.slice a xs.length c∧L= [M]∧Row M 101 2 a xs.length c (cellsP xs)
set_option maxHeartbeats 1000000 in
theorem FCut (h:RSl N 2 ao n cap (cellsP xs)) (hl:xs.length=n) {k:Nat} (hk:RowsB k xs) (hn:n≤1099511627776):Fn Try.prog 54 #[.slice ao n cap,.int .i64 (k:Int)] [] [N] (PairsP (xs.map (PV.cut k))):=by
 refine Fn.enter (vs:= [.slice ao n cap,.int .i64 (k:Int)]) Try.func54 rfl rfl rfl ?_
 intro E R hR
 have h:=h.le (hR N (by simp))
 change At _ _ E [R] _
 refine At.seq fun _ s_1=>At.region (aE (aD rfl) rfl rfl (aB (aA (s_1 (At.seq fun _ s_2=>At.region (aC (aD rfl) rfl rfl (aS (aD rfl) se70 rfl rfl ?_)))))))
 refine op_make (aX rfl) Try.underlying70 te101 rfl rfl (show _=(((n:Nat)):Int)from by omega) (show _=(((n:Nat)):Int)from by omega) (by omega) (by unfold maxLen;omega) rfl (fun N10 a10 r10=>?_)
 skip
 have s10:=r10.rsl
 refine aE (aD rfl) rfl rfl (aB (aA (s_2 (At.seq fun _ s_3=>At.seq fun _ s_4=>At.region (aC (aD rfl) rfl rfl (aS (aD rfl) se70 rfl rfl (aC (aD rfl) rfl rfl (aB (aA (s_4 (At.block (At.loop (fun fr_ hp_ ms_=> ∃(i:Nat) (cs:List Value) (Na:Heaplet),fr_= [(1,.int .i64 (k:Int)),(5,.slice a10 n n),(11,.slice ao n cap),(12,.int .i64 (n:Int)),(13,.int .i64 (i:Int))]∧hp_= [Na,R]∧n- i=ms_∧(i≤n)∧(Row Na 101 2 a10 n n cs)∧(cs.take (i*2)=cellsP ((xs.take i).map (PV.cut k)))) ?_ (.refl _) ⟨0,_,N10,rfl,rfl,rfl,Nat.zero_le _,r10,by simp [cellsP]⟩ ?_))))))))))))
 ·exact .cons (by first|exact aK rfl (by omega)|rfl) (.cons (by first|exact aK rfl (by omega)|rfl) (.cons (by first|exact aK rfl (by omega)|rfl) (.cons (by first|exact aK rfl (by omega)|rfl) (.cons (by first|exact aK rfl (by omega)|rfl) .nil))))
 rintro _ _ _ ⟨i,cs,Na,rfl,rfl,rfl,hi,ra,hcs⟩
 refine At.seq fun _ s_5=>At.region (op_lss (aD rfl) rfl rfl rfl (aB (aA (s_5 (At.seq fun _ s_6=>aL rfl (fun c14=>?_) (fun c14=>?_))))))
 ·obtain⟨x,hx⟩: ∃x,xs[i]? =some x:=⟨_,List.getElem?_eq_getElem (by omega)⟩
  obtain⟨x1,x2,x3⟩:=hk x (List.mem_of_getElem? hx)
  have sa:=ra.rsl
  have hcl:=ra.1
  refine At.skip (aA (s_6 (At.seq fun _ s_7=>At.block (At.seq fun _ s_8=>At.region (aC (aD rfl) rfl rfl (op_idxE (aD rfl) se70 rfl rfl h (show _=(((i:Nat)):Int)from by omega) (by omega) rfl ?_))))))
  refine op_loadAggE (ds:= [.slice x.ra x.rn x.rc,.slice x.va x.vn x.vc]) (aD rfl) ag101 rfl h (by exact cellsP_at hx) (by rfl) (by omega) (by first|exact aN|exact aV|exact aZ|exact mem3|exact mem4|exact mem5|exact mem6|exact mem7|exact mem8|exact mem9) rfl ?_
  refine op_alloc (aX rfl) ze101 rfl (fun N7 b7 B7=>?_)
  change Blk N7 b7 _ [.slice none 0 0,.slice none 0 0]at B7
  refine aE (aD rfl) rfl rfl (aW (nxl rfl) sz101 rfl rfl rfl rfl rfl B7 (by simp) sel0 (fun N7 B7=>?_))
  simp only [setL,List.set]at B7
  refine aB (aA (s_8 (At.perm sel2 (At.perm sel1 (At.perm sel2 (At.drawnS [N7,R] [10] [] [0,1,2,3,4,5,6,7,8,9,10] (by kernel_rfl) (by kernel_rfl) (.cons _ (.refl _)) (aC (aM rfl rfl rfl) rfl rfl (aC (aM rfl rfl rfl) rfl rfl (aG (aM rfl rfl rfl) fl101_0 rfl rfl (aJ (aM rfl rfl rfl) sc33 rfl B7 (by first|rfl) aN rfl ?_))))))))))
  refine aC (aM rfl rfl rfl) rfl rfl (op_slice (aM rfl rfl rfl) se33 rfl (.some rfl (show _=(((k:Nat)):Int)from by omega)) .none .none (by omega) (by omega) (by omega) (by simp) rfl ?_)
  refine aG (aM rfl rfl rfl) fl101_1 rfl rfl (aJ (aM rfl rfl rfl) sc33 rfl B7 (by first|rfl) aN rfl ?_)
  refine op_build (out:= [_,_]) (aM rfl rfl rfl) ze101 pl101 (.cons rfl (.cons rfl .nil)) rfl rfl (op_idxE (aM rfl rfl rfl) se70 rfl rfl sa (show _=(((i:Nat)):Int)from by omega) (by omega) rfl ?_)
  refine op_storeE (nxsl rfl rfl rfl rfl) sz101 rfl rfl rfl rfl rfl ra (by simp<;>omega) (by simp) sel0 (fun Na ra=>?_)
  skip
  have sa:=ra.rsl
  refine At.sNil (aP (aA (s_7 (At.region (aO (aD rfl) rfl rfl (by omega) (by omega) rfl (aC (aD rfl) rfl rfl (aB (aA (At.sub (L':= [Na,R]) (.cons_cons _ (.cons _ (.cons_cons _ (.slnil)))) ?_)))))))))
  refine bB ?_ (.refl _) ⟨i+1,_,Na,rfl,rfl,rfl,by omega,ra,by rw [show(i+1)*2=i*2+0+2 by omega,set_two (by omega),Nat.add_zero,hcs,take_next1 hx,List.map_append,cellsP_app];rfl⟩ ?_
  ·exact .cons (by first|exact aK rfl (by omega)|rfl) (.cons (by first|exact aK rfl (by omega)|rfl) (.cons (by first|exact aK rfl (by omega)|rfl) (.cons (by first|exact aK rfl (by omega)|rfl) (.cons (by first|exact aK rfl (by omega)|rfl) .nil))))
  ·omega
 refine At.exit (aF (aF (aU (aA (s_3 (At.seq fun _ s_9=>At.region (aC (aD rfl) rfl rfl (aE (aD rfl) rfl rfl (aB (aA (s_9 (At.ret ((aQ (L1:= [Na]) rfl (.tmp rfl .nil) (.refl _) (.refl _) ?_))))))))))))))
 have e:i=n:=by omega
 subst e
 rw [List.take_of_length_le (by have:=ra.1;omega),List.take_of_length_le (by omega)]at hcs
 subst hcs
 exact⟨Na,a10,i,by rw [List.length_map,hl],rfl,by rw [List.length_map,hl];exact ra⟩
theorem head_is {p:List UInt8} {c:UInt8} (h0:0<p.length) (h:((p.getD 0 0).toNat:Int)=(c.toNat:Int)):(p.head?==some c)=true:=by
 cases p with
 |nil=>simp at h0
 |cons x r=>
  have e:x=c:=by rw [←UInt8.toNat_inj];simp at h;omega
  rw [e];simp
theorem head_not {p:List UInt8} {c:UInt8} (h: ¬((p.getD 0 0).toNat:Int)=(c.toNat:Int)): ¬(p.head?==some c)=true:=by
 cases p with
 |nil=>simp
 |cons x r=>
  intro k
  simp only [List.head?_cons,beq_iff_eq,Option.some.injEq]at k
  exact h (by rw [k];rfl)
theorem head_none {p:List UInt8} {c:UInt8} (h:p.length=0): ¬(p.head?==some c)=true:=by
 rw [List.eq_nil_of_length_eq_zero h];simp
theorem und_take {c:UInt8} {l:List PR} {i:Nat} {p:PR} (h:l[i]? =some p):undR c (l.take (i+1))=undR c (l.take i)++(if p.1.head?==some c then [p]else []):=by
 simp only [take_next1 h,undR,List.filter_append,List.filter_cons,List.filter_nil]
set_option maxHeartbeats 1000000 in
theorem FUnder {l:List PR} (h:RSl N 2 ao n cap (cellsP xs)) (hP:PsN N l xs) (hn:n≤1099511627776) (c:UInt8):Fn Try.prog 55 #[.slice ao n cap,.int .u8 (c.toNat:Int)] [] [N] (fun v L=> ∃ys,PairsP ys v L∧ ∀J:Heaplet,PsN J l xs→PsN J (cutR 1 (undR c l)) ys):=by
 have hxn:xs.length=n:=by have:=h.1;rw [cellsP_len]at this;omega
 have hln:=hP.len
 refine Fn.enter (vs:= [.slice ao n cap,.int .u8 (c.toNat:Int)]) Try.func55 rfl rfl rfl ?_
 intro E R hR
 have hNR:=hR N (by simp)
 have h:=h.le hNR
 have hPR:=hP.le hNR
 change At _ _ E [R] _
 refine At.seq fun _ s_1=>At.region (aE (aD rfl) rfl rfl (aB (aA (s_1 (At.seq fun _ s_2=>At.region (aE (aD rfl) rfl rfl (aB (aA (s_2 (At.seq fun _ s_3=>At.seq fun _ s_4=>At.region (aC (aD rfl) rfl rfl (aS (aD rfl) se70 rfl rfl (aC (aD rfl) rfl rfl (aB (aA (s_4 (At.block (At.empty (At.loop (fun fr_ hp_ ms_=> ∃(i m:Nat) (a:Option Addr) (cp:Nat) (ys:List PV) (Na:Heaplet),fr_= [(1,.int .u8 (c.toNat:Int)),(5,.slice a m cp),(8,.slice ao n cap),(9,.int .i64 (n:Int)),(10,.int .i64 (i:Int))]∧hp_= [Na,R]∧n- i=ms_∧(i≤n)∧(m=ys.length)∧(m≤i)∧(Row Na 101 2 a m cp (cellsP ys))∧(∀J:Heaplet,PsN J l xs→PsN J (undR c (l.take i)) ys)) ?_ (.refl _) ⟨0,0,none,0,[],nilH,rfl,rfl,rfl,Nat.zero_le _,rfl,Nat.le_refl _,Row.nil _ _ _,fun J _=>PsN.nil _⟩ ?_)))))))))))))))))))
 ·exact .cons (by first|exact aK rfl (by omega)|rfl) (.cons (by first|exact aK rfl (by omega)|rfl) (.cons (by first|exact aK rfl (by omega)|rfl) (.cons (by first|exact aK rfl (by omega)|rfl) (.cons (by first|exact aK rfl (by omega)|rfl) .nil))))
 rintro _ _ _ ⟨i,m,a,cp,ys,Na,rfl,rfl,rfl,hi,hm,hm2,ra,hy⟩
 refine At.seq fun _ s_5=>At.region (op_lss (aD rfl) rfl rfl rfl (aB (aA (s_5 (At.seq fun _ s_6=>aL rfl (fun c11=>?_) (fun c11=>?_))))))
 ·obtain⟨p,x,hp,hx,hpx⟩:=hPR.at (i:=i) (by omega)
  have hrb:=hpx.row.cap63
  have hrl:=hpx.row.len8
  have srow:=hpx.row
  refine At.skip (aA (s_6 (At.seq fun _ s_7=>At.block (At.seq fun _ s_8=>At.region (op_idxE (aD rfl) se70 rfl rfl h (show _=(((i:Nat)):Int)from by omega) (by omega) rfl ?_)))))
  refine op_loadAggE (ds:= [.slice x.ra x.rn x.rc,.slice x.va x.vn x.vc]) (aD rfl) ag101 rfl h (by exact cellsP_at hx) (by rfl) (by omega) (by first|exact aN|exact aV|exact aZ|exact mem3|exact mem4|exact mem5|exact mem6|exact mem7|exact mem8|exact mem9) rfl ?_
  refine op_alloc (aX rfl) ze101 rfl (fun N7 b7 B7=>?_)
  change Blk N7 b7 _ [.slice none 0 0,.slice none 0 0]at B7
  refine aW (nxl rfl) sz101 rfl rfl rfl rfl rfl B7 (by simp) sel0 (fun N7 B7=>?_)
  simp only [setL,List.set]at B7
  refine aB (aA (s_8 (At.seq fun _ s_9=>At.region (aG (aD rfl) fl101_0 rfl rfl (aJ (aD rfl) sc33 rfl B7 (by first|rfl) aN rfl ?_)))))
  refine aS (aD rfl) se33 rfl rfl (op_gtr (aD rfl) rfl rfl rfl (aC (aD rfl) rfl rfl (At.partP (d:=18) rfl (fun g18=>?_) (fun g18=>?_))))
  ·refine aG (nxgf rfl rfl rfl rfl) fl101_0 rfl rfl (aJ (nxgf rfl rfl rfl rfl) sc33 rfl B7 (by first|rfl) aN rfl ?_)
   refine op_idx1 (nxgf rfl rfl rfl rfl) se33 rfl rfl srow (show _=(((0:Nat)):Int)from by omega) (by omega) rfl ?_
   refine aR (nxgf rfl rfl rfl rfl) sc5 rfl srow (by first|exact get8 (by omega)|exact get64 (by omega)|exact get32 (by omega)) (by first|exact aN|exact aV|exact aZ|exact mem3|exact mem4|exact mem5|exact mem6|exact mem7|exact mem8|exact mem9) rfl ?_
   refine aC (nxgf rfl rfl rfl rfl) rfl rfl (op_eql (nxgf rfl rfl rfl rfl) rfl rfl rfl (op_pickT (aD rfl) rfl rfl rfl (aB (aA (s_9 (aL rfl (fun c25=>?_) (fun c25=>?_)))))))
   ·refine At.region (aC (aD rfl) rfl rfl (op_loadAggB (ds:= [_,_]) (aD rfl) ag101 rfl B7 rfl rfl aN rfl (op_lit (aX rfl) Try.underlying70 ze101 sz101 (.cons rfl .nil) rfl rfl (by simp [Value.cells]) rfl rfl rfl (fun N28 a28 r28=>?_))))
    simp only [flatV,List.flatMap_cons,List.flatMap_nil,Value.cells,List.append_nil,List.cons_append,List.nil_append]at r28
    have s28:=r28.rsl
    change Row N28 _ 2 a28 1 1 (cellsP [x])at r28
    have s28:=r28.rsl
    refine bD (nxl rfl) Try.underlying70 Try.underlying70 te101 rfl rfl ra s28 (by first|exact aN|exact aV|exact aZ|exact mem3|exact mem4|exact mem5|exact mem6|exact mem7|exact mem8|exact mem9) (cellsP_one _) (by omega) (by omega) sel2 rfl (fun N29 a29 p29 r29=>?_)
    have s29:=r29.rsl
    rw [←cellsP_app]at r29
    refine aE (aD rfl) rfl rfl (aB (aP (aA (s_7 (At.region (aO (aD rfl) rfl rfl (by omega) (by omega) rfl (aC (aD rfl) rfl rfl (aB (aA (At.sub (L':= [N29,R]) (.cons_cons _ (.cons _ (.cons _ (.cons_cons _ (.slnil))))) ?_))))))))))
    refine bB ?_ (.refl _) ⟨i+1,m+1,a29,p29,ys++ [x],N29,rfl,rfl,rfl,by omega,by simp [hm],by omega,r29,fun J hJ=>by rw [und_take hp,if_pos (head_is (by omega) c25)];exact(hy J hJ).snoc (hJ.each i p x hp hx)⟩ ?_
    ·exact .cons (by first|exact aK rfl (by omega)|rfl) (.cons (by first|exact aK rfl (by omega)|rfl) (.cons (by first|exact aK rfl (by omega)|rfl) (.cons (by first|exact aK rfl (by omega)|rfl) (.cons (by first|exact aK rfl (by omega)|rfl) .nil))))
    ·omega
   refine At.skip (aP (aA (s_7 (At.region (aO (aD rfl) rfl rfl (by omega) (by omega) rfl (aC (aD rfl) rfl rfl (aB (aA (At.sub (L':= [Na,R]) (.cons _ (.cons_cons _ (.cons_cons _ (.slnil)))) ?_)))))))))
   refine bB ?_ (.refl _) ⟨i+1,m,a,cp,ys,Na,rfl,rfl,rfl,by omega,hm,by omega,ra,fun J hJ=>by rw [und_take hp,if_neg (head_not c25),List.append_nil];exact hy J hJ⟩ ?_
   ·exact .cons (by first|exact aK rfl (by omega)|rfl) (.cons (by first|exact aK rfl (by omega)|rfl) (.cons (by first|exact aK rfl (by omega)|rfl) (.cons (by first|exact aK rfl (by omega)|rfl) (.cons (by first|exact aK rfl (by omega)|rfl) .nil))))
   ·omega
  refine aY rfl rfl rfl rfl rfl rfl rfl (aY rfl rfl rfl rfl rfl rfl rfl (aY rfl rfl rfl rfl rfl rfl rfl (aY rfl rfl rfl rfl rfl rfl rfl (aY rfl rfl rfl rfl rfl rfl rfl (aY rfl rfl rfl rfl rfl rfl rfl (op_pickF (aD rfl) rfl rfl rfl (aB (aA (s_9 (At.condF rfl (At.skip (aP (aA (s_7 (At.region (aO (aD rfl) rfl rfl (by omega) (by omega) rfl (aC (aD rfl) rfl rfl (aB (aA (At.sub (L':= [Na,R]) (.cons _ (.cons_cons _ (.cons_cons _ (.slnil)))) ?_))))))))))))))))))))
  refine bB ?_ (.refl _) ⟨i+1,m,a,cp,ys,Na,rfl,rfl,rfl,by omega,hm,by omega,ra,fun J hJ=>by rw [und_take hp,if_neg (head_none (by omega)),List.append_nil];exact hy J hJ⟩ ?_
  ·exact .cons (by first|exact aK rfl (by omega)|rfl) (.cons (by first|exact aK rfl (by omega)|rfl) (.cons (by first|exact aK rfl (by omega)|rfl) (.cons (by first|exact aK rfl (by omega)|rfl) (.cons (by first|exact aK rfl (by omega)|rfl) .nil))))
  ·omega
 have hin:i=n:=by omega
 rw [List.take_of_length_le (by omega)]at hy
 have hlen1: ∀q∈undR c l,1≤q.1.length:=fun q hq=>by
  obtain⟨_,r,e⟩:=mem_und.1 hq
  rw [e];simp
 refine At.exit (aF (aF (aU (aA (s_3 (At.seq fun _ s_10=>At.region (aC (aD rfl) rfl rfl (aH (aX rfl) (.cons rfl (.cons rfl .nil)) (FCut ra.rsl hm.symm ((hy N hP).rows hlen1) (by omega)) Try.func54 rfl rfl (by simp) rfl ?_))))))))
 rintro v32 L32 ⟨M32,a32,c32,rfl,rfl,r32⟩
 change At _ _ _ [M32,Na,R] _
 refine aE (aD rfl) rfl rfl (aB (aA (s_10 (At.ret ((At.sub (L':= [M32,R]) (.cons_cons _ (.cons _ (.cons_cons _ (.slnil)))) (aQ (L1:= [M32]) rfl (.tmp rfl .nil) (.refl _) (.refl _) ?_)))))))
 exact⟨_,⟨M32,a32,c32,rfl,rfl,r32⟩,fun J hJ=>(hy J hJ).take_cut hlen1⟩
theorem lcp_stop: ∀ {a b:List UInt8} {i:Nat},i≤lcp a b→ ¬(i<a.length∧i<b.length∧a.getD i 0=b.getD i 0)→lcp a b=i
 | [],b,i,h,_=>by simp [lcp]at h⊢;omega
 |x::a,[],i,h,_=>by simp [lcp]at h⊢;omega
 |x::a,y::b,0,_,k=>by
  have e:x≠y:=fun e=>k ⟨by simp,by simp,by simp [e]⟩
  rw [lcp,if_neg e]
 |x::a,y::b,i+1,h,k=>by
  by_cases e:x=y
  ·rw [lcp,if_pos e]at h⊢
   rw [lcp_stop (i:=i) (by omega) fun⟨k1,k2,k3⟩=>k ⟨by simpa using k1,by simpa using k2,by simpa using k3⟩]
  ·rw [lcp,if_neg e]at h;omega
theorem lcp_go {a b:List UInt8} {i:Nat} (h:i≤lcp a b) (h1:i<a.length) (h2:i<b.length) (h3:((a.getD i 0).toNat:Int)=((b.getD i 0).toNat:Int)):i+1≤lcp a b:=by
 refine Classical.byContradiction fun k=>?_
 have e:lcp a b=i:=by omega
 have h4:=(lcp_iff (k:=i)).1 h
 have:i+1≤lcp a b:=lcp_iff.2 ⟨by omega,by omega,by
  rw [List.take_add_one,List.take_add_one,h4.2.2,List.getElem?_eq_getElem h1,List.getElem?_eq_getElem h2]
  have e1:a.getD i 0=b.getD i 0:=by rw [←UInt8.toNat_inj];omega
  rw [List.getD_eq_getElem?_getD,List.getElem?_eq_getElem h1,List.getD_eq_getElem?_getD,List.getElem?_eq_getElem h2]at e1
  rw [show a[i]=b[i]from e1]⟩
 omega
set_option maxHeartbeats 1000000 in
theorem FShared {l:List PR} (h:RSl N 2 ao n cap (cellsP xs)) (hP:PsN N l xs) (hn:n≤1099511627776) {p q:PR} (hp:l[0]? =some p) (hq:l[l.length- 1]? =some q) (h40:p.1.length≤1099511627776):Fn Try.prog 53 #[.slice ao n cap] [] [N] (fun v L=>v=.int .i64 ((lcp p.1 q.1:Nat):Int)∧L= []):=by
 have hxn:xs.length=n:=by have:=h.1;rw [cellsP_len]at this;omega
 have hln:=hP.len
 have h0:0<l.length:=(List.getElem?_eq_some_iff.1 hp).1
 have hcap:=h.cap63
 refine Fn.enter (vs:= [.slice ao n cap]) Try.func53 rfl rfl rfl ?_
 intro E R hR
 have hNR:=hR N (by simp)
 have h:=h.le hNR
 have hPR:=hP.le hNR
 obtain⟨p',x,hp',hx,hpx⟩:=hPR.at (i:=0) h0
 obtain rfl:p'=p:=Option.some.inj (hp'.symm.trans hp)
 obtain⟨q',y,hq',hy,hqy⟩:=hPR.at (i:=l.length- 1) (by omega)
 obtain rfl:q'=q:=Option.some.inj (hq'.symm.trans hq)
 have s3:=hpx.row
 have s4:=hqy.row
 have hr3:=hpx.row.cap63
 have hr4:=hqy.row.cap63
 have hl3:=hpx.rn
 have hl4:=hqy.rn
 have hsm:ao.isSome=true:=h.isSome (by omega)
 change At _ _ E [R] _
 refine At.seq fun _ s_1=>At.region (aE (aD rfl) rfl rfl (aB (aA (s_1 (At.seq fun _ s_2=>At.drawn [] [0,1,2,3,4,5,6,7,8,9,10,11,12] (by kernel_rfl) (by kernel_rfl) (aC (aI rfl rfl rfl (by kernel_rfl)) rfl rfl (op_idxE (aI rfl rfl rfl (by kernel_rfl)) se70 rfl rfl h (show _=(((0:Nat)):Int)from by omega) (by omega) rfl ?_)))))))
 refine op_fieldAddrE (aI rfl rfl rfl (by kernel_rfl)) fl101_0 rfl (by first|rfl|assumption) rfl ?_
 refine aR (aI rfl rfl rfl (by kernel_rfl)) sc33 rfl h (by first|exact get8 (by omega)|exact get64 (by omega)|exact get32 (by omega)|exact cellsP_row hx) (by first|exact aN|exact aV|exact aZ|exact mem3|exact mem4|exact mem5|exact mem6|exact mem7|exact mem8|exact mem9) rfl ?_
 refine aC (aI rfl rfl rfl (by kernel_rfl)) rfl rfl (aC (aI rfl rfl rfl (by kernel_rfl)) rfl rfl (aS (aI rfl rfl rfl (by kernel_rfl)) se70 rfl rfl (op_subI (aI rfl rfl rfl (by kernel_rfl)) rfl rfl (by omega) (by omega) rfl (op_idxE (aI rfl rfl rfl (by kernel_rfl)) se70 rfl rfl h (show _=(((l.length- 1:Nat)):Int)from by omega) (by omega) rfl ?_))))
 refine op_fieldAddrE (aI rfl rfl rfl (by kernel_rfl)) fl101_0 rfl (by first|rfl|assumption) rfl ?_
 refine aR (aI rfl rfl rfl (by kernel_rfl)) sc33 rfl h (by first|exact get8 (by omega)|exact get64 (by omega)|exact get32 (by omega)|exact cellsP_row hy) (by first|exact aN|exact aV|exact aZ|exact mem3|exact mem4|exact mem5|exact mem6|exact mem7|exact mem8|exact mem9) rfl ?_
 refine aE (aI rfl rfl rfl (by kernel_rfl)) rfl rfl (aE (aI rfl rfl rfl (by kernel_rfl)) rfl rfl (At.oneNil (aA (s_2 (At.seq fun _ s_3=>At.region (aE (aD rfl) rfl rfl (aB (aA (s_3 (At.seq fun _ s_4=>At.block (At.loop (fun fr_ hp_ ms_=> ∃(i:Nat),fr_= [(3,.slice x.ra x.rn x.rc),(4,.slice y.ra y.rn y.rc),(5,.int .i64 (i:Int))]∧hp_= [R]∧x.rn- i=ms_∧(i≤lcp p'.1 q'.1)) ?_ (.refl _) ⟨0,rfl,rfl,rfl,Nat.zero_le _⟩ ?_)))))))))))
 ·exact .cons (by first|exact aK rfl (by omega)|rfl) (.cons (by first|exact aK rfl (by omega)|rfl) (.cons (by first|exact aK rfl (by omega)|rfl) .nil))
 rintro _ _ _ ⟨i,rfl,rfl,rfl,hi⟩
 refine At.seq fun _ s_5=>At.seq fun _ s_6=>At.drawn [] [0,1,2,3,4,5,6,7,8,9,10,11,12,13,14,15,16,17,18,19,20] (by kernel_rfl) (by kernel_rfl) (aC (aI rfl rfl rfl (by kernel_rfl)) rfl rfl (aC (aI rfl rfl rfl (by kernel_rfl)) rfl rfl (aS (aI rfl rfl rfl (by kernel_rfl)) se33 rfl rfl (op_lss (aI rfl rfl rfl (by kernel_rfl)) rfl rfl rfl (aC (aI rfl rfl rfl (by kernel_rfl)) rfl rfl (At.partP (d:=21) rfl (fun g21=>?_) (fun g21=>?_)))))))
 ·refine aC (nxogf rfl rfl rfl rfl rfl rfl (by kernel_rfl)) rfl rfl (aC (nxogf rfl rfl rfl rfl rfl rfl (by kernel_rfl)) rfl rfl (aS (nxogf rfl rfl rfl rfl rfl rfl (by kernel_rfl)) se33 rfl rfl (op_lss (nxogf rfl rfl rfl rfl rfl rfl (by kernel_rfl)) rfl rfl rfl (op_pickT (aI rfl rfl rfl (by kernel_rfl)) rfl rfl rfl (aC (aI rfl rfl rfl (by kernel_rfl)) rfl rfl (At.partP (d:=27) rfl (fun g27=>?_) (fun g27=>?_)))))))
  ·refine aC (nxogf rfl rfl rfl rfl rfl rfl (by kernel_rfl)) rfl rfl (aC (nxogf rfl rfl rfl rfl rfl rfl (by kernel_rfl)) rfl rfl (op_idx1 (nxogf rfl rfl rfl rfl rfl rfl (by kernel_rfl)) se33 rfl rfl s3 (show _=(((i:Nat)):Int)from by omega) (by omega) rfl ?_))
   refine aR (nxogf rfl rfl rfl rfl rfl rfl (by kernel_rfl)) sc5 rfl s3 (by first|exact get8 (by omega)|exact get64 (by omega)|exact get32 (by omega)) (by first|exact aN|exact aV|exact aZ|exact mem3|exact mem4|exact mem5|exact mem6|exact mem7|exact mem8|exact mem9) rfl ?_
   refine aC (nxogf rfl rfl rfl rfl rfl rfl (by kernel_rfl)) rfl rfl (aC (nxogf rfl rfl rfl rfl rfl rfl (by kernel_rfl)) rfl rfl (op_idx1 (nxogf rfl rfl rfl rfl rfl rfl (by kernel_rfl)) se33 rfl rfl s4 (show _=(((i:Nat)):Int)from by omega) (by omega) rfl ?_))
   refine aR (nxogf rfl rfl rfl rfl rfl rfl (by kernel_rfl)) sc5 rfl s4 (by first|exact get8 (by omega)|exact get64 (by omega)|exact get32 (by omega)) (by first|exact aN|exact aV|exact aZ|exact mem3|exact mem4|exact mem5|exact mem6|exact mem7|exact mem8|exact mem9) rfl ?_
   refine op_eql (nxogf rfl rfl rfl rfl rfl rfl (by kernel_rfl)) rfl rfl rfl (op_pickT (aI rfl rfl rfl (by kernel_rfl)) rfl rfl rfl (At.oneNil (aA (s_6 (aL rfl (fun c37=>?_) (fun c37=>?_))))))
   ·refine At.skip (aA (s_5 (At.block (At.region (aC (aD rfl) rfl rfl (aO (aD rfl) rfl rfl (by omega) (by omega) rfl (aE (aD rfl) rfl rfl (aB (aP (aA (bB ?_ (.refl _) ⟨i+1,rfl,rfl,rfl,lcp_go hi (by omega) (by omega) c37⟩ ?_)))))))))))
    ·exact .cons (by first|exact aK rfl (by omega)|rfl) (.cons (by first|exact aK rfl (by omega)|rfl) (.cons (by first|exact aK rfl (by omega)|rfl) .nil))
    ·omega
   refine At.exit (aF (aF (aU (aA (s_4 (At.seq fun _ s_7=>At.region (aC (aD rfl) rfl rfl (aE (aD rfl) rfl rfl (aB (aA (s_7 (At.ret ((aQ (L1:= []) rfl (.tmp rfl .nil) (.refl _) (.refl _) ?_))))))))))))))
   exact⟨by rw [lcp_stop hi fun k=>c37 (by rw [k.2.2])],rfl⟩
  refine aT rfl rfl rfl rfl rfl rfl rfl rfl (aT rfl rfl rfl rfl rfl rfl rfl rfl (aT rfl rfl rfl rfl rfl rfl rfl rfl (aT rfl rfl rfl rfl rfl rfl rfl rfl (aT rfl rfl rfl rfl rfl rfl rfl rfl (aT rfl rfl rfl rfl rfl rfl rfl rfl (aT rfl rfl rfl rfl rfl rfl rfl rfl (aT rfl rfl rfl rfl rfl rfl rfl rfl (aT rfl rfl rfl rfl rfl rfl rfl rfl (op_pickF (aI rfl rfl rfl (by kernel_rfl)) rfl rfl rfl (At.oneNil (aA (s_6 (At.condF rfl (At.exit (aF (aF (aU (aA (s_4 (At.seq fun _ s_8=>At.region (aC (aD rfl) rfl rfl (aE (aD rfl) rfl rfl (aB (aA (s_8 ?_)))))))))))))))))))))))))
  refine At.ret ((aQ (L1:= []) rfl (.tmp rfl .nil) (.refl _) (.refl _) ?_))
  exact⟨by rw [lcp_stop hi fun k=>g27 (by have:=k.2.1;omega)],rfl⟩
 refine aT rfl rfl rfl rfl rfl rfl rfl rfl (aT rfl rfl rfl rfl rfl rfl rfl rfl (aT rfl rfl rfl rfl rfl rfl rfl rfl (aT rfl rfl rfl rfl rfl rfl rfl rfl (op_pickF (aI rfl rfl rfl (by kernel_rfl)) rfl rfl rfl (aC (aI rfl rfl rfl (by kernel_rfl)) rfl rfl (aT rfl rfl rfl rfl rfl rfl rfl rfl (aT rfl rfl rfl rfl rfl rfl rfl rfl (aT rfl rfl rfl rfl rfl rfl rfl rfl (aT rfl rfl rfl rfl rfl rfl rfl rfl (aT rfl rfl rfl rfl rfl rfl rfl rfl (aT rfl rfl rfl rfl rfl rfl rfl rfl (aT rfl rfl rfl rfl rfl rfl rfl rfl (aT rfl rfl rfl rfl rfl rfl rfl rfl (aT rfl rfl rfl rfl rfl rfl rfl rfl (op_pickF (aI rfl rfl rfl (by kernel_rfl)) rfl rfl rfl (At.oneNil (aA (s_6 (At.condF rfl (At.exit (aF (aF (aU (aA (s_4 ?_)))))))))))))))))))))))))
 refine At.seq fun _ s_9=>At.region (aC (aD rfl) rfl rfl (aE (aD rfl) rfl rfl (aB (aA (s_9 (At.ret ((aQ (L1:= []) rfl (.tmp rfl .nil) (.refl _) (.refl _) ?_))))))))
 exact⟨by rw [lcp_stop hi fun k=>g21 (by have:=k.1;omega)],rfl⟩
end
end Go.Proofs.Ytdpjbefeabokgaa
/- Layer 12, the reference: nibbles, pairs without their first nibbles, those under a nibble, how many all share. No condition but that bytes are not longer than a machine holds. -/
namespace Go.Proofs.Ytdpjbefeabokgaa
open Go Go.RowKit
set_option maxRecDepth 100000
section
variable {N : Heaplet} {ao : Option Addr} {n cap : Nat} {l : List UInt8}
theorem rNibs (h:RSl N 1 ao n cap (u8s l)) (hn:n≤1099511627776):Fn Try.prog 37 #[.slice ao n cap] [] [N] (fun v L=> ∃M a c,v=.slice a (2*n) c∧L= [M]∧Row M 5 1 a (2*n) c (u8s (nibs l))):=by
 have hlen:=h.len8
 have hcap:=h.cap63
 refine Fn.enter (vs:= [.slice ao n cap]) Try.func37 rfl rfl rfl ?_
 intro E R hR
 have h:=h.le (hR N (by simp))
 change At _ _ E [R] _
 refine At.seq fun _ s_1=>At.region (aE (aD rfl) rfl rfl (aB (aA (s_1 (At.seq fun _ s_2=>At.region (aE (aD rfl) rfl rfl (aB (aA (s_2 (At.seq fun _ s_3=>At.seq fun _ s_4=>At.region (aE (aD rfl) rfl rfl (aB (aA (s_4 (At.block (At.empty (At.loop (fun fr_ hp_ ms_=> ∃(k m:Nat) (a:Option Addr) (c:Nat) (Na:Heaplet),fr_= [(0,.slice ao n cap),(3,.slice a m c),(4,.int .i64 (k:Int))]∧hp_= [Na,R]∧n- k=ms_∧(k≤n)∧(m=2*k)∧(Row Na 5 1 a m c (u8s (nibs (l.take k))))) ?_ (.refl _) ⟨0,0,none,0,nilH,rfl,rfl,rfl,Nat.zero_le _,rfl,Row.nil _ _ _⟩ ?_)))))))))))))))))
 ·exact .cons (by first|exact aK rfl (by omega)|rfl) (.cons (by first|exact aK rfl (by omega)|rfl) (.cons (by first|exact aK rfl (by omega)|rfl) .nil))
 rintro _ _ _ ⟨k,m,a,c,Na,rfl,rfl,rfl,hk,hm,ra⟩
 refine At.seq fun _ s_5=>At.seq fun _ s_6=>At.region (aC (aD rfl) rfl rfl (aC (aD rfl) rfl rfl (aS (aD rfl) se33 rfl rfl (op_lss (aD rfl) rfl rfl rfl (aB (aA (s_6 (aL rfl (fun c8=>?_) (fun c8=>?_)))))))))
 ·have hx:=(l.getD k 0).toNat_lt
  have e1:=nib_hi (l.getD k 0)
  have e2:=nib_lo (l.getD k 0)
  refine At.skip (aA (s_5 (At.seq fun _ s_7=>At.block (At.drawnS [R] [11,12] [0] [0,1,2,3,4,5,6,7,8,9,10,11,12,13] (by kernel_rfl) (by kernel_rfl) (.cons _ (.refl _)) (aC (aM rfl rfl rfl) rfl rfl (aC (aM rfl rfl rfl) rfl rfl (aC (aM rfl rfl rfl) rfl rfl (op_idx1 (aM rfl rfl rfl) se33 rfl rfl h (show _=(((k:Nat)):Int)from by omega) (by omega) rfl ?_))))))))
  refine aR (aM rfl rfl rfl) sc5 rfl h (by first|exact get8 (by omega)|exact get64 (by omega)|exact get32 (by omega)) (by first|exact aN|exact aV|exact aZ|exact mem3|exact mem4|exact mem5|exact mem6|exact mem7|exact mem8|exact mem9) rfl ?_
  refine op_quo8 (aM rfl rfl rfl) rfl rfl (by omega) (by omega) (by omega) rfl (aC (aM rfl rfl rfl) rfl rfl (aC (aM rfl rfl rfl) rfl rfl (op_idx1 (aM rfl rfl rfl) se33 rfl rfl h (show _=(((k:Nat)):Int)from by omega) (by omega) rfl ?_)))
  refine aR (aM rfl rfl rfl) sc5 rfl h (by first|exact get8 (by omega)|exact get64 (by omega)|exact get32 (by omega)) (by first|exact aN|exact aV|exact aZ|exact mem3|exact mem4|exact mem5|exact mem6|exact mem7|exact mem8|exact mem9) rfl ?_
  refine op_rem (aM rfl rfl rfl) rfl rfl (by omega) (by omega) rfl (op_lit (Nx.agree (nxss rfl rfl rfl rfl)) Try.underlying33 ze5 sz5 (.cons rfl (.cons rfl .nil)) rfl rfl (by simp [Value.cells]) rfl rfl rfl (fun N22 a22 r22=>?_))
  simp only [flatV,List.flatMap_cons,List.flatMap_nil,Value.cells,List.append_nil,List.cons_append,List.nil_append]at r22
  have s22:=r22.rsl
  refine At.anyS (.refl _) ?_
  rw [vb2 (a:=l.getD k 0>>>4) (b:=l.getD k 0&&&15) (by omega) (by omega)]at s22
  refine bD (nxss rfl rfl rfl rfl) Try.underlying33 Try.underlying33 te5 rfl rfl ra s22 (by first|exact aN|exact aV|exact aZ|exact mem3|exact mem4|exact mem5|exact mem6|exact mem7|exact mem8|exact mem9) (by first|exact one_u8s _|exact one_u64s _|exact one_u32s _|(intro u hu;simp at hu;subst hu;rfl)) (by omega) (by omega) sel1 rfl (fun N23 a23 p23 r23=>?_)
  have s23:=r23.rsl
  refine At.anyS (.refl _) ?_
  rw [←u8s_app, ←nibs_take (by omega)]at r23
  refine aE (aM rfl rfl rfl) rfl rfl (At.sNil (aP (aA (s_7 (At.region (aC (aD rfl) rfl rfl (aO (aD rfl) rfl rfl (by omega) (by omega) rfl (aE (aD rfl) rfl rfl (aB (aA (At.sub (L':= [N23,R]) (.cons_cons _ (.cons _ (.cons_cons _ (.slnil)))) (bB ?_ (.refl _) ⟨k+1,m+2,a23,p23,N23,rfl,rfl,rfl,by omega,by omega,r23⟩ ?_))))))))))))
  ·exact .cons (by first|exact aK rfl (by omega)|rfl) (.cons (by first|exact aK rfl (by omega)|rfl) (.cons (by first|exact aK rfl (by omega)|rfl) .nil))
  ·omega
 refine At.exit (aF (aF (aU (aA (s_3 (At.seq fun _ s_8=>At.region (aC (aD rfl) rfl rfl (aE (aD rfl) rfl rfl (aB (aA (s_8 (At.ret ((aQ (L1:= [Na]) rfl (.tmp rfl .nil) (.refl _) (.refl _) ?_))))))))))))))
 have e:k=n:=by omega
 subst e
 rw [List.take_of_length_le (by omega),hm]at ra
 exact⟨Na,a,c,by rw [hm],rfl,ra⟩
end
section
variable {N : Heaplet} {ao : Option Addr} {n cap : Nat} {xs : List PV}
def PairsQ (xs:List PV) (v:Value) (L:List Heaplet):Prop:= ∃M a c,v=.slice a xs.length c∧L= [M]∧Row M 114 2 a xs.length c (cellsP xs)
set_option maxHeartbeats 1000000 in
theorem rCut (h:RSl N 2 ao n cap (cellsP xs)) {k:Nat} (hk:RowsB k xs) (hn:n≤1099511627776):Fn Try.prog 63 #[.slice ao n cap,.int .i64 (k:Int)] [] [N] (PairsQ (xs.map (PV.cut k))):=by
 have hxn:xs.length=n:=by have:=h.1;rw [cellsP_len]at this;omega
 have hcap:=h.cap63
 refine Fn.enter (vs:= [.slice ao n cap,.int .i64 (k:Int)]) Try.func63 rfl rfl rfl ?_
 intro E R hR
 have h:=h.le (hR N (by simp))
 change At _ _ E [R] _
 refine At.seq fun _ s_1=>At.region (aE (aD rfl) rfl rfl (aB (aA (s_1 (At.seq fun _ s_2=>At.region (aE (aD rfl) rfl rfl (aB (aA (s_2 (At.seq fun _ s_3=>At.seq fun _ s_4=>At.region (aE (aD rfl) rfl rfl (aB (aA (s_4 (At.block (At.empty (At.loop (fun fr_ hp_ ms_=> ∃(i m:Nat) (a:Option Addr) (cp:Nat) (Na:Heaplet),fr_= [(0,.slice ao n cap),(1,.int .i64 (k:Int)),(5,.slice a m cp),(6,.int .i64 (i:Int))]∧hp_= [Na,R]∧n- i=ms_∧(i≤n)∧(m=i)∧(Row Na 114 2 a m cp (cellsP ((xs.take i).map (PV.cut k))))) ?_ (.refl _) ⟨0,0,none,0,nilH,rfl,rfl,rfl,Nat.zero_le _,rfl,Row.nil _ _ _⟩ ?_)))))))))))))))))
 ·exact .cons (by first|exact aK rfl (by omega)|rfl) (.cons (by first|exact aK rfl (by omega)|rfl) (.cons (by first|exact aK rfl (by omega)|rfl) (.cons (by first|exact aK rfl (by omega)|rfl) .nil)))
 rintro _ _ _ ⟨i,m,a,cp,Na,rfl,rfl,rfl,hi,hm,ra⟩
 refine At.seq fun _ s_5=>At.seq fun _ s_6=>At.region (aC (aD rfl) rfl rfl (aC (aD rfl) rfl rfl (aS (aD rfl) se86 rfl rfl (op_lss (aD rfl) rfl rfl rfl (aB (aA (s_6 (aL rfl (fun c10=>?_) (fun c10=>?_)))))))))
 ·obtain⟨x,hx⟩: ∃x,xs[i]? =some x:=⟨_,List.getElem?_eq_getElem (by omega)⟩
  obtain⟨x1,x2,x3⟩:=hk x (List.mem_of_getElem? hx)
  have hsm:ao.isSome=true:=h.isSome (by omega)
  refine At.skip (aA (s_5 (At.seq fun _ s_7=>At.block (At.drawnS [R] [14,15] [0] [0,1,2,3,4,5,6,7,8,9,10,11,12,13,14,15,16] (by kernel_rfl) (by kernel_rfl) (.cons _ (.refl _)) (aC (aM rfl rfl rfl) rfl rfl (aC (aM rfl rfl rfl) rfl rfl (aC (aM rfl rfl rfl) rfl rfl (op_idxE (aM rfl rfl rfl) se86 rfl rfl h (show _=(((i:Nat)):Int)from by omega) (by omega) rfl ?_))))))))
  refine op_fieldAddrE (aM rfl rfl rfl) fl114_0 rfl (by first|rfl|assumption) rfl ?_
  refine aR (aM rfl rfl rfl) sc33 rfl h (by first|exact get8 (by omega)|exact get64 (by omega)|exact get32 (by omega)|exact cellsP_row hx) (by first|exact aN|exact aV|exact aZ|exact mem3|exact mem4|exact mem5|exact mem6|exact mem7|exact mem8|exact mem9) rfl ?_
  refine aC (aM rfl rfl rfl) rfl rfl (op_slice (aM rfl rfl rfl) se33 rfl (.some rfl (show _=(((k:Nat)):Int)from by omega)) .none .none (by omega) (by omega) (by omega) (by simp) rfl ?_)
  refine aC (aM rfl rfl rfl) rfl rfl (aC (aM rfl rfl rfl) rfl rfl (op_idxE (aM rfl rfl rfl) se86 rfl rfl h (show _=(((i:Nat)):Int)from by omega) (by omega) rfl ?_))
  refine op_fieldAddrE (aM rfl rfl rfl) fl114_1 rfl (by first|rfl|assumption) rfl ?_
  refine aR (aM rfl rfl rfl) sc33 rfl h (by first|exact get8 (by omega)|exact get64 (by omega)|exact get32 (by omega)|exact cellsP_val hx) (by first|exact aN|exact aV|exact aZ|exact mem3|exact mem4|exact mem5|exact mem6|exact mem7|exact mem8|exact mem9) rfl ?_
  refine op_build (out:= [_,_]) (aM rfl rfl rfl) ze114 pl114 (.cons rfl (.cons rfl .nil)) rfl rfl (op_lit (Nx.agree (nxss rfl rfl rfl rfl)) Try.underlying86 ze114 sz114 (.cons rfl .nil) rfl rfl (by simp [Value.cells]) rfl rfl rfl (fun N27 a27 r27=>?_))
  simp only [flatV,List.flatMap_cons,List.flatMap_nil,Value.cells,List.append_nil,List.cons_append,List.nil_append]at r27
  have s27:=r27.rsl
  refine At.anyS (.refl _) ?_
  change Row N27 _ 2 a27 1 1 (cellsP [x.cut k])at r27
  have s27:=r27.rsl
  refine bD (nxss rfl rfl rfl rfl) Try.underlying86 Try.underlying86 te114 rfl rfl ra s27 (by first|exact aN|exact aV|exact aZ|exact mem3|exact mem4|exact mem5|exact mem6|exact mem7|exact mem8|exact mem9) (cellsP_one _) (by omega) (by omega) sel1 rfl (fun N28 a28 p28 r28=>?_)
  have s28:=r28.rsl
  refine At.anyS (.refl _) ?_
  rw [←cellsP_app]at r28
  refine aE (aM rfl rfl rfl) rfl rfl (At.sNil (aP (aA (s_7 (At.region (aC (aD rfl) rfl rfl (aO (aD rfl) rfl rfl (by omega) (by omega) rfl (aE (aD rfl) rfl rfl (aB (aA (At.sub (L':= [N28,R]) (.cons_cons _ (.cons _ (.cons_cons _ (.slnil)))) ?_)))))))))))
  refine bB ?_ (.refl _) ⟨i+1,m+1,a28,p28,N28,rfl,rfl,rfl,by omega,by omega,by rw [take_next1 hx,List.map_append];exact r28⟩ ?_
  ·exact .cons (by first|exact aK rfl (by omega)|rfl) (.cons (by first|exact aK rfl (by omega)|rfl) (.cons (by first|exact aK rfl (by omega)|rfl) (.cons (by first|exact aK rfl (by omega)|rfl) .nil)))
  ·omega
 refine At.exit (aF (aF (aU (aA (s_3 (At.seq fun _ s_8=>At.region (aC (aD rfl) rfl rfl (aE (aD rfl) rfl rfl (aB (aA (s_8 (At.ret ((aQ (L1:= [Na]) rfl (.tmp rfl .nil) (.refl _) (.refl _) ?_))))))))))))))
 have e:i=n:=by omega
 subst e
 rw [List.take_of_length_le (by omega)]at ra
 have e2:m=(xs.map (PV.cut k)).length:=by rw [List.length_map];omega
 rw [e2]at ra⊢
 exact⟨Na,a,cp,rfl,rfl,ra⟩
set_option maxHeartbeats 1000000 in
theorem rUnder {l:List PR} (h:RSl N 2 ao n cap (cellsP xs)) (hP:PsN N l xs) (hn:n≤1099511627776) (c:UInt8):Fn Try.prog 64 #[.slice ao n cap,.int .u8 (c.toNat:Int)] [] [N] (fun v L=> ∃ys,PairsQ ys v L∧ ∀J:Heaplet,PsN J l xs→PsN J (undR c l) ys):=by
 have hxn:xs.length=n:=by have:=h.1;rw [cellsP_len]at this;omega
 have hln:=hP.len
 have hcap:=h.cap63
 refine Fn.enter (vs:= [.slice ao n cap,.int .u8 (c.toNat:Int)]) Try.func64 rfl rfl rfl ?_
 intro E R hR
 have hNR:=hR N (by simp)
 have h:=h.le hNR
 have hPR:=hP.le hNR
 change At _ _ E [R] _
 refine At.seq fun _ s_1=>At.region (aE (aD rfl) rfl rfl (aB (aA (s_1 (At.seq fun _ s_2=>At.region (aE (aD rfl) rfl rfl (aB (aA (s_2 (At.seq fun _ s_3=>At.seq fun _ s_4=>At.region (aE (aD rfl) rfl rfl (aB (aA (s_4 (At.block (At.empty (At.loop (fun fr_ hp_ ms_=> ∃(i m:Nat) (a:Option Addr) (cp:Nat) (ys:List PV) (Na:Heaplet),fr_= [(0,.slice ao n cap),(1,.int .u8 (c.toNat:Int)),(5,.slice a m cp),(6,.int .i64 (i:Int))]∧hp_= [Na,R]∧n- i=ms_∧(i≤n)∧(m=ys.length)∧(m≤i)∧(Row Na 114 2 a m cp (cellsP ys))∧(∀J:Heaplet,PsN J l xs→PsN J (undR c (l.take i)) ys)) ?_ (.refl _) ⟨0,0,none,0,[],nilH,rfl,rfl,rfl,Nat.zero_le _,rfl,Nat.le_refl _,Row.nil _ _ _,fun J _=>PsN.nil _⟩ ?_)))))))))))))))))
 ·exact .cons (by first|exact aK rfl (by omega)|rfl) (.cons (by first|exact aK rfl (by omega)|rfl) (.cons (by first|exact aK rfl (by omega)|rfl) (.cons (by first|exact aK rfl (by omega)|rfl) .nil)))
 rintro _ _ _ ⟨i,m,a,cp,ys,Na,rfl,rfl,rfl,hi,hm,hm2,ra,hy⟩
 refine At.seq fun _ s_5=>At.seq fun _ s_6=>At.region (aC (aD rfl) rfl rfl (aC (aD rfl) rfl rfl (aS (aD rfl) se86 rfl rfl (op_lss (aD rfl) rfl rfl rfl (aB (aA (s_6 (aL rfl (fun c10=>?_) (fun c10=>?_)))))))))
 ·obtain⟨p,x,hp,hx,hpx⟩:=hPR.at (i:=i) (by omega)
  have hrb:=hpx.row.cap63
  have hrl:=hpx.row.len8
  have srow:=hpx.row
  have hsm:ao.isSome=true:=h.isSome (by omega)
  refine At.skip (aA (s_5 (At.seq fun _ s_7=>At.block (At.seq fun _ s_8=>At.region (aC (aD rfl) rfl rfl (aC (aD rfl) rfl rfl (op_idxE (aD rfl) se86 rfl rfl h (show _=(((i:Nat)):Int)from by omega) (by omega) rfl ?_)))))))
  refine op_fieldAddrE (aD rfl) fl114_0 rfl (by first|rfl|assumption) rfl ?_
  refine aR (aD rfl) sc33 rfl h (by first|exact get8 (by omega)|exact get64 (by omega)|exact get32 (by omega)|exact cellsP_row hx) (by first|exact aN|exact aV|exact aZ|exact mem3|exact mem4|exact mem5|exact mem6|exact mem7|exact mem8|exact mem9) rfl ?_
  refine aS (aD rfl) se33 rfl rfl (op_gtr (aD rfl) rfl rfl rfl (aC (aD rfl) rfl rfl (At.partP (d:=20) rfl (fun g20=>?_) (fun g20=>?_))))
  ·refine aC (nxgf rfl rfl rfl rfl) rfl rfl (aC (nxgf rfl rfl rfl rfl) rfl rfl (op_idxE (nxgf rfl rfl rfl rfl) se86 rfl rfl h (show _=(((i:Nat)):Int)from by omega) (by omega) rfl ?_))
   refine op_fieldAddrE (nxgf rfl rfl rfl rfl) fl114_0 rfl (by first|rfl|assumption) rfl ?_
   refine aR (nxgf rfl rfl rfl rfl) sc33 rfl h (by first|exact get8 (by omega)|exact get64 (by omega)|exact get32 (by omega)|exact cellsP_row hx) (by first|exact aN|exact aV|exact aZ|exact mem3|exact mem4|exact mem5|exact mem6|exact mem7|exact mem8|exact mem9) rfl ?_
   refine op_idx1 (nxgf rfl rfl rfl rfl) se33 rfl rfl srow (show _=(((0:Nat)):Int)from by omega) (by omega) rfl ?_
   refine aR (nxgf rfl rfl rfl rfl) sc5 rfl srow (by first|exact get8 (by omega)|exact get64 (by omega)|exact get32 (by omega)) (by first|exact aN|exact aV|exact aZ|exact mem3|exact mem4|exact mem5|exact mem6|exact mem7|exact mem8|exact mem9) rfl ?_
   refine aC (nxgf rfl rfl rfl rfl) rfl rfl (op_eql (nxgf rfl rfl rfl rfl) rfl rfl rfl (op_pickT (aD rfl) rfl rfl rfl (aB (aA (s_8 (aL rfl (fun c30=>?_) (fun c30=>?_)))))))
   ·refine At.region (aC (aD rfl) rfl rfl (aC (aD rfl) rfl rfl (aC (aD rfl) rfl rfl (op_idxE (aD rfl) se86 rfl rfl h (show _=(((i:Nat)):Int)from by omega) (by omega) rfl ?_))))
    refine op_loadAggE (ds:= [.slice x.ra x.rn x.rc,.slice x.va x.vn x.vc]) (aD rfl) ag114 rfl h (by exact cellsP_at hx) (by rfl) (by omega) (by first|exact aN|exact aV|exact aZ|exact mem3|exact mem4|exact mem5|exact mem6|exact mem7|exact mem8|exact mem9) rfl ?_
    refine op_lit (aX rfl) Try.underlying86 ze114 sz114 (.cons rfl .nil) rfl rfl (by simp [Value.cells]) rfl rfl rfl (fun N36 a36 r36=>?_)
    simp only [flatV,List.flatMap_cons,List.flatMap_nil,Value.cells,List.append_nil,List.cons_append,List.nil_append]at r36
    have s36:=r36.rsl
    change Row N36 _ 2 a36 1 1 (cellsP [x])at r36
    have s36:=r36.rsl
    refine bD (nxl rfl) Try.underlying86 Try.underlying86 te114 rfl rfl ra s36 (by first|exact aN|exact aV|exact aZ|exact mem3|exact mem4|exact mem5|exact mem6|exact mem7|exact mem8|exact mem9) (cellsP_one _) (by omega) (by omega) sel1 rfl (fun N37 a37 p37 r37=>?_)
    have s37:=r37.rsl
    rw [←cellsP_app]at r37
    refine aE (aD rfl) rfl rfl (aB (aP (aA (s_7 (At.region (aC (aD rfl) rfl rfl (aO (aD rfl) rfl rfl (by omega) (by omega) rfl (aE (aD rfl) rfl rfl (aB (aA (At.sub (L':= [N37,R]) (.cons_cons _ (.cons _ (.cons_cons _ (.slnil)))) ?_)))))))))))
    refine bB ?_ (.refl _) ⟨i+1,m+1,a37,p37,ys++ [x],N37,rfl,rfl,rfl,by omega,by simp [hm],by omega,r37,fun J hJ=>by rw [und_take hp,if_pos (head_is (by omega) c30)];exact(hy J hJ).snoc (hJ.each i p x hp hx)⟩ ?_
    ·exact .cons (by first|exact aK rfl (by omega)|rfl) (.cons (by first|exact aK rfl (by omega)|rfl) (.cons (by first|exact aK rfl (by omega)|rfl) (.cons (by first|exact aK rfl (by omega)|rfl) .nil)))
    ·omega
   refine At.skip (aP (aA (s_7 (At.region (aC (aD rfl) rfl rfl (aO (aD rfl) rfl rfl (by omega) (by omega) rfl (aE (aD rfl) rfl rfl (aB (aA ?_)))))))))
   refine bB ?_ (.refl _) ⟨i+1,m,a,cp,ys,Na,rfl,rfl,rfl,by omega,hm,by omega,ra,fun J hJ=>by rw [und_take hp,if_neg (head_not c30),List.append_nil];exact hy J hJ⟩ ?_
   ·exact .cons (by first|exact aK rfl (by omega)|rfl) (.cons (by first|exact aK rfl (by omega)|rfl) (.cons (by first|exact aK rfl (by omega)|rfl) (.cons (by first|exact aK rfl (by omega)|rfl) .nil)))
   ·omega
  refine aY rfl rfl rfl rfl rfl rfl rfl (aY rfl rfl rfl rfl rfl rfl rfl (aY rfl rfl rfl rfl rfl rfl rfl (aY rfl rfl rfl rfl rfl rfl rfl (aY rfl rfl rfl rfl rfl rfl rfl (aY rfl rfl rfl rfl rfl rfl rfl (aY rfl rfl rfl rfl rfl rfl rfl (aY rfl rfl rfl rfl rfl rfl rfl (aY rfl rfl rfl rfl rfl rfl rfl (op_pickF (aD rfl) rfl rfl rfl (aB (aA (s_8 (At.condF rfl (At.skip (aP (aA (s_7 (At.region (aC (aD rfl) rfl rfl (aO (aD rfl) rfl rfl (by omega) (by omega) rfl (aE (aD rfl) rfl rfl (aB ?_))))))))))))))))))))))
  refine aA ?_
  refine bB ?_ (.refl _) ⟨i+1,m,a,cp,ys,Na,rfl,rfl,rfl,by omega,hm,by omega,ra,fun J hJ=>by rw [und_take hp,if_neg (head_none (by omega)),List.append_nil];exact hy J hJ⟩ ?_
  ·exact .cons (by first|exact aK rfl (by omega)|rfl) (.cons (by first|exact aK rfl (by omega)|rfl) (.cons (by first|exact aK rfl (by omega)|rfl) (.cons (by first|exact aK rfl (by omega)|rfl) .nil)))
  ·omega
 refine At.exit (aF (aF (aU (aA (s_3 (At.seq fun _ s_9=>At.region (aC (aD rfl) rfl rfl (aE (aD rfl) rfl rfl (aB (aA (s_9 (At.ret ((aQ (L1:= [Na]) rfl (.tmp rfl .nil) (.refl _) (.refl _) ?_))))))))))))))
 rw [List.take_of_length_le (by omega)]at hy
 rw [hm]at ra⊢
 exact⟨ys,⟨Na,a,cp,rfl,rfl,ra⟩,hy⟩
end
end Go.Proofs.Ytdpjbefeabokgaa
/- Layer 12: a row of nibbles as bytes; items of texts and lists. No condition but that bytes are not longer than a machine holds. -/
namespace Go.Proofs.Ytdpjbefeabokgaa
open Go Go.RowKit
set_option maxRecDepth 100000
theorem FNib1 (c:UInt8):Fn Try.prog 35 #[.int .u8 (c.toNat:Int)] [] [] (fun v L=>v=.bool (decide ((c.toNat:Int)>15))∧L= []):=by
 refine Fn.enter (vs:= [.int .u8 (c.toNat:Int)]) Try.func35 rfl rfl rfl ?_
 intro E R hR
 change At _ _ E [R] _
 refine At.seq fun _ s_1=>At.region (aE (aD rfl) rfl rfl (aB (aA (s_1 (At.seq fun _ s_2=>At.region (aC (aD rfl) rfl rfl (op_gtr (aD rfl) rfl rfl rfl (aE (aD rfl) rfl rfl (aB (aA (s_2 (At.ret ((aQ (L1:= []) rfl (.tmp rfl .nil) (.refl _) (.refl _) ?_))))))))))))))
 exact⟨rfl,rfl⟩
theorem FText_t {a:Option Addr} {n c:Nat} :Fn Try.prog 70 #[.slice a n c] [] [] (fun v L=>v=.agg #[.bool false,.slice a n c,.slice none 0 0]∧L= []):=by
 refine Fn.enter (vs:= [.slice a n c]) Try.func70 rfl rfl rfl ?_
 intro E R hR
 change At _ _ E [R] _
 refine At.seq fun _ s_1=>At.region (op_alloc (aX rfl) ze84 rfl (fun N2 b2 B2=>?_))
 change Blk N2 b2 _ [.bool false,.slice none 0 0,.slice none 0 0]at B2
 refine aB (aA (s_1 (At.seq fun _ s_2=>At.region (aC (aD rfl) rfl rfl (op_build (out:= [.bool false,_,.slice none 0 0]) (aD rfl) ze84 pl84 (.cons rfl .nil) rfl rfl (aW (nxl rfl) sz84 rfl rfl rfl rfl rfl B2 (by simp) sel0 (fun N2 B2=>?_)))))))
 simp only [setL,List.set]at B2
 refine aB (aA (s_2 (At.ret ((aQ (L1:= []) rfl (.cell rfl (res_agg (ds:= [_,_,_]) ag84 B2 rfl rfl aN) .nil) (.cons _ (.refl _)) (.refl _) ?_)))))
 exact⟨rfl,rfl⟩
theorem FList_t {a:Option Addr} {n c:Nat} :Fn Try.prog 71 #[.slice a n c] [] [] (fun v L=>v=.agg #[.bool true,.slice none 0 0,.slice a n c]∧L= []):=by
 refine Fn.enter (vs:= [.slice a n c]) Try.func71 rfl rfl rfl ?_
 intro E R hR
 change At _ _ E [R] _
 refine At.seq fun _ s_1=>At.region (op_alloc (aX rfl) ze84 rfl (fun N2 b2 B2=>?_))
 change Blk N2 b2 _ [.bool false,.slice none 0 0,.slice none 0 0]at B2
 refine aB (aA (s_1 (At.seq fun _ s_2=>At.region (aC (aD rfl) rfl rfl (op_build (out:= [_,.slice none 0 0,_]) (aD rfl) ze84 pl84 (.cons rfl (.cons rfl .nil)) rfl rfl (aW (nxl rfl) sz84 rfl rfl rfl rfl rfl B2 (by simp) sel0 (fun N2 B2=>?_)))))))
 simp only [setL,List.set]at B2
 refine aB (aA (s_2 (At.ret ((aQ (L1:= []) rfl (.cell rfl (res_agg (ds:= [_,_,_]) ag84 B2 rfl rfl aN) .nil) (.cons _ (.refl _)) (.refl _) ?_)))))
 exact⟨rfl,rfl⟩
section
variable {N : Heaplet} {ao : Option Addr} {n cap : Nat} {l : List UInt8}
theorem FIdx (h:RSl N 1 ao n cap (u8s l)):Fn Try.prog 51 #[.slice ao n cap,.func (.func 35) #[] #[]] [] [N] (fun v L=> ∃z:Int,v=.int .i64 z∧L= []∧((Nib l∧z= -1)∨(¬Nib l∧0≤z))):=by
 have hlen:=h.len8
 have hcap:=h.cap63
 refine Fn.enter (vs:= [.slice ao n cap,.func (.func 35) #[] #[]]) Try.func51 rfl rfl rfl ?_
 intro E R hR
 have h:=h.le (hR N (by simp))
 change At _ _ E [R] _
 refine At.seq fun _ s_1=>At.region (aE (aD rfl) rfl rfl (aB (aA (s_1 (At.seq fun _ s_2=>At.seq fun _ s_3=>At.region (aC (aD rfl) rfl rfl (aS (aD rfl) se33 rfl rfl (aC (aD rfl) rfl rfl (aB (aA (s_3 (At.block (At.loop (fun fr_ hp_ ms_=> ∃(i:Nat),fr_= [(0,.slice ao n cap),(1,.func (.func 35) #[] #[]),(7,.int .i64 (n:Int)),(8,.int .i64 (i:Int))]∧hp_= [R]∧n- i=ms_∧(i≤n)∧(Nib (l.take i))) ?_ (.refl _) ⟨0,rfl,rfl,rfl,Nat.zero_le _,fun x hx=>by simp at hx⟩ ?_)))))))))))))
 ·exact .cons (by first|exact aK rfl (by omega)|rfl) (.cons (by first|exact aK rfl (by omega)|rfl) (.cons (by first|exact aK rfl (by omega)|rfl) (.cons (by first|exact aK rfl (by omega)|rfl) .nil)))
 rintro _ _ _ ⟨i,rfl,rfl,rfl,hi,hno⟩
 refine At.seq fun _ s_4=>At.region (op_lss (aD rfl) rfl rfl rfl (aB (aA (s_4 (At.seq fun _ s_5=>aL rfl (fun c9=>?_) (fun c9=>?_))))))
 ·have hgx:l[i]? =some (l[i]'(by omega)):=List.getElem?_eq_getElem (by omega)
  have hgd:l.getD i 0=l[i]'(by omega):=by rw [List.getD_eq_getElem?_getD,hgx];rfl
  refine At.skip (aA (s_5 (At.seq fun _ s_6=>At.block (At.seq fun _ s_7=>At.region (aC (aD rfl) rfl rfl (aE (aD rfl) rfl rfl (aB (aA (s_7 (At.seq fun _ s_8=>At.region (aC (aD rfl) rfl rfl (aC (aD rfl) rfl rfl (aC (aD rfl) rfl rfl (op_idx1 (aD rfl) se33 rfl rfl h (show _=(((i:Nat)):Int)from by omega) (by omega) rfl ?_))))))))))))))
  refine aR (aD rfl) sc5 rfl h (by first|exact get8 (by omega)|exact get64 (by omega)|exact get32 (by omega)) (by first|exact aN|exact aV|exact aZ|exact mem3|exact mem4|exact mem5|exact mem6|exact mem7|exact mem8|exact mem9) rfl ?_
  refine op_callV (nxl rfl) rfl (.cons rfl .nil) (FNib1 (l.getD i 0)) (F:= [R]) Try.func35 rfl rfl (.refl _) (by simp) rfl ?_
  rintro v16 L16 ⟨rfl,rfl⟩
  change At _ _ _ [R] _
  refine aB (aA (s_8 (aL rfl (fun c16=>?_) (fun c16=>?_))))
  ·refine At.seq fun _ s_9=>At.region (aC (aD rfl) rfl rfl (aE (aD rfl) rfl rfl (aB (aA (s_9 (At.ret (At.inRet (bA (bA (At.inRet (bA ((aQ (L1:= []) rfl (.tmp rfl .nil) (.refl _) (.refl _) ?_)))))))))))))
   exact⟨_,rfl,rfl,.inr ⟨fun k=>by have:=k _ (List.mem_of_getElem? hgx);rw [←hgd]at this;omega,by omega⟩⟩
  refine At.skip (aP (aA (s_6 (At.region (aO (aD rfl) rfl rfl (by omega) (by omega) rfl (aC (aD rfl) rfl rfl (aB (aA ?_))))))))
  refine bB ?_ (.refl _) ⟨i+1,rfl,rfl,rfl,by omega,fun x hx=>by rw [take_next1 hgx]at hx;rcases List.mem_append.1 hx with hx|hx;exact hno x hx;rw [List.mem_singleton.1 hx, ←hgd];omega⟩ ?_
  ·exact .cons (by first|exact aK rfl (by omega)|rfl) (.cons (by first|exact aK rfl (by omega)|rfl) (.cons (by first|exact aK rfl (by omega)|rfl) (.cons (by first|exact aK rfl (by omega)|rfl) .nil)))
  ·omega
 refine At.exit (aF (aF (aU (aA (s_2 (At.seq fun _ s_10=>At.region (aE (aD rfl) rfl rfl (aB (aA (s_10 (At.ret ((aQ (L1:= []) rfl (.tmp rfl .nil) (.refl _) (.refl _) ?_)))))))))))))
 exact⟨_,rfl,rfl,.inl ⟨by rw [List.take_of_length_le (by omega)]at hno;exact hno,rfl⟩⟩
theorem FHasBad (h:RSl N 1 ao n cap (u8s l)):Fn Try.prog 34 #[.slice ao n cap,.func (.func 35) #[] #[]] [] [N] (fun v L=> ∃b:Bool,v=.bool b∧L= []∧((Nib l∧b=false)∨(¬Nib l∧b=true))):=by
 refine Fn.enter (vs:= [.slice ao n cap,.func (.func 35) #[] #[]]) Try.func34 rfl rfl rfl ?_
 intro E R hR
 have h:=h.le (hR N (by simp))
 change At _ _ E [R] _
 refine At.seq fun _ s_1=>At.region (aE (aD rfl) rfl rfl (aB (aA (s_1 (At.seq fun _ s_2=>At.region (aC (aD rfl) rfl rfl (aC (aD rfl) rfl rfl (aH (aX rfl) (.cons rfl (.cons rfl .nil)) (FIdx h) Try.func51 rfl rfl (by simp) rfl ?_))))))))
 rintro v7 L7 ⟨z,rfl,rfl,hz⟩
 change At _ _ _ [R] _
 refine op_geq (aD rfl) rfl rfl rfl (aE (aD rfl) rfl rfl (aB (aA (s_2 (At.ret ((aQ (L1:= []) rfl (.tmp rfl .nil) (.refl _) (.refl _) (⟨_,rfl,rfl,?_⟩))))))))
 rcases hz with ⟨h1,h2⟩|⟨h1,h2⟩
 ·exact .inl ⟨h1,decide_eq_false (by omega)⟩
 ·exact .inr ⟨h1,decide_eq_true (by omega)⟩
end
end Go.Proofs.Ytdpjbefeabokgaa
/- Layer 12: Compact. No condition but that bytes are not longer than a machine holds. -/
namespace Go.Proofs.Ytdpjbefeabokgaa
open Go Go.RowKit
set_option maxRecDepth 100000
theorem shlN4: ∀a:Nat,a<16→IntKind.u8.wrap ((a:Int)*2^(min (4:Int).toNat IntKind.u8.bits))=((16*a:Nat):Int):=by decide+kernel
theorem orN: ∀a b:Nat,a<16→b<16→bits .or .u8 ((16*a:Nat):Int) (b:Int)=((16*a+b:Nat):Int):=by
 have: ∀a:Nat,a<16→ ∀b:Nat,b<16→bits .or .u8 ((16*a:Nat):Int) (b:Int)=((16*a+b:Nat):Int):=by decide+kernel
 exact fun a b ha hb=>this a ha b hb
theorem pack_take: ∀ {Q:List UInt8} {i:Nat},i % 2=0→i+1<Q.length→packN (Q.take (i+2))=packN (Q.take i)++ [16*Q.getD i 0+Q.getD (i+1) 0]
 | [],i,_,h=>by simp at h
 | [a],i,_,h=>by simp at h
 |a::b::r,0,_,h=>by simp [packN]
 |a::b::r,1,h,_=>by simp at h
 |a::b::r,i+2,h,h2=>by
  have ih:=pack_take (Q:=r) (i:=i) (by omega) (by simp only [List.length_cons]at h2;omega)
  rw [show i+2+2=(i+2).succ.succ from rfl,List.take_succ_cons,List.take_succ_cons,packN,ih,show i+2=i.succ.succ from rfl,List.take_succ_cons,List.take_succ_cons,packN]
  simp
def flagL (leaf:Bool):UInt8:=if leaf then 2 else 0
def rowL (leaf:Bool) (l:List UInt8):List UInt8:=if l.length % 2=1 then (flagL leaf+1)::l else flagL leaf::0::l
theorem rowL_pack (leaf:Bool) (l:List UInt8):packN (rowL leaf l)=cpt l leaf:=by
 unfold rowL cpt flagL
 cases leaf<;>(split<;>rfl)
theorem rowL_len (leaf:Bool) (l:List UInt8):(rowL leaf l).length % 2=0∧(rowL leaf l).length≤l.length+2∧(rowL leaf l).length/2=l.length/2+1:=by
 unfold rowL;split<;>(simp only [List.length_cons];omega)
theorem rowL_nib {leaf:Bool} {l:List UInt8} (h:Nib l):Nib (rowL leaf l):=by
 unfold rowL flagL
 split
 ·intro x hx
  rcases List.mem_cons.1 hx with rfl|hx
  ·cases leaf<;>decide
  ·exact h x hx
 ·intro x hx
  rcases List.mem_cons.1 hx with rfl|hx
  ·cases leaf<;>decide
  ·rcases List.mem_cons.1 hx with rfl|hx
   ·decide
   ·exact h x hx
theorem nib_getD {Q:List UInt8} (h:Nib Q) (i:Nat):(Q.getD i 0).toNat<16:=by
 rw [List.getD_eq_getElem?_getD]
 cases e:Q[i]? with
 |none=>decide
 |some x=>exact h x (List.mem_of_getElem? e)
theorem flag_nat (leaf:Bool):(flagL leaf).toNat≤2∧(flagL leaf+1).toNat=(flagL leaf).toNat+1:=by cases leaf<;>decide
theorem flagW (leaf:Bool):IntKind.u8.wrap (((flagL leaf).toNat:Int)+1)=((flagL leaf+1).toNat:Int):=by cases leaf<;>decide
theorem vb1 {a:UInt8} {x:Int} (ha:(a.toNat:Int)=x): [Value.int .u8 x]=u8s [a]:=by rw [←ha];rfl
section
variable {N : Heaplet} {ao : Option Addr} {n cap : Nat} {l : List UInt8}
def CptP (l:List UInt8) (leaf:Bool) (v:Value) (L:List Heaplet):Prop:=
 (Nib l∧ ∃M a c,v=.tuple #[.slice a (cpt l leaf).length c,.int .i64 0]∧L= [M]∧Row M 5 1 a (cpt l leaf).length c (u8s (cpt l leaf)))∨(¬Nib l∧v=.tuple #[.slice none 0 0,.int .i64 2]∧L= [])
set_option maxHeartbeats 1000000 in
theorem FCompact (h:RSl N 1 ao n cap (u8s l)) (hn:n≤1099511627776) (leaf:Bool):Fn Try.prog 19 #[.slice ao n cap,.bool leaf] [] [N] (CptP l leaf):=by
 have hlen:=h.len8
 have hf:=flag_nat leaf
 obtain⟨q1,q2,q3⟩:=rowL_len leaf l
 refine Fn.enter (vs:= [.slice ao n cap,.bool leaf]) Try.func19 rfl rfl rfl ?_
 intro E R hR
 have h:=h.le (hR N (by simp))
 change At _ _ E [R] _
 refine At.seq fun _ s_1=>At.region (aE (aD rfl) rfl rfl (aE (aD rfl) rfl rfl (aB (aA (s_1 (At.seq fun _ s_2=>At.seq fun _ s_3=>At.region (aC (aD rfl) rfl rfl (aH (aX rfl) (.cons rfl (.cons rfl .nil)) (FHasBad h) Try.func34 rfl rfl (by simp) rfl ?_))))))))
 rintro v11 L11 ⟨b,rfl,rfl,hb⟩
 change At _ _ _ [R] _
 refine aB (aA (s_3 (At.condB rfl (fun c11=>?_) (fun c11=>?_))))
 ·refine At.seq fun _ s_4=>At.region (aE (aD rfl) rfl rfl (aE (aD rfl) rfl rfl (aB (aA (s_4 (At.ret (bA ((At.retN (L1:= []) rfl (.tmp rfl (.tmp rfl .nil)) rfl (.refl _) (.refl _) ?_)))))))))
  rcases hb with ⟨_,e⟩|⟨k,_⟩
  ·rw [e]at c11;cases c11
  ·exact .inr ⟨k,rfl,rfl⟩
 have hN:Nib l:=hb.elim (fun k=>k.1) fun k=>by rw [k.2]at c11;cases c11
 have hQ:=rowL_nib (leaf:=leaf) hN
 refine At.skip (aA (s_2 (At.seq fun _ s_5=>At.region (aE (aD rfl) rfl rfl (aB (aA (s_5 (At.seq fun _ s_6=>At.meet (fun fr_ hp_=>fr_= [(0,.slice ao n cap),(6,.int .u8 ((flagL leaf).toNat:Int))]∧hp_= [R]∧(True)) ?_ (fun K6_ jk_6=>?_)))))))))
 rotate_left
 ·skip
  refine At.seq fun _ s_7=>At.region (aC (aD rfl) rfl rfl (aB (aA (s_7 (At.condB rfl (fun c12=>?_) (fun c12=>?_))))))
  ·have hfl:(flagL leaf).toNat=2:=by rw [c12];rfl
   refine At.region (aE (aD rfl) rfl rfl (aB (aA (jk_6 ?_ (.refl _) ⟨rfl,rfl,trivial⟩))))
   exact .cons (by first|exact aK rfl (by omega)|rfl) (.cons (by first|exact aK rfl (by omega)|rfl) .nil)
  have hfl:(flagL leaf).toNat=0:=by rw [c12];rfl
  refine At.skip (aA (jk_6 ?_ (.refl _) ⟨rfl,rfl,trivial⟩))
  exact .cons (by first|exact aK rfl (by omega)|rfl) (.cons (by first|exact aK rfl (by omega)|rfl) .nil)
 rintro _ _ ⟨rfl,rfl,ht⟩
 refine s_6 (At.seq fun _ s_8=>At.region (aC (aD rfl) rfl rfl (op_lit (aX rfl) Try.underlying33 ze5 sz5 (.cons rfl (.cons rfl .nil)) rfl rfl (by simp [Value.cells]) rfl rfl rfl (fun N14 a14 r14=>?_))))
 simp only [flatV,List.flatMap_cons,List.flatMap_nil,Value.cells,List.append_nil,List.cons_append,List.nil_append]at r14
 have s14:=r14.rsl
 refine aC (aD rfl) rfl rfl ?_
 change Row N14 _ 1 a14 2 2 (u8s [flagL leaf,0])at r14
 refine bD (nxl rfl) Try.underlying33 Try.underlying33 te5 rfl rfl r14 h (by first|exact aN|exact aV|exact aZ|exact mem3|exact mem4|exact mem5|exact mem6|exact mem7|exact mem8|exact mem9) (by first|exact one_u8s _|exact one_u64s _|exact one_u32s _|(intro u hu;simp at hu;subst hu;rfl)) (by omega) (by omega) sel0 rfl (fun N16 a16 p16 r16=>?_)
 have s16:=r16.rsl
 rw [←u8s_app]at r16
 refine aE (aD rfl) rfl rfl (aB (aA (s_8 (At.seq fun _ s_9=>At.meet (fun fr_ hp_=> ∃(m:Nat) (a:Option Addr) (c:Nat) (Na:Heaplet),fr_= [(7,.slice a m c)]∧hp_= [Na,R]∧(m=(rowL leaf l).length)∧(Row Na 5 1 a m c (u8s (rowL leaf l)))) ?_ (fun K9_ jk_9=>?_)))))
 rotate_left
 ·skip
  refine At.seq fun _ s_10=>At.region (aC (aD rfl) rfl rfl (aS (aD rfl) se33 rfl rfl (op_rem (aD rfl) rfl rfl (by omega) (by omega) rfl (op_eql (aD rfl) rfl rfl rfl (aB (aA (s_10 (aL rfl (fun c20=>?_) (fun c20=>?_)))))))))
  ·refine At.region (aC (aD rfl) rfl rfl (op_addW (aD rfl) rfl rfl rfl ?_))
   rw [flagW]
   refine op_lit (aX rfl) Try.underlying33 ze5 sz5 (.cons rfl .nil) rfl rfl (by simp [Value.cells]) rfl rfl rfl (fun N23 a23 r23=>?_)
   simp only [flatV,List.flatMap_cons,List.flatMap_nil,Value.cells,List.append_nil,List.cons_append,List.nil_append]at r23
   have s23:=r23.rsl
   refine aC (aD rfl) rfl rfl ?_
   change Row N23 _ 1 a23 1 1 (u8s [flagL leaf+1])at r23
   refine bD (nxl rfl) Try.underlying33 Try.underlying33 te5 rfl rfl r23 h (by first|exact aN|exact aV|exact aZ|exact mem3|exact mem4|exact mem5|exact mem6|exact mem7|exact mem8|exact mem9) (by first|exact one_u8s _|exact one_u64s _|exact one_u32s _|(intro u hu;simp at hu;subst hu;rfl)) (by omega) (by omega) sel0 rfl (fun N25 a25 p25 r25=>?_)
   have s25:=r25.rsl
   rw [←u8s_app]at r25
   refine aE (aD rfl) rfl rfl (aB (At.sub (L':= [N25,R]) (.cons_cons _ (.cons _ (.cons_cons _ (.slnil)))) ?_))
   refine aA (jk_9 ?_ (.refl _) ⟨1+n,a25,p25,N25,rfl,rfl,by rw [rowL,if_pos (by omega),List.length_cons];omega,by rw [rowL,if_pos (by omega)];exact r25⟩)
   exact .cons (by first|exact aK rfl (by omega)|rfl) .nil
  refine At.skip ?_
  refine aA (jk_9 ?_ (.refl _) ⟨2+n,a16,p16,N16,rfl,rfl,by rw [rowL,if_neg (by omega),List.length_cons,List.length_cons];omega,by rw [rowL,if_neg (by omega)];exact r16⟩)
  exact .cons (by first|exact aK rfl (by omega)|rfl) .nil
 rintro _ _ ⟨m,a,c,Na,rfl,rfl,hm,ra⟩
 refine s_9 (At.seq fun _ s_11=>At.region (aE (aD rfl) rfl rfl (aB (aA (s_11 (At.seq fun _ s_12=>At.seq fun _ s_13=>At.region (aE (aD rfl) rfl rfl (aB (aA (s_13 (At.block ?_)))))))))))
 have sQ:=ra.rsl
 have hcq:=sQ.cap63
 refine At.empty (At.loop (fun fr_ hp_ ms_=> ∃(i k:Nat) (b:Option Addr) (d:Nat) (Nb:Heaplet),fr_= [(7,.slice a m c),(8,.slice b k d),(9,.int .i64 (i:Int))]∧hp_= [Nb,Na,R]∧m- i=ms_∧(i≤m)∧(i=2*k)∧(Row Nb 5 1 b k d (u8s (packN ((rowL leaf l).take i))))) ?_ (.refl _) ⟨0,0,none,0,nilH,rfl,rfl,rfl,Nat.zero_le _,rfl,Row.nil _ _ _⟩ ?_)
 ·exact .cons (by first|exact aK rfl (by omega)|rfl) (.cons (by first|exact aK rfl (by omega)|rfl) (.cons (by first|exact aK rfl (by omega)|rfl) .nil))
 rintro _ _ _ ⟨i,k,b,d,Nb,rfl,rfl,rfl,hi,hik,rb⟩
 refine At.seq fun _ s_14=>At.seq fun _ s_15=>At.region (aC (aD rfl) rfl rfl (aC (aD rfl) rfl rfl (aS (aD rfl) se33 rfl rfl (op_lss (aD rfl) rfl rfl rfl (aB (aA (s_15 (aL rfl (fun c29=>?_) (fun c29=>?_)))))))))
 ·have e1:=nib_getD hQ i
  have e2:=nib_getD hQ (i+1)
  refine At.skip (aA (s_14 (At.seq fun _ s_16=>At.block (At.drawnS [Na,R] [12,13] [0] [0,1,2,3,4,5,6,7,8,9,10,11,12,13,14] (by kernel_rfl) (by kernel_rfl) (.cons _ (.refl _)) (aC (aM rfl rfl rfl) rfl rfl (aC (aM rfl rfl rfl) rfl rfl (aC (aM rfl rfl rfl) rfl rfl (op_idx1 (aM rfl rfl rfl) se33 rfl rfl sQ (show _=(((i:Nat)):Int)from by omega) (by omega) rfl ?_))))))))
  refine aR (aM rfl rfl rfl) sc5 rfl sQ (by first|exact get8 (by omega)|exact get64 (by omega)|exact get32 (by omega)) (by first|exact aN|exact aV|exact aZ|exact mem3|exact mem4|exact mem5|exact mem6|exact mem7|exact mem8|exact mem9) rfl ?_
  refine op_shlW (aM rfl rfl rfl) rfl rfl (by omega) rfl ?_
  rw [shlN4 _ e1]
  refine aC (aM rfl rfl rfl) rfl rfl (aC (aM rfl rfl rfl) rfl rfl (aO (aM rfl rfl rfl) rfl rfl (by omega) (by omega) rfl (op_idx1 (aM rfl rfl rfl) se33 rfl rfl sQ (show _=(((i+1:Nat)):Int)from by omega) (by omega) rfl ?_)))
  refine aR (aM rfl rfl rfl) sc5 rfl sQ (by first|exact get8 (by omega)|exact get64 (by omega)|exact get32 (by omega)) (by first|exact aN|exact aV|exact aZ|exact mem3|exact mem4|exact mem5|exact mem6|exact mem7|exact mem8|exact mem9) rfl ?_
  refine op_bits (by simp) (aM rfl rfl rfl) rfl rfl rfl ?_
  rw [orN _ _ e1 e2]
  refine op_lit (Nx.agree (nxss rfl rfl rfl rfl)) Try.underlying33 ze5 sz5 (.cons rfl .nil) rfl rfl (by simp [Value.cells]) rfl rfl rfl (fun N44 a44 r44=>?_)
  simp only [flatV,List.flatMap_cons,List.flatMap_nil,Value.cells,List.append_nil,List.cons_append,List.nil_append]at r44
  have s44:=r44.rsl
  refine At.anyS (.refl _) ?_
  rw [vb1 (a:=16*(rowL leaf l).getD i 0+(rowL leaf l).getD (i+1) 0) (by rw [nib_two e1 e2])]at s44
  refine bD (nxss rfl rfl rfl rfl) Try.underlying33 Try.underlying33 te5 rfl rfl rb s44 (by first|exact aN|exact aV|exact aZ|exact mem3|exact mem4|exact mem5|exact mem6|exact mem7|exact mem8|exact mem9) (by first|exact one_u8s _|exact one_u64s _|exact one_u32s _|(intro u hu;simp at hu;subst hu;rfl)) (by omega) (by omega) sel1 rfl (fun N45 a45 p45 r45=>?_)
  have s45:=r45.rsl
  refine At.anyS (.refl _) ?_
  rw [←u8s_app, ←pack_take (by omega) (by omega)]at r45
  refine aE (aM rfl rfl rfl) rfl rfl (At.sNil (aP (aA (s_16 (At.region (aC (aD rfl) rfl rfl (aO (aD rfl) rfl rfl (by omega) (by omega) rfl (aE (aD rfl) rfl rfl (aB (aA (At.sub (L':= [N45,Na,R]) (.cons_cons _ (.cons _ (.cons_cons _ (.cons_cons _ (.slnil))))) (bB ?_ (.refl _) ⟨i+2,k+1,a45,p45,N45,rfl,rfl,rfl,by omega,by omega,r45⟩ ?_))))))))))))
  ·exact .cons (by first|exact aK rfl (by omega)|rfl) (.cons (by first|exact aK rfl (by omega)|rfl) (.cons (by first|exact aK rfl (by omega)|rfl) .nil))
  ·omega
 refine At.exit (aF (aF (aU (aA (s_12 (At.seq fun _ s_17=>At.region (aC (aD rfl) rfl rfl (aE (aD rfl) rfl rfl (aE (aD rfl) rfl rfl (aB (aA (s_17 (At.ret ((At.sub (L':= [Nb,R]) (.cons_cons _ (.cons _ (.cons_cons _ (.slnil)))) (At.retN (L1:= [Nb]) rfl (.tmp rfl (.tmp rfl .nil)) rfl (.refl _) (.refl _) ?_))))))))))))))))
 have e:i=m:=by omega
 rw [List.take_of_length_le (by omega),rowL_pack]at rb
 have ek:k=(cpt l leaf).length:=by rw [cpt_len];omega
 rw [ek]at rb⊢
 exact .inl ⟨hN,Nb,b,d,rfl,rfl,rb⟩
end
end Go.Proofs.Ytdpjbefeabokgaa
/- Layer 12, the reference: how many nibbles all rows share; a row of nibbles as bytes. No condition but that bytes are not longer than a machine holds. -/
namespace Go.Proofs.Ytdpjbefeabokgaa
open Go Go.RowKit
set_option maxRecDepth 100000
theorem min_stop {a b:List UInt8} {m k:Nat} (h1:k≤m) (h2:k≤lcp a b) (h: ¬(k<m∧k<a.length∧k<b.length∧a.getD k 0=b.getD k 0)):min m (lcp b a)=k:=by
 rw [lcp_comm b a]
 rcases Nat.lt_or_ge k m with q|q
 ·rw [lcp_stop h2 fun⟨x,y,z⟩=>h ⟨q,x,y,z⟩];omega
 ·omega
section
variable {N : Heaplet} {ao : Option Addr} {n cap : Nat} {xs : List PV}
set_option maxHeartbeats 2000000 in
theorem rShared {p:PR} {t:List PR} (h:RSl N 2 ao n cap (cellsP xs)) (hP:PsN N (p::t) xs) (hn:n≤1099511627776) (h40:p.1.length≤1099511627776):Fn Try.prog 61 #[.slice ao n cap] [] [N] (fun v L=>v=.int .i64 ((shar (p::t):Nat):Int)∧L= []):=by
 have hxn:xs.length=n:=by have:=h.1;rw [cellsP_len]at this;omega
 have hln:=hP.len
 rw [List.length_cons]at hln
 have hcap:=h.cap63
 refine Fn.enter (vs:= [.slice ao n cap]) Try.func61 rfl rfl rfl ?_
 intro E R hR
 have hNR:=hR N (by simp)
 have h:=h.le hNR
 have hPR:=hP.le hNR
 obtain⟨p',x,hp',hx,hpx⟩:=hPR.at (i:=0) (by simp)
 obtain rfl:p=p':=by simpa using hp'
 have s3:=hpx.row
 have hr3:=hpx.row.cap63
 have hl3:=hpx.rn
 have hsm:ao.isSome=true:=h.isSome (by omega)
 change At _ _ E [R] _
 refine At.seq fun _ s_1=>At.region (aE (aD rfl) rfl rfl (aB (aA (s_1 (At.seq fun _ s_2=>At.region (aC (aD rfl) rfl rfl (op_idxE (aD rfl) se86 rfl rfl h (show _=(((0:Nat)):Int)from by omega) (by omega) rfl ?_)))))))
 refine op_fieldAddrE (aD rfl) fl114_0 rfl (by first|rfl|assumption) rfl ?_
 refine aR (aD rfl) sc33 rfl h (by first|exact get8 (by omega)|exact get64 (by omega)|exact get32 (by omega)|exact cellsP_row hx) (by first|exact aN|exact aV|exact aZ|exact mem3|exact mem4|exact mem5|exact mem6|exact mem7|exact mem8|exact mem9) rfl ?_
 refine aS (aD rfl) se33 rfl rfl (aE (aD rfl) rfl rfl (aB (aA (s_2 (At.seq fun _ s_3=>At.seq fun _ s_4=>At.region (aE (aD rfl) rfl rfl (aB (aA (s_4 (At.block (At.loop (fun fr_ hp_ ms_=> ∃(i m:Nat),fr_= [(0,.slice ao n cap),(3,.int .i64 (m:Int)),(4,.int .i64 (i:Int))]∧hp_= [R]∧n- i=ms_∧(1≤i)∧(i≤n)∧(m=(t.take (i- 1)).foldl (fun n q=>min n (lcp p.1 q.1)) p.1.length)∧(m≤p.1.length)) ?_ (.refl _) ⟨1,x.rn,rfl,rfl,rfl,Nat.le_refl _,by omega,by simpa using hl3,by omega⟩ ?_)))))))))))
 ·exact .cons (by first|exact aK rfl (by omega)|rfl) (.cons (by first|exact aK rfl (by omega)|rfl) (.cons (by first|exact aK rfl (by omega)|rfl) .nil))
 rintro _ _ _ ⟨i,m,rfl,rfl,rfl,hi1,hi,hm,hm2⟩
 refine At.seq fun _ s_5=>At.seq fun _ s_6=>At.region (aC (aD rfl) rfl rfl (aC (aD rfl) rfl rfl (aS (aD rfl) se86 rfl rfl (op_lss (aD rfl) rfl rfl rfl (aB (aA (s_6 (aL rfl (fun c14=>?_) (fun c14=>?_)))))))))
 ·obtain⟨q,y,hq,hy,hqy⟩:=hPR.at (i:=i) (by rw [List.length_cons];omega)
  have hqt:t[i- 1]? =some q:=by rw [show i=(i- 1)+1 by omega]at hq;simpa using hq
  have s4:=hqy.row
  have hr4:=hqy.row.cap63
  have hl4:=hqy.rn
  refine At.skip (aA (s_5 (At.seq fun _ s_7=>At.block (At.seq fun _ s_8=>At.region (aE (aD rfl) rfl rfl (aB (aA (s_8 (At.seq fun _ s_9=>At.meet (fun fr_ hp_=> ∃(k:Nat),fr_= [(0,.slice ao n cap),(4,.int .i64 (i:Int)),(5,.int .i64 (k:Int))]∧hp_= [R]∧(k=min m (lcp p.1 q.1))∧(k≤m)) ?_ (fun K9_ jk_9=>?_))))))))))
  rotate_left
  ·skip
   refine At.block (At.loop (fun fr_ hp_ ms_=> ∃(k:Nat),fr_= [(0,.slice ao n cap),(3,.int .i64 (m:Int)),(4,.int .i64 (i:Int)),(5,.int .i64 (k:Int))]∧hp_= [R]∧m- k=ms_∧(k≤m)∧(k≤lcp q.1 p.1)) ?_ (.refl _) ⟨0,rfl,rfl,rfl,Nat.zero_le _,Nat.zero_le _⟩ ?_)
   ·exact .cons (by first|exact aK rfl (by omega)|rfl) (.cons (by first|exact aK rfl (by omega)|rfl) (.cons (by first|exact aK rfl (by omega)|rfl) (.cons (by first|exact aK rfl (by omega)|rfl) .nil)))
   rintro _ _ _ ⟨k,rfl,rfl,rfl,hk1,hk2⟩
   refine At.seq fun _ s_10=>At.seq fun _ s_11=>At.drawn [] [0,1,2,3,4,5,6,7,8,9,10,11,12,13,14,15,16,17,18,19,20,21,22,23,24,25,26,27,28,29,30] (by kernel_rfl) (by kernel_rfl) (aC (aI rfl rfl rfl (by kernel_rfl)) rfl rfl (aC (aI rfl rfl rfl (by kernel_rfl)) rfl rfl (op_lss (aI rfl rfl rfl (by kernel_rfl)) rfl rfl rfl (aC (aI rfl rfl rfl (by kernel_rfl)) rfl rfl (At.partP (d:=20) rfl (fun g20=>?_) (fun g20=>?_))))))
   ·refine aC (nxogf rfl rfl rfl rfl rfl rfl (by kernel_rfl)) rfl rfl (aC (nxogf rfl rfl rfl rfl rfl rfl (by kernel_rfl)) rfl rfl (aC (nxogf rfl rfl rfl rfl rfl rfl (by kernel_rfl)) rfl rfl (op_idxE (nxogf rfl rfl rfl rfl rfl rfl (by kernel_rfl)) se86 rfl rfl h (show _=(((i:Nat)):Int)from by omega) (by omega) rfl ?_)))
    refine op_fieldAddrE (nxogf rfl rfl rfl rfl rfl rfl (by kernel_rfl)) fl114_0 rfl (by first|rfl|assumption) rfl ?_
    refine aR (nxogf rfl rfl rfl rfl rfl rfl (by kernel_rfl)) sc33 rfl h (by first|exact get8 (by omega)|exact get64 (by omega)|exact get32 (by omega)|exact cellsP_row hy) (by first|exact aN|exact aV|exact aZ|exact mem3|exact mem4|exact mem5|exact mem6|exact mem7|exact mem8|exact mem9) rfl ?_
    refine aS (nxogf rfl rfl rfl rfl rfl rfl (by kernel_rfl)) se33 rfl rfl (op_lss (nxogf rfl rfl rfl rfl rfl rfl (by kernel_rfl)) rfl rfl rfl (op_pickT (aI rfl rfl rfl (by kernel_rfl)) rfl rfl rfl (aC (aI rfl rfl rfl (by kernel_rfl)) rfl rfl (At.partP (d:=30) rfl (fun g30=>?_) (fun g30=>?_)))))
    ·refine aC (nxogf rfl rfl rfl rfl rfl rfl (by kernel_rfl)) rfl rfl (aC (nxogf rfl rfl rfl rfl rfl rfl (by kernel_rfl)) rfl rfl (op_idxE (nxogf rfl rfl rfl rfl rfl rfl (by kernel_rfl)) se86 rfl rfl h (show _=(((i:Nat)):Int)from by omega) (by omega) rfl ?_))
     refine op_fieldAddrE (nxogf rfl rfl rfl rfl rfl rfl (by kernel_rfl)) fl114_0 rfl (by first|rfl|assumption) rfl ?_
     refine aR (nxogf rfl rfl rfl rfl rfl rfl (by kernel_rfl)) sc33 rfl h (by first|exact get8 (by omega)|exact get64 (by omega)|exact get32 (by omega)|exact cellsP_row hy) (by first|exact aN|exact aV|exact aZ|exact mem3|exact mem4|exact mem5|exact mem6|exact mem7|exact mem8|exact mem9) rfl ?_
     refine aC (nxogf rfl rfl rfl rfl rfl rfl (by kernel_rfl)) rfl rfl (op_idx1 (nxogf rfl rfl rfl rfl rfl rfl (by kernel_rfl)) se33 rfl rfl s4 (show _=(((k:Nat)):Int)from by omega) (by omega) rfl ?_)
     refine aR (nxogf rfl rfl rfl rfl rfl rfl (by kernel_rfl)) sc5 rfl s4 (by first|exact get8 (by omega)|exact get64 (by omega)|exact get32 (by omega)) (by first|exact aN|exact aV|exact aZ|exact mem3|exact mem4|exact mem5|exact mem6|exact mem7|exact mem8|exact mem9) rfl ?_
     refine aC (nxogf rfl rfl rfl rfl rfl rfl (by kernel_rfl)) rfl rfl (op_idxE (nxogf rfl rfl rfl rfl rfl rfl (by kernel_rfl)) se86 rfl rfl h (show _=(((0:Nat)):Int)from by omega) (by omega) rfl ?_)
     refine op_fieldAddrE (nxogf rfl rfl rfl rfl rfl rfl (by kernel_rfl)) fl114_0 rfl (by first|rfl|assumption) rfl ?_
     refine aR (nxogf rfl rfl rfl rfl rfl rfl (by kernel_rfl)) sc33 rfl h (by first|exact get8 (by omega)|exact get64 (by omega)|exact get32 (by omega)|exact cellsP_row hx) (by first|exact aN|exact aV|exact aZ|exact mem3|exact mem4|exact mem5|exact mem6|exact mem7|exact mem8|exact mem9) rfl ?_
     refine aC (nxogf rfl rfl rfl rfl rfl rfl (by kernel_rfl)) rfl rfl (op_idx1 (nxogf rfl rfl rfl rfl rfl rfl (by kernel_rfl)) se33 rfl rfl s3 (show _=(((k:Nat)):Int)from by omega) (by omega) rfl ?_)
     refine aR (nxogf rfl rfl rfl rfl rfl rfl (by kernel_rfl)) sc5 rfl s3 (by first|exact get8 (by omega)|exact get64 (by omega)|exact get32 (by omega)) (by first|exact aN|exact aV|exact aZ|exact mem3|exact mem4|exact mem5|exact mem6|exact mem7|exact mem8|exact mem9) rfl ?_
     refine op_eql (nxogf rfl rfl rfl rfl rfl rfl (by kernel_rfl)) rfl rfl rfl (op_pickT (aI rfl rfl rfl (by kernel_rfl)) rfl rfl rfl (At.oneNil (aA (s_11 (aL rfl (fun c47=>?_) (fun c47=>?_))))))
     ·refine At.skip (aA (s_10 (At.block (At.region (aC (aD rfl) rfl rfl (aO (aD rfl) rfl rfl (by omega) (by omega) rfl (aE (aD rfl) rfl rfl (aB (aP (aA (bB ?_ (.refl _) ⟨k+1,rfl,rfl,rfl,by omega,lcp_go hk2 (by omega) (by omega) c47⟩ ?_)))))))))))
      ·exact .cons (by first|exact aK rfl (by omega)|rfl) (.cons (by first|exact aK rfl (by omega)|rfl) (.cons (by first|exact aK rfl (by omega)|rfl) (.cons (by first|exact aK rfl (by omega)|rfl) .nil)))
      ·omega
     refine At.exit (aF (aF (aU (aA (jk_9 ?_ (.refl _) ⟨k,rfl,rfl,(min_stop hk1 hk2 fun z=>c47 (by rw [z.2.2.2])).symm,hk1⟩)))))
     exact .cons (by first|exact aK rfl (by omega)|rfl) (.cons (by first|exact aK rfl (by omega)|rfl) (.cons (by first|exact aK rfl (by omega)|rfl) .nil))
    refine aT rfl rfl rfl rfl rfl rfl rfl rfl (aT rfl rfl rfl rfl rfl rfl rfl rfl (aT rfl rfl rfl rfl rfl rfl rfl rfl (aT rfl rfl rfl rfl rfl rfl rfl rfl (aT rfl rfl rfl rfl rfl rfl rfl rfl (aT rfl rfl rfl rfl rfl rfl rfl rfl (aT rfl rfl rfl rfl rfl rfl rfl rfl (aT rfl rfl rfl rfl rfl rfl rfl rfl (aT rfl rfl rfl rfl rfl rfl rfl rfl (aT rfl rfl rfl rfl rfl rfl rfl rfl (aT rfl rfl rfl rfl rfl rfl rfl rfl (aT rfl rfl rfl rfl rfl rfl rfl rfl (aT rfl rfl rfl rfl rfl rfl rfl rfl (aT rfl rfl rfl rfl rfl rfl rfl rfl (aT rfl rfl rfl rfl rfl rfl rfl rfl (aT rfl rfl rfl rfl rfl rfl rfl rfl (op_pickF (aI rfl rfl rfl (by kernel_rfl)) rfl rfl rfl (At.oneNil (aA (s_11 (At.condF rfl (At.exit (aF (aF (aU ?_))))))))))))))))))))))))
    refine aA (jk_9 ?_ (.refl _) ⟨k,rfl,rfl,(min_stop hk1 hk2 fun z=>g30 (by have:=z.2.1;omega)).symm,hk1⟩)
    exact .cons (by first|exact aK rfl (by omega)|rfl) (.cons (by first|exact aK rfl (by omega)|rfl) (.cons (by first|exact aK rfl (by omega)|rfl) .nil))
   refine aT rfl rfl rfl rfl rfl rfl rfl rfl (aT rfl rfl rfl rfl rfl rfl rfl rfl (aT rfl rfl rfl rfl rfl rfl rfl rfl (aT rfl rfl rfl rfl rfl rfl rfl rfl (aT rfl rfl rfl rfl rfl rfl rfl rfl (aT rfl rfl rfl rfl rfl rfl rfl rfl (aT rfl rfl rfl rfl rfl rfl rfl rfl (aT rfl rfl rfl rfl rfl rfl rfl rfl (op_pickF (aI rfl rfl rfl (by kernel_rfl)) rfl rfl rfl (aC (aI rfl rfl rfl (by kernel_rfl)) rfl rfl (aT rfl rfl rfl rfl rfl rfl rfl rfl (aT rfl rfl rfl rfl rfl rfl rfl rfl (aT rfl rfl rfl rfl rfl rfl rfl rfl (aT rfl rfl rfl rfl rfl rfl rfl rfl (aT rfl rfl rfl rfl rfl rfl rfl rfl (aT rfl rfl rfl rfl rfl rfl rfl rfl (aT rfl rfl rfl rfl rfl rfl rfl rfl (aT rfl rfl rfl rfl rfl rfl rfl rfl (aT rfl rfl rfl rfl rfl rfl rfl rfl (aT rfl rfl rfl rfl rfl rfl rfl rfl (aT rfl rfl rfl rfl rfl rfl rfl rfl ?_))))))))))))))))))))
   refine aT rfl rfl rfl rfl rfl rfl rfl rfl (aT rfl rfl rfl rfl rfl rfl rfl rfl (aT rfl rfl rfl rfl rfl rfl rfl rfl (aT rfl rfl rfl rfl rfl rfl rfl rfl (aT rfl rfl rfl rfl rfl rfl rfl rfl (op_pickF (aI rfl rfl rfl (by kernel_rfl)) rfl rfl rfl (At.oneNil (aA (s_11 (At.condF rfl (At.exit (aF (aF (aU ?_)))))))))))))
   refine aA (jk_9 ?_ (.refl _) ⟨k,rfl,rfl,(min_stop hk1 hk2 fun z=>g20 (by have:=z.1;omega)).symm,hk1⟩)
   exact .cons (by first|exact aK rfl (by omega)|rfl) (.cons (by first|exact aK rfl (by omega)|rfl) (.cons (by first|exact aK rfl (by omega)|rfl) .nil))
  rintro _ _ ⟨k,rfl,rfl,hk,hk3⟩
  refine s_9 (At.region (aC (aD rfl) rfl rfl (aE (aD rfl) rfl rfl (aB (aP (aA (s_7 (At.region (aC (aD rfl) rfl rfl (aO (aD rfl) rfl rfl (by omega) (by omega) rfl (aE (aD rfl) rfl rfl (aB (aA ?_)))))))))))))
  refine bB ?_ (.refl _) ⟨i+1,k,rfl,rfl,rfl,by omega,by omega,by rw [show i+1- 1=(i- 1)+1 by omega,take_next1 hqt,List.foldl_append, ←hm];exact hk,by omega⟩ ?_
  ·exact .cons (by first|exact aK rfl (by omega)|rfl) (.cons (by first|exact aK rfl (by omega)|rfl) (.cons (by first|exact aK rfl (by omega)|rfl) .nil))
  ·omega
 refine At.exit (aF (aF (aU (aA (s_3 (At.seq fun _ s_12=>At.region (aC (aD rfl) rfl rfl (aE (aD rfl) rfl rfl (aB (aA (s_12 (At.ret ((aQ (L1:= []) rfl (.tmp rfl .nil) (.refl _) (.refl _) ?_))))))))))))))
 rw [List.take_of_length_le (by omega)]at hm
 exact⟨by rw [hm];rfl,rfl⟩
end
theorem mulN: ∀a:Nat,a<16→IntKind.u8.wrap (16*(a:Int))=((16*a:Nat):Int):=by decide+kernel
theorem addN: ∀a b:Nat,a<16→b<16→IntKind.u8.wrap (((16*a:Nat):Int)+(b:Int))=((16*a+b:Nat):Int):=by
 have: ∀a:Nat,a<16→ ∀b:Nat,b<16→IntKind.u8.wrap (((16*a:Nat):Int)+(b:Int))=((16*a+b:Nat):Int):=by decide+kernel
 exact fun a b ha hb=>this a ha b hb
/-- What is left of a row behind its first byte. -/
def restL (l:List UInt8):List UInt8:=if l.length % 2=1 then l.drop 1 else l
def headL (leaf:Bool) (l:List UInt8):UInt8:=if l.length % 2=1 then 16*(flagL leaf+1)+l.getD 0 0 else 16*flagL leaf
theorem cpt_rest (leaf:Bool) (l:List UInt8):cpt l leaf=headL leaf l::packN (restL l):=by
 unfold cpt headL restL flagL
 by_cases h:l.length % 2=1
 ·simp only [if_pos h]
  cases l with
  |nil=>simp at h
  |cons a r=>cases leaf<;>rfl
 ·simp only [if_neg h]
  cases leaf<;>simp [packN]
theorem rest_len (l:List UInt8):(restL l).length % 2=0∧(restL l).length≤l.length:=by
 unfold restL;split
 ·rw [List.length_drop];omega
 ·omega
theorem rest_nib {l:List UInt8} (h:Nib l):Nib (restL l):=by
 unfold restL;split
 ·exact h.drop 1
 ·exact h
theorem flagM (leaf:Bool):IntKind.u8.wrap (16*((flagL leaf).toNat:Int))=((16*flagL leaf).toNat:Int):=by cases leaf<;>decide
theorem flagM1 (leaf:Bool):IntKind.u8.wrap (16*((flagL leaf+1).toNat:Int))=((16*(flagL leaf+1)).toNat:Int):=by cases leaf<;>decide
theorem flagA (leaf:Bool) {b:UInt8} (h:b.toNat<16):IntKind.u8.wrap (((16*(flagL leaf+1)).toNat:Int)+(b.toNat:Int))=((16*(flagL leaf+1)+b).toNat:Int):=by
 have e:(16*(flagL leaf+1)).toNat=16*(flagL leaf+1).toNat:=by cases leaf<;>decide
 have e2:(flagL leaf+1).toNat<16:=by cases leaf<;>decide
 rw [e,addN _ _ e2 h,nib_two e2 h]
section
variable {N : Heaplet} {ao : Option Addr} {n cap : Nat} {l : List UInt8}
set_option maxHeartbeats 1000000 in
theorem rCompact (h:RSl N 1 ao n cap (u8s l)) (hn:n≤1099511627776) (leaf:Bool) (hN:Nib l):Fn Try.prog 20 #[.slice ao n cap,.bool leaf] [] [N] (fun v L=> ∃M a c,v=.slice a (cpt l leaf).length c∧L= [M]∧Row M 5 1 a (cpt l leaf).length c (u8s (cpt l leaf))):=by
 have hlen:=h.len8
 have hf:=flag_nat leaf
 obtain⟨q1,q2⟩:=rest_len l
 have hQ:=rest_nib hN
 have hcp:=h.cap63
 refine Fn.enter (vs:= [.slice ao n cap,.bool leaf]) Try.func20 rfl rfl rfl ?_
 intro E R hR
 have h:=h.le (hR N (by simp))
 change At _ _ E [R] _
 refine At.seq fun _ s_1=>At.region (aE (aD rfl) rfl rfl (aB (aA (s_1 (At.seq fun _ s_2=>At.region (aE (aD rfl) rfl rfl (aB (aA (s_2 (At.seq fun _ s_3=>At.meet (fun fr_ hp_=>fr_= [(0,.slice ao n cap),(5,.int .u8 ((flagL leaf).toNat:Int))]∧hp_= [R]∧(True)) ?_ (fun K3_ jk_3=>?_)))))))))))
 rotate_left
 ·skip
  refine At.seq fun _ s_4=>At.region (aC (aD rfl) rfl rfl (aB (aA (s_4 (At.condB rfl (fun c9=>?_) (fun c9=>?_))))))
  ·have hfl:(flagL leaf).toNat=2:=by rw [c9];rfl
   refine At.region (aE (aD rfl) rfl rfl (aB (aA (jk_3 ?_ (.refl _) ⟨rfl,rfl,trivial⟩))))
   exact .cons (by first|exact aK rfl (by omega)|rfl) (.cons (by first|exact aK rfl (by omega)|rfl) .nil)
  have hfl:(flagL leaf).toNat=0:=by rw [c9];rfl
  refine At.skip (aA (jk_3 ?_ (.refl _) ⟨rfl,rfl,trivial⟩))
  exact .cons (by first|exact aK rfl (by omega)|rfl) (.cons (by first|exact aK rfl (by omega)|rfl) .nil)
 rintro _ _ ⟨rfl,rfl,ht⟩
 refine s_3 (At.seq fun _ s_5=>At.region (aC (aD rfl) rfl rfl (aE (aD rfl) rfl rfl (aB (aA (s_5 (At.seq fun _ s_6=>At.region (aC (aD rfl) rfl rfl (op_mulW (aD rfl) rfl rfl rfl ?_)))))))))
 rw [flagM]
 refine op_lit (aX rfl) Try.underlying33 ze5 sz5 (.cons rfl .nil) rfl rfl (by simp [Value.cells]) rfl rfl rfl (fun N13 a13 r13=>?_)
 simp only [flatV,List.flatMap_cons,List.flatMap_nil,Value.cells,List.append_nil,List.cons_append,List.nil_append]at r13
 have s13:=r13.rsl
 refine aE (aD rfl) rfl rfl (aB (aA (s_6 (At.seq fun _ s_7=>At.meet (fun fr_ hp_=> ∃(m:Nat) (a b:Option Addr) (k d c:Nat) (Na:Heaplet),fr_= [(6,.slice b m d),(7,.slice a k c)]∧hp_= [Na,R]∧(m=(restL l).length)∧(k=1)∧(RSl R 1 b m d (u8s (restL l)))∧(Row Na 5 1 a k c (u8s [headL leaf l]))) ?_ (fun K7_ jk_7=>?_)))))
 rotate_left
 ·skip
  refine At.seq fun _ s_8=>At.region (aC (aD rfl) rfl rfl (aS (aD rfl) se33 rfl rfl (op_rem (aD rfl) rfl rfl (by omega) (by omega) rfl (op_eql (aD rfl) rfl rfl rfl (aB (aA (s_8 (aL rfl (fun c17=>?_) (fun c17=>?_)))))))))
  ·refine At.seq fun _ s_9=>At.region (aC (aD rfl) rfl rfl (aC (aD rfl) rfl rfl (op_addW (aD rfl) rfl rfl rfl ?_)))
   rw [flagW]
   refine op_mulW (aD rfl) rfl rfl rfl ?_
   rw [flagM1]
   refine aC (aD rfl) rfl rfl (op_idx1 (aD rfl) se33 rfl rfl h (show _=(((0:Nat)):Int)from by omega) (by omega) rfl ?_)
   refine aR (aD rfl) sc5 rfl h (by first|exact get8 (by omega)|exact get64 (by omega)|exact get32 (by omega)) (by first|exact aN|exact aV|exact aZ|exact mem3|exact mem4|exact mem5|exact mem6|exact mem7|exact mem8|exact mem9) rfl ?_
   refine op_addW (aD rfl) rfl rfl rfl ?_
   rw [flagA leaf (nib_getD hN 0)]
   refine op_idx1 (aD rfl) se33 rfl rfl s13 (show _=(((0:Nat)):Int)from by omega) (by omega) rfl ?_
   refine op_storeE (nxl rfl) sz5 rfl rfl rfl rfl rfl r13 (by simp<;>omega) (by simp) sel0 (fun N13 r13=>?_)
   simp only [setL,List.set]at r13
   have s13:=r13.rsl
   refine aB (aA (s_9 (At.region (aC (aD rfl) rfl rfl (op_slice (aD rfl) se33 rfl (.some rfl (show _=(((1:Nat)):Int)from by omega)) .none .none (by omega) (by omega) (by omega) (by simp) rfl ?_)))))
   refine aE (aD rfl) rfl rfl (aB ?_)
   refine aA (jk_7 ?_ (.refl _) ⟨n- 1,a13,sadr ao 1 cap 1,1,cap- 1,1,N13,rfl,rfl,by rw [restL,if_pos (by omega),List.length_drop];omega,rfl,by rw [restL,if_pos (by omega)];exact h.drop8 (by omega),by rw [headL,if_pos (by omega)];exact r13⟩)
   exact .cons (by first|exact aK rfl (by omega)|rfl) (.cons (by first|exact aK rfl (by omega)|rfl) .nil)
  refine At.skip ?_
  refine aA (jk_7 ?_ (.refl _) ⟨n,a13,ao,1,cap,1,N13,rfl,rfl,by rw [restL,if_neg (by omega)];exact hlen.symm,rfl,by rw [restL,if_neg (by omega)];exact h,by rw [headL,if_neg (by omega)];exact r13⟩)
  exact .cons (by first|exact aK rfl (by omega)|rfl) (.cons (by first|exact aK rfl (by omega)|rfl) .nil)
 rintro _ _ ⟨m,a,b,k,d,c,Na,rfl,rfl,hm,hk1,sQ,ra⟩
 refine s_7 (At.seq fun _ s_10=>At.seq fun _ s_11=>At.region (aE (aD rfl) rfl rfl (aB (aA (s_11 (At.block ?_))))))
 have hcq:=sQ.cap63
 refine At.loop (fun fr_ hp_ ms_=> ∃(i k:Nat) (a:Option Addr) (c:Nat) (Na:Heaplet),fr_= [(6,.slice b m d),(7,.slice a k c),(8,.int .i64 (i:Int))]∧hp_= [Na,R]∧m- i=ms_∧(i≤m)∧(i+2=2*k)∧(Row Na 5 1 a k c (u8s (headL leaf l::packN ((restL l).take i))))) ?_ (.refl _) ⟨0,k,a,c,Na,rfl,rfl,rfl,Nat.zero_le _,by omega,ra⟩ ?_
 ·exact .cons (by first|exact aK rfl (by omega)|rfl) (.cons (by first|exact aK rfl (by omega)|rfl) (.cons (by first|exact aK rfl (by omega)|rfl) .nil))
 rintro _ _ _ ⟨i,k,a,c,Na,rfl,rfl,rfl,hi,hik,ra⟩
 refine At.seq fun _ s_12=>At.seq fun _ s_13=>At.region (aC (aD rfl) rfl rfl (aC (aD rfl) rfl rfl (aS (aD rfl) se33 rfl rfl (op_lss (aD rfl) rfl rfl rfl (aB (aA (s_13 (aL rfl (fun c32=>?_) (fun c32=>?_)))))))))
 ·have e1:=nib_getD hQ i
  have e2:=nib_getD hQ (i+1)
  refine At.skip (aA (s_12 (At.seq fun _ s_14=>At.block (At.drawnS [R] [12,13] [0] [0,1,2,3,4,5,6,7,8,9,10,11,12,13,14] (by kernel_rfl) (by kernel_rfl) (.cons _ (.refl _)) (aC (aM rfl rfl rfl) rfl rfl (aC (aM rfl rfl rfl) rfl rfl (aC (aM rfl rfl rfl) rfl rfl (op_idx1 (aM rfl rfl rfl) se33 rfl rfl sQ (show _=(((i:Nat)):Int)from by omega) (by omega) rfl ?_))))))))
  refine aR (aM rfl rfl rfl) sc5 rfl sQ (by first|exact get8 (by omega)|exact get64 (by omega)|exact get32 (by omega)) (by first|exact aN|exact aV|exact aZ|exact mem3|exact mem4|exact mem5|exact mem6|exact mem7|exact mem8|exact mem9) rfl ?_
  refine op_mulW (aM rfl rfl rfl) rfl rfl rfl ?_
  rw [mulN _ e1]
  refine aC (aM rfl rfl rfl) rfl rfl (aC (aM rfl rfl rfl) rfl rfl (aO (aM rfl rfl rfl) rfl rfl (by omega) (by omega) rfl (op_idx1 (aM rfl rfl rfl) se33 rfl rfl sQ (show _=(((i+1:Nat)):Int)from by omega) (by omega) rfl ?_)))
  refine aR (aM rfl rfl rfl) sc5 rfl sQ (by first|exact get8 (by omega)|exact get64 (by omega)|exact get32 (by omega)) (by first|exact aN|exact aV|exact aZ|exact mem3|exact mem4|exact mem5|exact mem6|exact mem7|exact mem8|exact mem9) rfl ?_
  refine op_addW (aM rfl rfl rfl) rfl rfl rfl ?_
  rw [addN _ _ e1 e2]
  refine op_lit (Nx.agree (nxss rfl rfl rfl rfl)) Try.underlying33 ze5 sz5 (.cons rfl .nil) rfl rfl (by simp [Value.cells]) rfl rfl rfl (fun N47 a47 r47=>?_)
  simp only [flatV,List.flatMap_cons,List.flatMap_nil,Value.cells,List.append_nil,List.cons_append,List.nil_append]at r47
  have s47:=r47.rsl
  refine At.anyS (.refl _) ?_
  rw [vb1 (a:=16*(restL l).getD i 0+(restL l).getD (i+1) 0) (by rw [nib_two e1 e2])]at s47
  refine bD (nxss rfl rfl rfl rfl) Try.underlying33 Try.underlying33 te5 rfl rfl ra s47 (by first|exact aN|exact aV|exact aZ|exact mem3|exact mem4|exact mem5|exact mem6|exact mem7|exact mem8|exact mem9) (by first|exact one_u8s _|exact one_u64s _|exact one_u32s _|(intro u hu;simp at hu;subst hu;rfl)) (by omega) (by omega) sel1 rfl (fun N48 a48 p48 r48=>?_)
  have s48:=r48.rsl
  refine At.anyS (.refl _) ?_
  rw [←u8s_app,List.cons_append, ←pack_take (by omega) (by omega)]at r48
  refine aE (aM rfl rfl rfl) rfl rfl (At.sNil (aP (aA (s_14 (At.region (aC (aD rfl) rfl rfl (aO (aD rfl) rfl rfl (by omega) (by omega) rfl (aE (aD rfl) rfl rfl (aB (aA (At.sub (L':= [N48,R]) (.cons_cons _ (.cons _ (.cons_cons _ (.slnil)))) (bB ?_ (.refl _) ⟨i+2,k+1,a48,p48,N48,rfl,rfl,rfl,by omega,by omega,r48⟩ ?_))))))))))))
  ·exact .cons (by first|exact aK rfl (by omega)|rfl) (.cons (by first|exact aK rfl (by omega)|rfl) (.cons (by first|exact aK rfl (by omega)|rfl) .nil))
  ·omega
 refine At.exit (aF (aF (aU (aA (s_10 (At.seq fun _ s_15=>At.region (aC (aD rfl) rfl rfl (aE (aD rfl) rfl rfl (aB (aA (s_15 (At.ret ((aQ (L1:= [Na]) rfl (.tmp rfl .nil) (.refl _) (.refl _) ?_))))))))))))))
 have e:i=m:=by omega
 rw [List.take_of_length_le (by omega), ←cpt_rest]at ra
 have ek:k=(cpt l leaf).length:=by have:=ra.1;simpa using this.symm
 rw [ek]at ra⊢
 exact⟨Na,a,c,rfl,rfl,ra⟩
end
end Go.Proofs.Ytdpjbefeabokgaa
