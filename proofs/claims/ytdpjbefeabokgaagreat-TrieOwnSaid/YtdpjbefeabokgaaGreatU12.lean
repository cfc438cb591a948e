/- Several texts in one: see the remarks ahead of each part. No condition but those told there. -/
import Derived.Test.YtdpjbefeabokgaaGreatU11
import Derived.Test.YtdpjbefeabokgaaGreatU5
set_option linter.unusedSimpArgs false
set_option linter.unusedVariables false
/- Layer 12: Clone, nibbles, cut, shared, under of the program. No condition but that bytes are not longer than a machine holds. -/
namespace Go.Proofs.YtdpjbefeabokgaaGreat
open Go Go.RowKit
set_option maxRecDepth 100000
theorem shrN4: ∀n:Nat,n<256→(n:Int)/2^(min (4:Int).toNat IntKind.u8.bits)=((n/16:Nat):Int):=by
 intro n h
 show(n:Int)/2^4=_
 omega
theorem andN15: ∀n:Nat,n<256→bits .and .u8 (n:Int) 15=((n % 16:Nat):Int):=by decide+kernel
theorem nibs_take {l:List UInt8} {k:Nat} (h:k<l.length):nibs (l.take (k+1))=nibs (l.take k)++ [l.getD k 0>>>4,l.getD k 0&&&15]:=by
 have e:l.take (k+1)=l.take k++ [l.getD k 0]:=by
  rw [List.take_add_one,List.getD_eq_getElem?_getD,List.getElem?_eq_getElem h];rfl
 rw [e]
 simp [nibs,List.flatMap_append]
theorem u8s_app (a b:List UInt8):u8s (a++b)=u8s a++u8s b:=by simp [u8s]
theorem vb2 {a b:UInt8} {x y:Int} (ha:(a.toNat:Int)=x) (hb:(b.toNat:Int)=y): [Value.int .u8 x,Value.int .u8 y]=u8s [a,b]:=by rw [←ha, ←hb];rfl
section
variable {N : Heaplet} {ao : Option Addr} {n cap : Nat} {l : List UInt8}
theorem FClone (h:RSl N 1 ao n cap (u8s l)) (hn:n≤1099511627776):Fn Tryz.prog 51 #[.slice ao n cap] [] [N] (fun v L=> ∃M a c,v=.slice a n c∧L= [M]∧Row M 5 1 a n c (u8s l)):=by
 refine Fn.enter (vs:= [.slice ao n cap]) Tryz.func51 rfl rfl rfl ?_
 intro E R hR
 have h:=h.le (hR N (by simp))
 change At _ _ E [R] _
 refine At.seq fun _ s_1=>At.region (aE (aD rfl) rfl rfl (aA (aB (s_1 (At.seq fun _ s_2=>At.seq fun _ s_3=>At.region (aC (aD rfl) rfl rfl (op_eqSl (aD rfl) Tryz.underlying23 rfl rfl (aA (aB (s_3 (At.condB rfl (fun c4=>?_) (fun c4=>?_))))))))))))
 ·have h0:n=0:=by
   rcases Nat.eq_zero_or_pos n with h0|h0
   ·exact h0
   ·have:=h.isSome h0
    rw [Option.isNone_iff_eq_none]at c4
    rw [c4]at this;cases this
  refine At.seq fun _ s_4=>At.region (aE (aD rfl) rfl rfl (aA (aB (s_4 (At.ret (aM ((At.empty (aW (L1:= [nilH]) rfl (.tmp rfl .nil) (.refl _) (.refl _) ?_)))))))))
  have e:l= []:=List.eq_nil_of_length_eq_zero (by rw [h.len8];exact h0)
  exact⟨nilH,none,0,by rw [h0],rfl,by rw [h0,e];exact Row.nil _ _ _⟩
 refine At.skip (aB (s_2 (At.seq fun _ s_5=>At.region (op_lit (bA rfl) Tryz.underlying23 ze5 sz5 .nil rfl rfl (by simp [Value.cells]) rfl rfl rfl (fun N5 a5 r5=>?_)))))
 simp only [flatV,List.flatMap_cons,List.flatMap_nil,Value.cells,List.append_nil,List.cons_append,List.nil_append]at r5
 have s5:=r5.rsl
 refine aC (aD rfl) rfl rfl ?_
 refine bE (nxl rfl) Tryz.underlying23 Tryz.underlying23 te5 rfl rfl r5 h (by first|exact aL|exact aZ|exact bB|exact bF|exact bG|exact bH|exact bL|exact bK|exact bJ|exact bM) (by first|exact one_u8s _|exact one_u64s _|exact one_u32s _|(intro u hu;simp at hu;subst hu;rfl)) (by omega) (by omega) sel0 rfl (fun N7 a7 p7 r7=>?_)
 have s7:=r7.rsl
 refine aE (aD rfl) rfl rfl (aA (aB (s_5 (At.ret ((aW (L1:= [N7]) rfl (.tmp rfl .nil) (.refl _) (.refl _) ?_))))))
 rw [Nat.zero_add]at r7⊢
 exact⟨N7,a7,p7,rfl,rfl,r7⟩
theorem FNibs (h:RSl N 1 ao n cap (u8s l)) (hn:n≤1099511627776):Fn Tryz.prog 41 #[.slice ao n cap] [] [N] (fun v L=> ∃M a c,v=.slice a (2*n) c∧L= [M]∧Row M 5 1 a (2*n) c (u8s (nibs l))):=by
 have hlen:=h.len8
 refine Fn.enter (vs:= [.slice ao n cap]) Tryz.func41 rfl rfl rfl ?_
 intro E R hR
 have h:=h.le (hR N (by simp))
 change At _ _ E [R] _
 refine At.seq fun _ s_1=>At.region (aE (aD rfl) rfl rfl (aA (aB (s_1 (At.seq fun _ s_2=>At.region (aC (aD rfl) rfl rfl (aU (aD rfl) se23 rfl rfl (op_mulI (aD rfl) rfl rfl (by omega) (by omega) rfl ?_))))))))
 refine op_make0 (bA rfl) Tryz.underlying23 te5 rfl rfl rfl (show _=(((2*n:Nat)):Int)from by omega) (by omega) (by unfold maxLen;omega) rfl (fun N9 a9 r9=>?_)
 have s9:=r9.rsl
 refine aE (aD rfl) rfl rfl (aA (aB (s_2 (At.seq fun _ s_3=>At.seq fun _ s_4=>At.region (aC (aD rfl) rfl rfl (aU (aD rfl) se23 rfl rfl (aC (aD rfl) rfl rfl (aA (aB (s_4 (At.block (At.loop (fun fr_ hp_ ms_=> ∃(k m:Nat) (a:Option Addr) (c:Nat) (Na:Heaplet),fr_= [(3,.slice a m c),(10,.slice ao n cap),(11,.int .i64 (n:Int)),(12,.int .i64 (k:Int))]∧hp_= [Na,R]∧n- k=ms_∧(k≤n)∧(m=2*k)∧(Row Na 5 1 a m c (u8s (nibs (l.take k))))) ?_ (.refl _) ⟨0,0,_,_,N9,rfl,rfl,rfl,Nat.zero_le _,rfl,r9⟩ ?_))))))))))))
 ·exact .cons (by first|exact aP rfl (by omega)|rfl) (.cons (by first|exact aP rfl (by omega)|rfl) (.cons (by first|exact aP rfl (by omega)|rfl) (.cons (by first|exact aP rfl (by omega)|rfl) .nil)))
 rintro _ _ _ ⟨k,m,a,c,Na,rfl,rfl,rfl,hk,hm,ra⟩
 refine At.seq fun _ s_5=>At.region (op_lss (aD rfl) rfl rfl rfl (aA (aB (s_5 (At.seq fun _ s_6=>aK rfl (fun c13=>?_) (fun c13=>?_))))))
 ·have hx:=(l.getD k 0).toNat_lt
  have e1:=nib_hi (l.getD k 0)
  have e2:=nib_lo (l.getD k 0)
  refine At.skip (aB (s_6 (At.seq fun _ s_7=>At.block (At.seq fun _ s_8=>At.region (bI (aD rfl) se23 rfl rfl h (show _=(((k:Nat)):Int)from by omega) (by omega) rfl ?_)))))
  refine aT (aD rfl) sc5 rfl h (by first|exact get8 (by omega)|exact bT (by omega)|exact bU (by omega)) (by first|exact aL|exact aZ|exact bB|exact bF|exact bG|exact bH|exact bL|exact bK|exact bJ|exact bM) rfl ?_
  refine aE (aD rfl) rfl rfl (aA (aB (s_8 (At.region (aC (aD rfl) rfl rfl (aC (aD rfl) rfl rfl (op_shrW (aD rfl) rfl rfl (by omega) (by omega) rfl ?_)))))))
  rw [shrN4 _ hx]
  refine aC (aD rfl) rfl rfl (op_bits (by simp) (aD rfl) rfl rfl rfl ?_)
  rw [andN15 _ hx]
  refine op_lit (bA rfl) Tryz.underlying23 ze5 sz5 (.cons rfl (.cons rfl .nil)) rfl rfl (by simp [Value.cells]) rfl rfl rfl (fun N21 a21 r21=>?_)
  simp only [flatV,List.flatMap_cons,List.flatMap_nil,Value.cells,List.append_nil,List.cons_append,List.nil_append]at r21
  have s21:=r21.rsl
  rw [vb2 (a:=l.getD k 0>>>4) (b:=l.getD k 0&&&15) (by omega) (by omega)]at s21
  refine bE (nxl rfl) Tryz.underlying23 Tryz.underlying23 te5 rfl rfl ra s21 (by first|exact aL|exact aZ|exact bB|exact bF|exact bG|exact bH|exact bL|exact bK|exact bJ|exact bM) (by first|exact one_u8s _|exact one_u64s _|exact one_u32s _|(intro u hu;simp at hu;subst hu;rfl)) (by omega) (by omega) sel1 rfl (fun N22 a22 p22 r22=>?_)
  have s22:=r22.rsl
  rw [←u8s_app, ←nibs_take (by omega)]at r22
  refine aE (aD rfl) rfl rfl (aA (aR (aB (s_7 (At.region (aV (aD rfl) rfl rfl (by omega) (by omega) rfl (aC (aD rfl) rfl rfl (aA (aB (At.sub (L':= [N22,R]) (.cons_cons _ (.cons _ (.cons_cons _ (.slnil)))) (bD ?_ (.refl _) ⟨k+1,m+2,a22,p22,N22,rfl,rfl,rfl,by omega,by omega,r22⟩ ?_)))))))))))
  ·exact .cons (by first|exact aP rfl (by omega)|rfl) (.cons (by first|exact aP rfl (by omega)|rfl) (.cons (by first|exact aP rfl (by omega)|rfl) (.cons (by first|exact aP rfl (by omega)|rfl) .nil)))
  ·omega
 refine At.exit (aG (aG (bC (aB (s_3 (At.seq fun _ s_9=>At.region (aC (aD rfl) rfl rfl (aE (aD rfl) rfl rfl (aA (aB (s_9 (At.ret ((aW (L1:= [Na]) rfl (.tmp rfl .nil) (.refl _) (.refl _) ?_))))))))))))))
 have e:k=n:=by omega
 subst e
 rw [List.take_of_length_le (by omega),hm]at ra
 exact⟨Na,a,c,by rw [hm],rfl,ra⟩
end
end Go.Proofs.YtdpjbefeabokgaaGreat
/- Layer 12: pairs without their first nibbles, those under a nibble, how many all share. No condition but that bytes are not longer than a machine holds. -/
namespace Go.Proofs.YtdpjbefeabokgaaGreat
open Go Go.RowKit
set_option maxRecDepth 100000
theorem cellsP_one (xs:List PV): ∀u∈cellsP xs,u.oneCell'=true:=fun u hu=>by
 obtain⟨x,_,hx⟩:=List.mem_flatMap.1 hu
 simp only [PV.cells,List.mem_cons,List.not_mem_nil,or_false]at hx
 rcases hx with rfl|rfl<;>rfl
theorem cellsP_app (xs ys:List PV):cellsP (xs++ys)=cellsP xs++cellsP ys:=by rw [cellsP,cellsP,cellsP,List.flatMap_append]
theorem take_next1 {α:Type} {l:List α} {j:Nat} {u:α} (h:l[j]? =some u):l.take (j+1)=l.take j++ [u]:=by
 obtain⟨hlt,rfl⟩:=List.getElem?_eq_some_iff.1 h
 exact List.take_succ_eq_append_getElem hlt
theorem set_two {cs:List Value} {o:Nat} {x y:Value} (h:o+2≤cs.length):(setL cs o [x,y]).take (o+2)=cs.take o++ [x,y]:=by
 simp only [setL]
 refine List.ext_getElem? fun i=>?_
 rw [List.getElem?_take]
 rcases Nat.lt_or_ge i o with hi|hi
 ·rw [if_pos (by omega),List.getElem?_set_ne (by omega),List.getElem?_set_ne (by omega),List.getElem?_append_left (by rw [List.length_take];omega),List.getElem?_take,if_pos hi]
 ·rw [List.getElem?_append_right (by rw [List.length_take];omega),List.length_take,Nat.min_eq_left (by omega)]
  rcases Nat.lt_or_ge i (o+2)with hj|hj
  ·rw [if_pos hj]
   have:i=o∨i=o+1:=by omega
   rcases this with rfl|rfl
   ·rw [List.getElem?_set_ne (by omega),List.getElem?_set_self (by omega),Nat.sub_self];rfl
   ·rw [List.getElem?_set_self (by rw [List.length_set];omega),show o+1- o=1 by omega];rfl
  ·rw [if_neg (by omega),List.getElem?_eq_none (by simp only [List.length_cons,List.length_nil];omega)]
/-- Bounds of the rows. -/
def RowsB (k:Nat) (xs:List PV):Prop:= ∀x∈xs,k≤x.rn∧x.rn≤x.rc∧x.rc≤9223372036854775807
theorem PsN.rows {K:Heaplet} {l:List PR} {xs:List PV} (h:PsN K l xs) {k:Nat} (hk: ∀p∈l,k≤p.1.length):RowsB k xs:=fun x hx=>by
 obtain⟨i,hi,rfl⟩:=List.mem_iff_getElem.1 hx
 obtain⟨p,y,h1,h2,h3⟩:=h.at (i:=i) (by rw [←h.len];exact hi)
 rw [List.getElem?_eq_getElem hi]at h2
 obtain rfl:=Option.some.inj h2
 have:=h3.row.cap63
 exact⟨by rw [h3.rn];exact hk p (List.mem_of_getElem? h1),this.1,this.2⟩
section
variable {N : Heaplet} {ao : Option Addr} {n cap : Nat} {xs : List PV}
def PairsP (xs:List PV) (v:Value) (L:List Heaplet):Prop:= ∃M a c,v=.slice a xs.length c∧L= [M]∧Row M 110 2 a xs.length c (cellsP xs)
set_option maxHeartbeats 1000000 in
theorem FCut (h:RSl N 2 ao n cap (cellsP xs)) (hl:xs.length=n) {k:Nat} (hk:RowsB k xs) (hn:n≤1099511627776):Fn Tryz.prog 68 #[.slice ao n cap,.int .i64 (k:Int)] [] [N] (PairsP (xs.map (PV.cut k))):=by
 refine Fn.enter (vs:= [.slice ao n cap,.int .i64 (k:Int)]) Tryz.func68 rfl rfl rfl ?_
 intro E R hR
 have h:=h.le (hR N (by simp))
 change At _ _ E [R] _
 refine At.seq fun _ s_1=>At.region (aE (aD rfl) rfl rfl (aA (aB (s_1 (At.seq fun _ s_2=>At.region (aC (aD rfl) rfl rfl (aU (aD rfl) se80 rfl rfl ?_)))))))
 refine op_make (bA rfl) Tryz.underlying80 te110 rfl rfl (show _=(((n:Nat)):Int)from by omega) (show _=(((n:Nat)):Int)from by omega) (by omega) (by unfold maxLen;omega) rfl (fun N10 a10 r10=>?_)
 skip
 have s10:=r10.rsl
 refine aE (aD rfl) rfl rfl (aA (aB (s_2 (At.seq fun _ s_3=>At.seq fun _ s_4=>At.region (aC (aD rfl) rfl rfl (aU (aD rfl) se80 rfl rfl (aC (aD rfl) rfl rfl (aA (aB (s_4 (At.block (At.loop (fun fr_ hp_ ms_=> ∃(i:Nat) (cs:List Value) (Na:Heaplet),fr_= [(1,.int .i64 (k:Int)),(5,.slice a10 n n),(11,.slice ao n cap),(12,.int .i64 (n:Int)),(13,.int .i64 (i:Int))]∧hp_= [Na,R]∧n- i=ms_∧(i≤n)∧(Row Na 110 2 a10 n n cs)∧(cs.take (i*2)=cellsP ((xs.take i).map (PV.cut k)))) ?_ (.refl _) ⟨0,_,N10,rfl,rfl,rfl,Nat.zero_le _,r10,by simp [cellsP]⟩ ?_))))))))))))
 ·exact .cons (by first|exact aP rfl (by omega)|rfl) (.cons (by first|exact aP rfl (by omega)|rfl) (.cons (by first|exact aP rfl (by omega)|rfl) (.cons (by first|exact aP rfl (by omega)|rfl) (.cons (by first|exact aP rfl (by omega)|rfl) .nil))))
 rintro _ _ _ ⟨i,cs,Na,rfl,rfl,rfl,hi,ra,hcs⟩
 refine At.seq fun _ s_5=>At.region (op_lss (aD rfl) rfl rfl rfl (aA (aB (s_5 (At.seq fun _ s_6=>aK rfl (fun c14=>?_) (fun c14=>?_))))))
 ·obtain⟨x,hx⟩: ∃x,xs[i]? =some x:=⟨_,List.getElem?_eq_getElem (by omega)⟩
  obtain⟨x1,x2,x3⟩:=hk x (List.mem_of_getElem? hx)
  have sa:=ra.rsl
  have hcl:=ra.1
  refine At.skip (aB (s_6 (At.seq fun _ s_7=>At.block (At.seq fun _ s_8=>At.region (aC (aD rfl) rfl rfl (op_idxE (aD rfl) se80 rfl rfl h (show _=(((i:Nat)):Int)from by omega) (by omega) rfl ?_))))))
  refine op_loadAggE (ds:= [.slice x.ra x.rn x.rc,.slice x.va x.vn x.vc]) (aD rfl) ag110 rfl h (by exact cellsP_at hx) (by rfl) (by omega) (by first|exact aL|exact aZ|exact bB|exact bF|exact bG|exact bH|exact bL|exact bK|exact bJ|exact bM) rfl ?_
  refine bO (bA rfl) ze110 rfl (fun N7 b7 B7=>?_)
  change Blk N7 b7 _ [.slice none 0 0,.slice none 0 0]at B7
  refine aE (aD rfl) rfl rfl (aO (nxl rfl) sz110 rfl rfl rfl rfl rfl B7 (by simp) sel0 (fun N7 B7=>?_))
  simp only [setL,List.set]at B7
  refine aA (aB (s_8 (At.perm sel2 (At.perm sel1 (At.perm sel2 (At.drawnS [N7,R] [10] [] [0,1,2,3,4,5,6,7,8,9,10] (by kernel_rfl) (by kernel_rfl) (.cons _ (.refl _)) (aC (aX rfl rfl rfl) rfl rfl (aC (aX rfl rfl rfl) rfl rfl (aF (aX rfl rfl rfl) fl110_0 rfl rfl (aI (aX rfl rfl rfl) sc23 rfl B7 (by first|rfl) aL rfl ?_))))))))))
  refine aC (aX rfl rfl rfl) rfl rfl (op_slice (aX rfl rfl rfl) se23 rfl (.some rfl (show _=(((k:Nat)):Int)from by omega)) .none .none (by omega) (by omega) (by omega) (by simp) rfl ?_)
  refine aF (aX rfl rfl rfl) fl110_1 rfl rfl (aI (aX rfl rfl rfl) sc23 rfl B7 (by first|rfl) aL rfl ?_)
  refine op_build (out:= [_,_]) (aX rfl rfl rfl) ze110 pl110 (.cons rfl (.cons rfl .nil)) rfl rfl (op_idxE (aX rfl rfl rfl) se80 rfl rfl sa (show _=(((i:Nat)):Int)from by omega) (by omega) rfl ?_)
  refine op_storeE (nxsl rfl rfl rfl rfl) sz110 rfl rfl rfl rfl rfl ra (by simp<;>omega) (by simp) sel0 (fun Na ra=>?_)
  skip
  have sa:=ra.rsl
  refine At.sNil (aR (aB (s_7 (At.region (aV (aD rfl) rfl rfl (by omega) (by omega) rfl (aC (aD rfl) rfl rfl (aA (aB (At.sub (L':= [Na,R]) (.cons_cons _ (.cons _ (.cons_cons _ (.slnil)))) ?_)))))))))
  refine bD ?_ (.refl _) ⟨i+1,_,Na,rfl,rfl,rfl,by omega,ra,by rw [show(i+1)*2=i*2+0+2 by omega,set_two (by omega),Nat.add_zero,hcs,take_next1 hx,List.map_append,cellsP_app];rfl⟩ ?_
  ·exact .cons (by first|exact aP rfl (by omega)|rfl) (.cons (by first|exact aP rfl (by omega)|rfl) (.cons (by first|exact aP rfl (by omega)|rfl) (.cons (by first|exact aP rfl (by omega)|rfl) (.cons (by first|exact aP rfl (by omega)|rfl) .nil))))
  ·omega
 refine At.exit (aG (aG (bC (aB (s_3 (At.seq fun _ s_9=>At.region (aC (aD rfl) rfl rfl (aE (aD rfl) rfl rfl (aA (aB (s_9 (At.ret ((aW (L1:= [Na]) rfl (.tmp rfl .nil) (.refl _) (.refl _) ?_))))))))))))))
 have e:i=n:=by omega
 subst e
 rw [List.take_of_length_le (by have:=ra.1;omega),List.take_of_length_le (by omega)]at hcs
 subst hcs
 exact⟨Na,a10,i,by rw [List.length_map,hl],rfl,by rw [List.length_map,hl];exact ra⟩
theorem head_is {p:List UInt8} {c:UInt8} (h0:0<p.length) (h:((p.getD 0 0).toNat:Int)=(c.toNat:Int)):(p.head?==some c)=true:=by
 cases p with
 |nil=>simp at h0
 |cons x r=>
  have e:x=c:=by rw [←UInt8.toNat_inj];simp at h;omega
  rw [e];simp
theorem head_not {p:List UInt8} {c:UInt8} (h: ¬((p.getD 0 0).toNat:Int)=(c.toNat:Int)): ¬(p.head?==some c)=true:=by
 cases p with
 |nil=>simp
 |cons x r=>
  intro k
  simp only [List.head?_cons,beq_iff_eq,Option.some.injEq]at k
  exact h (by rw [k];rfl)
theorem head_none {p:List UInt8} {c:UInt8} (h:p.length=0): ¬(p.head?==some c)=true:=by
 rw [List.eq_nil_of_length_eq_zero h];simp
theorem und_take {c:UInt8} {l:List PR} {i:Nat} {p:PR} (h:l[i]? =some p):undR c (l.take (i+1))=undR c (l.take i)++(if p.1.head?==some c then [p]else []):=by
 simp only [take_next1 h,undR,List.filter_append,List.filter_cons,List.filter_nil]
set_option maxHeartbeats 1000000 in
theorem FUnder {l:List PR} (h:RSl N 2 ao n cap (cellsP xs)) (hP:PsN N l xs) (hn:n≤1099511627776) (c:UInt8):Fn Tryz.prog 69 #[.slice ao n cap,.int .u8 (c.toNat:Int)] [] [N] (fun v L=> ∃ys,PairsP ys v L∧ ∀J:Heaplet,PsN J l xs→PsN J (cutR 1 (undR c l)) ys):=by
 have hxn:xs.length=n:=by have:=h.1;rw [cellsP_len]at this;omega
 have hln:=hP.len
 refine Fn.enter (vs:= [.slice ao n cap,.int .u8 (c.toNat:Int)]) Tryz.func69 rfl rfl rfl ?_
 intro E R hR
 have hNR:=hR N (by simp)
 have h:=h.le hNR
 have hPR:=hP.le hNR
 change At _ _ E [R] _
 refine At.seq fun _ s_1=>At.region (aE (aD rfl) rfl rfl (aA (aB (s_1 (At.seq fun _ s_2=>At.region (aE (aD rfl) rfl rfl (aA (aB (s_2 (At.seq fun _ s_3=>At.seq fun _ s_4=>At.region (aC (aD rfl) rfl rfl (aU (aD rfl) se80 rfl rfl (aC (aD rfl) rfl rfl (aA (aB (s_4 (At.block (At.empty (At.loop (fun fr_ hp_ ms_=> ∃(i m:Nat) (a:Option Addr) (cp:Nat) (ys:List PV) (Na:Heaplet),fr_= [(1,.int .u8 (c.toNat:Int)),(5,.slice a m cp),(8,.slice ao n cap),(9,.int .i64 (n:Int)),(10,.int .i64 (i:Int))]∧hp_= [Na,R]∧n- i=ms_∧(i≤n)∧(m=ys.length)∧(m≤i)∧(Row Na 110 2 a m cp (cellsP ys))∧(∀J:Heaplet,PsN J l xs→PsN J (undR c (l.take i)) ys)) ?_ (.refl _) ⟨0,0,none,0,[],nilH,rfl,rfl,rfl,Nat.zero_le _,rfl,Nat.le_refl _,Row.nil _ _ _,fun J _=>PsN.nil _⟩ ?_)))))))))))))))))))
 ·exact .cons (by first|exact aP rfl (by omega)|rfl) (.cons (by first|exact aP rfl (by omega)|rfl) (.cons (by first|exact aP rfl (by omega)|rfl) (.cons (by first|exact aP rfl (by omega)|rfl) (.cons (by first|exact aP rfl (by omega)|rfl) .nil))))
 rintro _ _ _ ⟨i,m,a,cp,ys,Na,rfl,rfl,rfl,hi,hm,hm2,ra,hy⟩
 refine At.seq fun _ s_5=>At.region (op_lss (aD rfl) rfl rfl rfl (aA (aB (s_5 (At.seq fun _ s_6=>aK rfl (fun c11=>?_) (fun c11=>?_))))))
 ·obtain⟨p,x,hp,hx,hpx⟩:=hPR.at (i:=i) (by omega)
  have hrb:=hpx.row.cap63
  have hrl:=hpx.row.len8
  have srow:=hpx.row
  refine At.skip (aB (s_6 (At.seq fun _ s_7=>At.block (At.seq fun _ s_8=>At.region (op_idxE (aD rfl) se80 rfl rfl h (show _=(((i:Nat)):Int)from by omega) (by omega) rfl ?_)))))
  refine op_loadAggE (ds:= [.slice x.ra x.rn x.rc,.slice x.va x.vn x.vc]) (aD rfl) ag110 rfl h (by exact cellsP_at hx) (by rfl) (by omega) (by first|exact aL|exact aZ|exact bB|exact bF|exact bG|exact bH|exact bL|exact bK|exact bJ|exact bM) rfl ?_
  refine bO (bA rfl) ze110 rfl (fun N7 b7 B7=>?_)
  change Blk N7 b7 _ [.slice none 0 0,.slice none 0 0]at B7
  refine aO (nxl rfl) sz110 rfl rfl rfl rfl rfl B7 (by simp) sel0 (fun N7 B7=>?_)
  simp only [setL,List.set]at B7
  refine aA (aB (s_8 (At.seq fun _ s_9=>At.region (aF (aD rfl) fl110_0 rfl rfl (aI (aD rfl) sc23 rfl B7 (by first|rfl) aL rfl ?_)))))
  refine aU (aD rfl) se23 rfl rfl (op_gtr (aD rfl) rfl rfl rfl (aC (aD rfl) rfl rfl (At.partP (d:=18) rfl (fun g18=>?_) (fun g18=>?_))))
  ·refine aF (aY rfl rfl rfl rfl) fl110_0 rfl rfl (aI (aY rfl rfl rfl rfl) sc23 rfl B7 (by first|rfl) aL rfl ?_)
   refine bI (aY rfl rfl rfl rfl) se23 rfl rfl srow (show _=(((0:Nat)):Int)from by omega) (by omega) rfl ?_
   refine aT (aY rfl rfl rfl rfl) sc5 rfl srow (by first|exact get8 (by omega)|exact bT (by omega)|exact bU (by omega)) (by first|exact aL|exact aZ|exact bB|exact bF|exact bG|exact bH|exact bL|exact bK|exact bJ|exact bM) rfl ?_
   refine aC (aY rfl rfl rfl rfl) rfl rfl (op_eql (aY rfl rfl rfl rfl) rfl rfl rfl (bS (aD rfl) rfl rfl rfl (aA (aB (s_9 (aK rfl (fun c25=>?_) (fun c25=>?_)))))))
   ·refine At.region (aC (aD rfl) rfl rfl (op_loadAggB (ds:= [_,_]) (aD rfl) ag110 rfl B7 rfl rfl aL rfl (op_lit (bA rfl) Tryz.underlying80 ze110 sz110 (.cons rfl .nil) rfl rfl (by simp [Value.cells]) rfl rfl rfl (fun N28 a28 r28=>?_))))
    simp only [flatV,List.flatMap_cons,List.flatMap_nil,Value.cells,List.append_nil,List.cons_append,List.nil_append]at r28
    have s28:=r28.rsl
    change Row N28 _ 2 a28 1 1 (cellsP [x])at r28
    have s28:=r28.rsl
    refine bE (nxl rfl) Tryz.underlying80 Tryz.underlying80 te110 rfl rfl ra s28 (by first|exact aL|exact aZ|exact bB|exact bF|exact bG|exact bH|exact bL|exact bK|exact bJ|exact bM) (cellsP_one _) (by omega) (by omega) sel2 rfl (fun N29 a29 p29 r29=>?_)
    have s29:=r29.rsl
    rw [←cellsP_app]at r29
    refine aE (aD rfl) rfl rfl (aA (aR (aB (s_7 (At.region (aV (aD rfl) rfl rfl (by omega) (by omega) rfl (aC (aD rfl) rfl rfl (aA (aB (At.sub (L':= [N29,R]) (.cons_cons _ (.cons _ (.cons _ (.cons_cons _ (.slnil))))) ?_))))))))))
    refine bD ?_ (.refl _) ⟨i+1,m+1,a29,p29,ys++ [x],N29,rfl,rfl,rfl,by omega,by simp [hm],by omega,r29,fun J hJ=>by rw [und_take hp,if_pos (head_is (by omega) c25)];exact(hy J hJ).snoc (hJ.each i p x hp hx)⟩ ?_
    ·exact .cons (by first|exact aP rfl (by omega)|rfl) (.cons (by first|exact aP rfl (by omega)|rfl) (.cons (by first|exact aP rfl (by omega)|rfl) (.cons (by first|exact aP rfl (by omega)|rfl) (.cons (by first|exact aP rfl (by omega)|rfl) .nil))))
    ·omega
   refine At.skip (aR (aB (s_7 (At.region (aV (aD rfl) rfl rfl (by omega) (by omega) rfl (aC (aD rfl) rfl rfl (aA (aB (At.sub (L':= [Na,R]) (.cons _ (.cons_cons _ (.cons_cons _ (.slnil)))) ?_)))))))))
   refine bD ?_ (.refl _) ⟨i+1,m,a,cp,ys,Na,rfl,rfl,rfl,by omega,hm,by omega,ra,fun J hJ=>by rw [und_take hp,if_neg (head_not c25),List.append_nil];exact hy J hJ⟩ ?_
   ·exact .cons (by first|exact aP rfl (by omega)|rfl) (.cons (by first|exact aP rfl (by omega)|rfl) (.cons (by first|exact aP rfl (by omega)|rfl) (.cons (by first|exact aP rfl (by omega)|rfl) (.cons (by first|exact aP rfl (by omega)|rfl) .nil))))
   ·omega
  refine aH rfl rfl rfl rfl rfl rfl rfl (aH rfl rfl rfl rfl rfl rfl rfl (aH rfl rfl rfl rfl rfl rfl rfl (aH rfl rfl rfl rfl rfl rfl rfl (aH rfl rfl rfl rfl rfl rfl rfl (aH rfl rfl rfl rfl rfl rfl rfl (bR (aD rfl) rfl rfl rfl (aA (aB (s_9 (At.condF rfl (At.skip (aR (aB (s_7 (At.region (aV (aD rfl) rfl rfl (by omega) (by omega) rfl (aC (aD rfl) rfl rfl (aA (aB (At.sub (L':= [Na,R]) (.cons _ (.cons_cons _ (.cons_cons _ (.slnil)))) ?_))))))))))))))))))))
  refine bD ?_ (.refl _) ⟨i+1,m,a,cp,ys,Na,rfl,rfl,rfl,by omega,hm,by omega,ra,fun J hJ=>by rw [und_take hp,if_neg (head_none (by omega)),List.append_nil];exact hy J hJ⟩ ?_
  ·exact .cons (by first|exact aP rfl (by omega)|rfl) (.cons (by first|exact aP rfl (by omega)|rfl) (.cons (by first|exact aP rfl (by omega)|rfl) (.cons (by first|exact aP rfl (by omega)|rfl) (.cons (by first|exact aP rfl (by omega)|rfl) .nil))))
  ·omega
 have hin:i=n:=by omega
 rw [List.take_of_length_le (by omega)]at hy
 have hlen1: ∀q∈undR c l,1≤q.1.length:=fun q hq=>by
  obtain⟨_,r,e⟩:=mem_und.1 hq
  rw [e];simp
 refine At.exit (aG (aG (bC (aB (s_3 (At.seq fun _ s_10=>At.region (aC (aD rfl) rfl rfl (aJ (bA rfl) (.cons rfl (.cons rfl .nil)) (FCut ra.rsl hm.symm ((hy N hP).rows hlen1) (by omega)) Tryz.func68 rfl rfl (by simp) rfl ?_))))))))
 rintro v32 L32 ⟨M32,a32,c32,rfl,rfl,r32⟩
 change At _ _ _ [M32,Na,R] _
 refine aE (aD rfl) rfl rfl (aA (aB (s_10 (At.ret ((At.sub (L':= [M32,R]) (.cons_cons _ (.cons _ (.cons_cons _ (.slnil)))) (aW (L1:= [M32]) rfl (.tmp rfl .nil) (.refl _) (.refl _) ?_)))))))
 exact⟨_,⟨M32,a32,c32,rfl,rfl,r32⟩,fun J hJ=>(hy J hJ).take_cut hlen1⟩
theorem lcp_stop: ∀ {a b:List UInt8} {i:Nat},i≤lcp a b→ ¬(i<a.length∧i<b.length∧a.getD i 0=b.getD i 0)→lcp a b=i
 | [],b,i,h,_=>by simp [lcp]at h⊢;omega
 |x::a,[],i,h,_=>by simp [lcp]at h⊢;omega
 |x::a,y::b,0,_,k=>by
  have e:x≠y:=fun e=>k ⟨by simp,by simp,by simp [e]⟩
  rw [lcp,if_neg e]
 |x::a,y::b,i+1,h,k=>by
  by_cases e:x=y
  ·rw [lcp,if_pos e]at h⊢
   rw [lcp_stop (i:=i) (by omega) fun⟨k1,k2,k3⟩=>k ⟨by simpa using k1,by simpa using k2,by simpa using k3⟩]
  ·rw [lcp,if_neg e]at h;omega
theorem lcp_go {a b:List UInt8} {i:Nat} (h:i≤lcp a b) (h1:i<a.length) (h2:i<b.length) (h3:((a.getD i 0).toNat:Int)=((b.getD i 0).toNat:Int)):i+1≤lcp a b:=by
 refine Classical.byContradiction fun k=>?_
 have e:lcp a b=i:=by omega
 have h4:=(lcp_iff (k:=i)).1 h
 have:i+1≤lcp a b:=lcp_iff.2 ⟨by omega,by omega,by
  rw [List.take_add_one,List.take_add_one,h4.2.2,List.getElem?_eq_getElem h1,List.getElem?_eq_getElem h2]
  have e1:a.getD i 0=b.getD i 0:=by rw [←UInt8.toNat_inj];omega
  rw [List.getD_eq_getElem?_getD,List.getElem?_eq_getElem h1,List.getD_eq_getElem?_getD,List.getElem?_eq_getElem h2]at e1
  rw [show a[i]=b[i]from e1]⟩
 omega
set_option maxHeartbeats 1000000 in
theorem FShared {l:List PR} (h:RSl N 2 ao n cap (cellsP xs)) (hP:PsN N l xs) (hn:n≤1099511627776) {p q:PR} (hp:l[0]? =some p) (hq:l[l.length- 1]? =some q) (h40:p.1.length≤1099511627776):Fn Tryz.prog 66 #[.slice ao n cap] [] [N] (fun v L=>v=.int .i64 ((lcp p.1 q.1:Nat):Int)∧L= []):=by
 have hxn:xs.length=n:=by have:=h.1;rw [cellsP_len]at this;omega
 have hln:=hP.len
 have h0:0<l.length:=(List.getElem?_eq_some_iff.1 hp).1
 have hcap:=h.cap63
 refine Fn.enter (vs:= [.slice ao n cap]) Tryz.func66 rfl rfl rfl ?_
 intro E R hR
 have hNR:=hR N (by simp)
 have h:=h.le hNR
 have hPR:=hP.le hNR
 obtain⟨p',x,hp',hx,hpx⟩:=hPR.at (i:=0) h0
 obtain rfl:p'=p:=Option.some.inj (hp'.symm.trans hp)
 obtain⟨q',y,hq',hy,hqy⟩:=hPR.at (i:=l.length- 1) (by omega)
 obtain rfl:q'=q:=Option.some.inj (hq'.symm.trans hq)
 have s3:=hpx.row
 have s4:=hqy.row
 have hr3:=hpx.row.cap63
 have hr4:=hqy.row.cap63
 have hl3:=hpx.rn
 have hl4:=hqy.rn
 have hsm:ao.isSome=true:=h.isSome (by omega)
 change At _ _ E [R] _
 refine At.seq fun _ s_1=>At.region (aE (aD rfl) rfl rfl (aA (aB (s_1 (At.seq fun _ s_2=>At.drawn [] [0,1,2,3,4,5,6,7,8,9,10,11,12] (by kernel_rfl) (by kernel_rfl) (aC (aN rfl rfl rfl (by kernel_rfl)) rfl rfl (op_idxE (aN rfl rfl rfl (by kernel_rfl)) se80 rfl rfl h (show _=(((0:Nat)):Int)from by omega) (by omega) rfl ?_)))))))
 refine bQ (aN rfl rfl rfl (by kernel_rfl)) fl110_0 rfl (by first|rfl|assumption) rfl ?_
 refine aT (aN rfl rfl rfl (by kernel_rfl)) sc23 rfl h (by first|exact get8 (by omega)|exact bT (by omega)|exact bU (by omega)|exact cellsP_row hx) (by first|exact aL|exact aZ|exact bB|exact bF|exact bG|exact bH|exact bL|exact bK|exact bJ|exact bM) rfl ?_
 refine aC (aN rfl rfl rfl (by kernel_rfl)) rfl rfl (aC (aN rfl rfl rfl (by kernel_rfl)) rfl rfl (aU (aN rfl rfl rfl (by kernel_rfl)) se80 rfl rfl (op_subI (aN rfl rfl rfl (by kernel_rfl)) rfl rfl (by omega) (by omega) rfl (op_idxE (aN rfl rfl rfl (by kernel_rfl)) se80 rfl rfl h (show _=(((l.length- 1:Nat)):Int)from by omega) (by omega) rfl ?_))))
 refine bQ (aN rfl rfl rfl (by kernel_rfl)) fl110_0 rfl (by first|rfl|assumption) rfl ?_
 refine aT (aN rfl rfl rfl (by kernel_rfl)) sc23 rfl h (by first|exact get8 (by omega)|exact bT (by omega)|exact bU (by omega)|exact cellsP_row hy) (by first|exact aL|exact aZ|exact bB|exact bF|exact bG|exact bH|exact bL|exact bK|exact bJ|exact bM) rfl ?_
 refine aE (aN rfl rfl rfl (by kernel_rfl)) rfl rfl (aE (aN rfl rfl rfl (by kernel_rfl)) rfl rfl (At.oneNil (aB (s_2 (At.seq fun _ s_3=>At.region (aE (aD rfl) rfl rfl (aA (aB (s_3 (At.seq fun _ s_4=>At.block (At.loop (fun fr_ hp_ ms_=> ∃(i:Nat),fr_= [(3,.slice x.ra x.rn x.rc),(4,.slice y.ra y.rn y.rc),(5,.int .i64 (i:Int))]∧hp_= [R]∧x.rn- i=ms_∧(i≤lcp p'.1 q'.1)) ?_ (.refl _) ⟨0,rfl,rfl,rfl,Nat.zero_le _⟩ ?_)))))))))))
 ·exact .cons (by first|exact aP rfl (by omega)|rfl) (.cons (by first|exact aP rfl (by omega)|rfl) (.cons (by first|exact aP rfl (by omega)|rfl) .nil))
 rintro _ _ _ ⟨i,rfl,rfl,rfl,hi⟩
 refine At.seq fun _ s_5=>At.seq fun _ s_6=>At.drawn [] [0,1,2,3,4,5,6,7,8,9,10,11,12,13,14,15,16,17,18,19,20] (by kernel_rfl) (by kernel_rfl) (aC (aN rfl rfl rfl (by kernel_rfl)) rfl rfl (aC (aN rfl rfl rfl (by kernel_rfl)) rfl rfl (aU (aN rfl rfl rfl (by kernel_rfl)) se23 rfl rfl (op_lss (aN rfl rfl rfl (by kernel_rfl)) rfl rfl rfl (aC (aN rfl rfl rfl (by kernel_rfl)) rfl rfl (At.partP (d:=21) rfl (fun g21=>?_) (fun g21=>?_)))))))
 ·refine aC (nxogf rfl rfl rfl rfl rfl rfl (by kernel_rfl)) rfl rfl (aC (nxogf rfl rfl rfl rfl rfl rfl (by kernel_rfl)) rfl rfl (aU (nxogf rfl rfl rfl rfl rfl rfl (by kernel_rfl)) se23 rfl rfl (op_lss (nxogf rfl rfl rfl rfl rfl rfl (by kernel_rfl)) rfl rfl rfl (bS (aN rfl rfl rfl (by kernel_rfl)) rfl rfl rfl (aC (aN rfl rfl rfl (by kernel_rfl)) rfl rfl (At.partP (d:=27) rfl (fun g27=>?_) (fun g27=>?_)))))))
  ·refine aC (nxogf rfl rfl rfl rfl rfl rfl (by kernel_rfl)) rfl rfl (aC (nxogf rfl rfl rfl rfl rfl rfl (by kernel_rfl)) rfl rfl (bI (nxogf rfl rfl rfl rfl rfl rfl (by kernel_rfl)) se23 rfl rfl s3 (show _=(((i:Nat)):Int)from by omega) (by omega) rfl ?_))
   refine aT (nxogf rfl rfl rfl rfl rfl rfl (by kernel_rfl)) sc5 rfl s3 (by first|exact get8 (by omega)|exact bT (by omega)|exact bU (by omega)) (by first|exact aL|exact aZ|exact bB|exact bF|exact bG|exact bH|exact bL|exact bK|exact bJ|exact bM) rfl ?_
   refine aC (nxogf rfl rfl rfl rfl rfl rfl (by kernel_rfl)) rfl rfl (aC (nxogf rfl rfl rfl rfl rfl rfl (by kernel_rfl)) rfl rfl (bI (nxogf rfl rfl rfl rfl rfl rfl (by kernel_rfl)) se23 rfl rfl s4 (show _=(((i:Nat)):Int)from by omega) (by omega) rfl ?_))
   refine aT (nxogf rfl rfl rfl rfl rfl rfl (by kernel_rfl)) sc5 rfl s4 (by first|exact get8 (by omega)|exact bT (by omega)|exact bU (by omega)) (by first|exact aL|exact aZ|exact bB|exact bF|exact bG|exact bH|exact bL|exact bK|exact bJ|exact bM) rfl ?_
   refine op_eql (nxogf rfl rfl rfl rfl rfl rfl (by kernel_rfl)) rfl rfl rfl (bS (aN rfl rfl rfl (by kernel_rfl)) rfl rfl rfl (At.oneNil (aB (s_6 (aK rfl (fun c37=>?_) (fun c37=>?_))))))
   ·refine At.skip (aB (s_5 (At.block (At.region (aC (aD rfl) rfl rfl (aV (aD rfl) rfl rfl (by omega) (by omega) rfl (aE (aD rfl) rfl rfl (aA (aR (aB (bD ?_ (.refl _) ⟨i+1,rfl,rfl,rfl,lcp_go hi (by omega) (by omega) c37⟩ ?_)))))))))))
    ·exact .cons (by first|exact aP rfl (by omega)|rfl) (.cons (by first|exact aP rfl (by omega)|rfl) (.cons (by first|exact aP rfl (by omega)|rfl) .nil))
    ·omega
   refine At.exit (aG (aG (bC (aB (s_4 (At.seq fun _ s_7=>At.region (aC (aD rfl) rfl rfl (aE (aD rfl) rfl rfl (aA (aB (s_7 (At.ret ((aW (L1:= []) rfl (.tmp rfl .nil) (.refl _) (.refl _) ?_))))))))))))))
   exact⟨by rw [lcp_stop hi fun k=>c37 (by rw [k.2.2])],rfl⟩
  refine bN rfl rfl rfl rfl rfl rfl rfl rfl (bN rfl rfl rfl rfl rfl rfl rfl rfl (bN rfl rfl rfl rfl rfl rfl rfl rfl (bN rfl rfl rfl rfl rfl rfl rfl rfl (bN rfl rfl rfl rfl rfl rfl rfl rfl (bN rfl rfl rfl rfl rfl rfl rfl rfl (bN rfl rfl rfl rfl rfl rfl rfl rfl (bN rfl rfl rfl rfl rfl rfl rfl rfl (bN rfl rfl rfl rfl rfl rfl rfl rfl (bR (aN rfl rfl rfl (by kernel_rfl)) rfl rfl rfl (At.oneNil (aB (s_6 (At.condF rfl (At.exit (aG (aG (bC (aB (s_4 (At.seq fun _ s_8=>At.region (aC (aD rfl) rfl rfl (aE (aD rfl) rfl rfl (aA (aB (s_8 ?_)))))))))))))))))))))))))
  refine At.ret ((aW (L1:= []) rfl (.tmp rfl .nil) (.refl _) (.refl _) ?_))
  exact⟨by rw [lcp_stop hi fun k=>g27 (by have:=k.2.1;omega)],rfl⟩
 refine bN rfl rfl rfl rfl rfl rfl rfl rfl (bN rfl rfl rfl rfl rfl rfl rfl rfl (bN rfl rfl rfl rfl rfl rfl rfl rfl (bN rfl rfl rfl rfl rfl rfl rfl rfl (bR (aN rfl rfl rfl (by kernel_rfl)) rfl rfl rfl (aC (aN rfl rfl rfl (by kernel_rfl)) rfl rfl (bN rfl rfl rfl rfl rfl rfl rfl rfl (bN rfl rfl rfl rfl rfl rfl rfl rfl (bN rfl rfl rfl rfl rfl rfl rfl rfl (bN rfl rfl rfl rfl rfl rfl rfl rfl (bN rfl rfl rfl rfl rfl rfl rfl rfl (bN rfl rfl rfl rfl rfl rfl rfl rfl (bN rfl rfl rfl rfl rfl rfl rfl rfl (bN rfl rfl rfl rfl rfl rfl rfl rfl (bN rfl rfl rfl rfl rfl rfl rfl rfl (bR (aN rfl rfl rfl (by kernel_rfl)) rfl rfl rfl (At.oneNil (aB (s_6 (At.condF rfl (At.exit (aG (aG (bC (aB (s_4 ?_)))))))))))))))))))))))))
 refine At.seq fun _ s_9=>At.region (aC (aD rfl) rfl rfl (aE (aD rfl) rfl rfl (aA (aB (s_9 (At.ret ((aW (L1:= []) rfl (.tmp rfl .nil) (.refl _) (.refl _) ?_))))))))
 exact⟨by rw [lcp_stop hi fun k=>g21 (by have:=k.1;omega)],rfl⟩
end
end Go.Proofs.YtdpjbefeabokgaaGreat
/- Layer 12, the reference: nibbles, pairs without their first nibbles, those under a nibble, how many all share. No condition but that bytes are not longer than a machine holds. -/
namespace Go.Proofs.YtdpjbefeabokgaaGreat
open Go Go.RowKit
set_option maxRecDepth 100000
section
variable {N : Heaplet} {ao : Option Addr} {n cap : Nat} {l : List UInt8}
theorem rNibs (h:RSl N 1 ao n cap (u8s l)) (hn:n≤1099511627776):Fn Tryz.prog 45 #[.slice ao n cap] [] [N] (fun v L=> ∃M a c,v=.slice a (2*n) c∧L= [M]∧Row M 5 1 a (2*n) c (u8s (nibs l))):=by
 have hlen:=h.len8
 have hcap:=h.cap63
 refine Fn.enter (vs:= [.slice ao n cap]) Tryz.func45 rfl rfl rfl ?_
 intro E R hR
 have h:=h.le (hR N (by simp))
 change At _ _ E [R] _
 refine At.seq fun _ s_1=>At.region (aE (aD rfl) rfl rfl (aA (aB (s_1 (At.seq fun _ s_2=>At.region (aE (aD rfl) rfl rfl (aA (aB (s_2 (At.seq fun _ s_3=>At.seq fun _ s_4=>At.region (aE (aD rfl) rfl rfl (aA (aB (s_4 (At.block (At.empty (At.loop (fun fr_ hp_ ms_=> ∃(k m:Nat) (a:Option Addr) (c:Nat) (Na:Heaplet),fr_= [(0,.slice ao n cap),(3,.slice a m c),(4,.int .i64 (k:Int))]∧hp_= [Na,R]∧n- k=ms_∧(k≤n)∧(m=2*k)∧(Row Na 5 1 a m c (u8s (nibs (l.take k))))) ?_ (.refl _) ⟨0,0,none,0,nilH,rfl,rfl,rfl,Nat.zero_le _,rfl,Row.nil _ _ _⟩ ?_)))))))))))))))))
 ·exact .cons (by first|exact aP rfl (by omega)|rfl) (.cons (by first|exact aP rfl (by omega)|rfl) (.cons (by first|exact aP rfl (by omega)|rfl) .nil))
 rintro _ _ _ ⟨k,m,a,c,Na,rfl,rfl,rfl,hk,hm,ra⟩
 refine At.seq fun _ s_5=>At.seq fun _ s_6=>At.region (aC (aD rfl) rfl rfl (aC (aD rfl) rfl rfl (aU (aD rfl) se23 rfl rfl (op_lss (aD rfl) rfl rfl rfl (aA (aB (s_6 (aK rfl (fun c8=>?_) (fun c8=>?_)))))))))
 ·have hx:=(l.getD k 0).toNat_lt
  have e1:=nib_hi (l.getD k 0)
  have e2:=nib_lo (l.getD k 0)
  refine At.skip (aB (s_5 (At.seq fun _ s_7=>At.block (At.drawnS [R] [11,12] [0] [0,1,2,3,4,5,6,7,8,9,10,11,12,13] (by kernel_rfl) (by kernel_rfl) (.cons _ (.refl _)) (aC (aX rfl rfl rfl) rfl rfl (aC (aX rfl rfl rfl) rfl rfl (aC (aX rfl rfl rfl) rfl rfl (bI (aX rfl rfl rfl) se23 rfl rfl h (show _=(((k:Nat)):Int)from by omega) (by omega) rfl ?_))))))))
  refine aT (aX rfl rfl rfl) sc5 rfl h (by first|exact get8 (by omega)|exact bT (by omega)|exact bU (by omega)) (by first|exact aL|exact aZ|exact bB|exact bF|exact bG|exact bH|exact bL|exact bK|exact bJ|exact bM) rfl ?_
  refine op_quo8 (aX rfl rfl rfl) rfl rfl (by omega) (by omega) (by omega) rfl (aC (aX rfl rfl rfl) rfl rfl (aC (aX rfl rfl rfl) rfl rfl (bI (aX rfl rfl rfl) se23 rfl rfl h (show _=(((k:Nat)):Int)from by omega) (by omega) rfl ?_)))
  refine aT (aX rfl rfl rfl) sc5 rfl h (by first|exact get8 (by omega)|exact bT (by omega)|exact bU (by omega)) (by first|exact aL|exact aZ|exact bB|exact bF|exact bG|exact bH|exact bL|exact bK|exact bJ|exact bM) rfl ?_
  refine op_rem (aX rfl rfl rfl) rfl rfl (by omega) (by omega) rfl (op_lit (Nx.agree (nxss rfl rfl rfl rfl)) Tryz.underlying23 ze5 sz5 (.cons rfl (.cons rfl .nil)) rfl rfl (by simp [Value.cells]) rfl rfl rfl (fun N22 a22 r22=>?_))
  simp only [flatV,List.flatMap_cons,List.flatMap_nil,Value.cells,List.append_nil,List.cons_append,List.nil_append]at r22
  have s22:=r22.rsl
  refine At.anyS (.refl _) ?_
  rw [vb2 (a:=l.getD k 0>>>4) (b:=l.getD k 0&&&15) (by omega) (by omega)]at s22
  refine bE (nxss rfl rfl rfl rfl) Tryz.underlying23 Tryz.underlying23 te5 rfl rfl ra s22 (by first|exact aL|exact aZ|exact bB|exact bF|exact bG|exact bH|exact bL|exact bK|exact bJ|exact bM) (by first|exact one_u8s _|exact one_u64s _|exact one_u32s _|(intro u hu;simp at hu;subst hu;rfl)) (by omega) (by omega) sel1 rfl (fun N23 a23 p23 r23=>?_)
  have s23:=r23.rsl
  refine At.anyS (.refl _) ?_
  rw [←u8s_app, ←nibs_take (by omega)]at r23
  refine aE (aX rfl rfl rfl) rfl rfl (At.sNil (aR (aB (s_7 (At.region (aC (aD rfl) rfl rfl (aV (aD rfl) rfl rfl (by omega) (by omega) rfl (aE (aD rfl) rfl rfl (aA (aB (At.sub (L':= [N23,R]) (.cons_cons _ (.cons _ (.cons_cons _ (.slnil)))) (bD ?_ (.refl _) ⟨k+1,m+2,a23,p23,N23,rfl,rfl,rfl,by omega,by omega,r23⟩ ?_))))))))))))
  ·exact .cons (by first|exact aP rfl (by omega)|rfl) (.cons (by first|exact aP rfl (by omega)|rfl) (.cons (by first|exact aP rfl (by omega)|rfl) .nil))
  ·omega
 refine At.exit (aG (aG (bC (aB (s_3 (At.seq fun _ s_8=>At.region (aC (aD rfl) rfl rfl (aE (aD rfl) rfl rfl (aA (aB (s_8 (At.ret ((aW (L1:= [Na]) rfl (.tmp rfl .nil) (.refl _) (.refl _) ?_))))))))))))))
 have e:k=n:=by omega
 subst e
 rw [List.take_of_length_le (by omega),hm]at ra
 exact⟨Na,a,c,by rw [hm],rfl,ra⟩
end
section
variable {N : Heaplet} {ao : Option Addr} {n cap : Nat} {xs : List PV}
def PairsQ (xs:List PV) (v:Value) (L:List Heaplet):Prop:= ∃M a c,v=.slice a xs.length c∧L= [M]∧Row M 92 2 a xs.length c (cellsP xs)
set_option maxHeartbeats 1000000 in
theorem rCut (h:RSl N 2 ao n cap (cellsP xs)) {k:Nat} (hk:RowsB k xs) (hn:n≤1099511627776):Fn Tryz.prog 48 #[.slice ao n cap,.int .i64 (k:Int)] [] [N] (PairsQ (xs.map (PV.cut k))):=by
 have hxn:xs.length=n:=by have:=h.1;rw [cellsP_len]at this;omega
 have hcap:=h.cap63
 refine Fn.enter (vs:= [.slice ao n cap,.int .i64 (k:Int)]) Tryz.func48 rfl rfl rfl ?_
 intro E R hR
 have h:=h.le (hR N (by simp))
 change At _ _ E [R] _
 refine At.seq fun _ s_1=>At.region (aE (aD rfl) rfl rfl (aA (aB (s_1 (At.seq fun _ s_2=>At.region (aE (aD rfl) rfl rfl (aA (aB (s_2 (At.seq fun _ s_3=>At.seq fun _ s_4=>At.region (aE (aD rfl) rfl rfl (aA (aB (s_4 (At.block (At.empty (At.loop (fun fr_ hp_ ms_=> ∃(i m:Nat) (a:Option Addr) (cp:Nat) (Na:Heaplet),fr_= [(0,.slice ao n cap),(1,.int .i64 (k:Int)),(5,.slice a m cp),(6,.int .i64 (i:Int))]∧hp_= [Na,R]∧n- i=ms_∧(i≤n)∧(m=i)∧(Row Na 92 2 a m cp (cellsP ((xs.take i).map (PV.cut k))))) ?_ (.refl _) ⟨0,0,none,0,nilH,rfl,rfl,rfl,Nat.zero_le _,rfl,Row.nil _ _ _⟩ ?_)))))))))))))))))
 ·exact .cons (by first|exact aP rfl (by omega)|rfl) (.cons (by first|exact aP rfl (by omega)|rfl) (.cons (by first|exact aP rfl (by omega)|rfl) (.cons (by first|exact aP rfl (by omega)|rfl) .nil)))
 rintro _ _ _ ⟨i,m,a,cp,Na,rfl,rfl,rfl,hi,hm,ra⟩
 refine At.seq fun _ s_5=>At.seq fun _ s_6=>At.region (aC (aD rfl) rfl rfl (aC (aD rfl) rfl rfl (aU (aD rfl) se85 rfl rfl (op_lss (aD rfl) rfl rfl rfl (aA (aB (s_6 (aK rfl (fun c10=>?_) (fun c10=>?_)))))))))
 ·obtain⟨x,hx⟩: ∃x,xs[i]? =some x:=⟨_,List.getElem?_eq_getElem (by omega)⟩
  obtain⟨x1,x2,x3⟩:=hk x (List.mem_of_getElem? hx)
  have hsm:ao.isSome=true:=h.isSome (by omega)
  refine At.skip (aB (s_5 (At.seq fun _ s_7=>At.block (At.drawnS [R] [14,15] [0] [0,1,2,3,4,5,6,7,8,9,10,11,12,13,14,15,16] (by kernel_rfl) (by kernel_rfl) (.cons _ (.refl _)) (aC (aX rfl rfl rfl) rfl rfl (aC (aX rfl rfl rfl) rfl rfl (aC (aX rfl rfl rfl) rfl rfl (op_idxE (aX rfl rfl rfl) se85 rfl rfl h (show _=(((i:Nat)):Int)from by omega) (by omega) rfl ?_))))))))
  refine bQ (aX rfl rfl rfl) fl92_0 rfl (by first|rfl|assumption) rfl ?_
  refine aT (aX rfl rfl rfl) sc23 rfl h (by first|exact get8 (by omega)|exact bT (by omega)|exact bU (by omega)|exact cellsP_row hx) (by first|exact aL|exact aZ|exact bB|exact bF|exact bG|exact bH|exact bL|exact bK|exact bJ|exact bM) rfl ?_
  refine aC (aX rfl rfl rfl) rfl rfl (op_slice (aX rfl rfl rfl) se23 rfl (.some rfl (show _=(((k:Nat)):Int)from by omega)) .none .none (by omega) (by omega) (by omega) (by simp) rfl ?_)
  refine aC (aX rfl rfl rfl) rfl rfl (aC (aX rfl rfl rfl) rfl rfl (op_idxE (aX rfl rfl rfl) se85 rfl rfl h (show _=(((i:Nat)):Int)from by omega) (by omega) rfl ?_))
  refine bQ (aX rfl rfl rfl) fl92_1 rfl (by first|rfl|assumption) rfl ?_
  refine aT (aX rfl rfl rfl) sc23 rfl h (by first|exact get8 (by omega)|exact bT (by omega)|exact bU (by omega)|exact cellsP_val hx) (by first|exact aL|exact aZ|exact bB|exact bF|exact bG|exact bH|exact bL|exact bK|exact bJ|exact bM) rfl ?_
  refine op_build (out:= [_,_]) (aX rfl rfl rfl) ze92 pl92 (.cons rfl (.cons rfl .nil)) rfl rfl (op_lit (Nx.agree (nxss rfl rfl rfl rfl)) Tryz.underlying85 ze92 sz92 (.cons rfl .nil) rfl rfl (by simp [Value.cells]) rfl rfl rfl (fun N27 a27 r27=>?_))
  simp only [flatV,List.flatMap_cons,List.flatMap_nil,Value.cells,List.append_nil,List.cons_append,List.nil_append]at r27
  have s27:=r27.rsl
  refine At.anyS (.refl _) ?_
  change Row N27 _ 2 a27 1 1 (cellsP [x.cut k])at r27
  have s27:=r27.rsl
  refine bE (nxss rfl rfl rfl rfl) Tryz.underlying85 Tryz.underlying85 te92 rfl rfl ra s27 (by first|exact aL|exact aZ|exact bB|exact bF|exact bG|exact bH|exact bL|exact bK|exact bJ|exact bM) (cellsP_one _) (by omega) (by omega) sel1 rfl (fun N28 a28 p28 r28=>?_)
  have s28:=r28.rsl
  refine At.anyS (.refl _) ?_
  rw [←cellsP_app]at r28
  refine aE (aX rfl rfl rfl) rfl rfl (At.sNil (aR (aB (s_7 (At.region (aC (aD rfl) rfl rfl (aV (aD rfl) rfl rfl (by omega) (by omega) rfl (aE (aD rfl) rfl rfl (aA (aB (At.sub (L':= [N28,R]) (.cons_cons _ (.cons _ (.cons_cons _ (.slnil)))) ?_)))))))))))
  refine bD ?_ (.refl _) ⟨i+1,m+1,a28,p28,N28,rfl,rfl,rfl,by omega,by omega,by rw [take_next1 hx,List.map_append];exact r28⟩ ?_
  ·exact .cons (by first|exact aP rfl (by omega)|rfl) (.cons (by first|exact aP rfl (by omega)|rfl) (.cons (by first|exact aP rfl (by omega)|rfl) (.cons (by first|exact aP rfl (by omega)|rfl) .nil)))
  ·omega
 refine At.exit (aG (aG (bC (aB (s_3 (At.seq fun _ s_8=>At.region (aC (aD rfl) rfl rfl (aE (aD rfl) rfl rfl (aA (aB (s_8 (At.ret ((aW (L1:= [Na]) rfl (.tmp rfl .nil) (.refl _) (.refl _) ?_))))))))))))))
 have e:i=n:=by omega
 subst e
 rw [List.take_of_length_le (by omega)]at ra
 have e2:m=(xs.map (PV.cut k)).length:=by rw [List.length_map];omega
 rw [e2]at ra⊢
 exact⟨Na,a,cp,rfl,rfl,ra⟩
set_option maxHeartbeats 1000000 in
theorem rUnder {l:List PR} (h:RSl N 2 ao n cap (cellsP xs)) (hP:PsN N l xs) (hn:n≤1099511627776) (c:UInt8):Fn Tryz.prog 49 #[.slice ao n cap,.int .u8 (c.toNat:Int)] [] [N] (fun v L=> ∃ys,PairsQ ys v L∧ ∀J:Heaplet,PsN J l xs→PsN J (undR c l) ys):=by
 have hxn:xs.length=n:=by have:=h.1;rw [cellsP_len]at this;omega
 have hln:=hP.len
 have hcap:=h.cap63
 refine Fn.enter (vs:= [.slice ao n cap,.int .u8 (c.toNat:Int)]) Tryz.func49 rfl rfl rfl ?_
 intro E R hR
 have hNR:=hR N (by simp)
 have h:=h.le hNR
 have hPR:=hP.le hNR
 change At _ _ E [R] _
 refine At.seq fun _ s_1=>At.region (aE (aD rfl) rfl rfl (aA (aB (s_1 (At.seq fun _ s_2=>At.region (aE (aD rfl) rfl rfl (aA (aB (s_2 (At.seq fun _ s_3=>At.seq fun _ s_4=>At.region (aE (aD rfl) rfl rfl (aA (aB (s_4 (At.block (At.empty (At.loop (fun fr_ hp_ ms_=> ∃(i m:Nat) (a:Option Addr) (cp:Nat) (ys:List PV) (Na:Heaplet),fr_= [(0,.slice ao n cap),(1,.int .u8 (c.toNat:Int)),(5,.slice a m cp),(6,.int .i64 (i:Int))]∧hp_= [Na,R]∧n- i=ms_∧(i≤n)∧(m=ys.length)∧(m≤i)∧(Row Na 92 2 a m cp (cellsP ys))∧(∀J:Heaplet,PsN J l xs→PsN J (undR c (l.take i)) ys)) ?_ (.refl _) ⟨0,0,none,0,[],nilH,rfl,rfl,rfl,Nat.zero_le _,rfl,Nat.le_refl _,Row.nil _ _ _,fun J _=>PsN.nil _⟩ ?_)))))))))))))))))
 ·exact .cons (by first|exact aP rfl (by omega)|rfl) (.cons (by first|exact aP rfl (by omega)|rfl) (.cons (by first|exact aP rfl (by omega)|rfl) (.cons (by first|exact aP rfl (by omega)|rfl) .nil)))
 rintro _ _ _ ⟨i,m,a,cp,ys,Na,rfl,rfl,rfl,hi,hm,hm2,ra,hy⟩
 refine At.seq fun _ s_5=>At.seq fun _ s_6=>At.region (aC (aD rfl) rfl rfl (aC (aD rfl) rfl rfl (aU (aD rfl) se85 rfl rfl (op_lss (aD rfl) rfl rfl rfl (aA (aB (s_6 (aK rfl (fun c10=>?_) (fun c10=>?_)))))))))
 ·obtain⟨p,x,hp,hx,hpx⟩:=hPR.at (i:=i) (by omega)
  have hrb:=hpx.row.cap63
  have hrl:=hpx.row.len8
  have srow:=hpx.row
  have hsm:ao.isSome=true:=h.isSome (by omega)
  refine At.skip (aB (s_5 (At.seq fun _ s_7=>At.block (At.seq fun _ s_8=>At.region (aC (aD rfl) rfl rfl (aC (aD rfl) rfl rfl (op_idxE (aD rfl) se85 rfl rfl h (show _=(((i:Nat)):Int)from by omega) (by omega) rfl ?_)))))))
  refine bQ (aD rfl) fl92_0 rfl (by first|rfl|assumption) rfl ?_
  refine aT (aD rfl) sc23 rfl h (by first|exact get8 (by omega)|exact bT (by omega)|exact bU (by omega)|exact cellsP_row hx) (by first|exact aL|exact aZ|exact bB|exact bF|exact bG|exact bH|exact bL|exact bK|exact bJ|exact bM) rfl ?_
  refine aU (aD rfl) se23 rfl rfl (op_gtr (aD rfl) rfl rfl rfl (aC (aD rfl) rfl rfl (At.partP (d:=20) rfl (fun g20=>?_) (fun g20=>?_))))
  ·refine aC (aY rfl rfl rfl rfl) rfl rfl (aC (aY rfl rfl rfl rfl) rfl rfl (op_idxE (aY rfl rfl rfl rfl) se85 rfl rfl h (show _=(((i:Nat)):Int)from by omega) (by omega) rfl ?_))
   refine bQ (aY rfl rfl rfl rfl) fl92_0 rfl (by first|rfl|assumption) rfl ?_
   refine aT (aY rfl rfl rfl rfl) sc23 rfl h (by first|exact get8 (by omega)|exact bT (by omega)|exact bU (by omega)|exact cellsP_row hx) (by first|exact aL|exact aZ|exact bB|exact bF|exact bG|exact bH|exact bL|exact bK|exact bJ|exact bM) rfl ?_
   refine bI (aY rfl rfl rfl rfl) se23 rfl rfl srow (show _=(((0:Nat)):Int)from by omega) (by omega) rfl ?_
   refine aT (aY rfl rfl rfl rfl) sc5 rfl srow (by first|exact get8 (by omega)|exact bT (by omega)|exact bU (by omega)) (by first|exact aL|exact aZ|exact bB|exact bF|exact bG|exact bH|exact bL|exact bK|exact bJ|exact bM) rfl ?_
   refine aC (aY rfl rfl rfl rfl) rfl rfl (op_eql (aY rfl rfl rfl rfl) rfl rfl rfl (bS (aD rfl) rfl rfl rfl (aA (aB (s_8 (aK rfl (fun c30=>?_) (fun c30=>?_)))))))
   ·refine At.region (aC (aD rfl) rfl rfl (aC (aD rfl) rfl rfl (aC (aD rfl) rfl rfl (op_idxE (aD rfl) se85 rfl rfl h (show _=(((i:Nat)):Int)from by omega) (by omega) rfl ?_))))
    refine op_loadAggE (ds:= [.slice x.ra x.rn x.rc,.slice x.va x.vn x.vc]) (aD rfl) ag92 rfl h (by exact cellsP_at hx) (by rfl) (by omega) (by first|exact aL|exact aZ|exact bB|exact bF|exact bG|exact bH|exact bL|exact bK|exact bJ|exact bM) rfl ?_
    refine op_lit (bA rfl) Tryz.underlying85 ze92 sz92 (.cons rfl .nil) rfl rfl (by simp [Value.cells]) rfl rfl rfl (fun N36 a36 r36=>?_)
    simp only [flatV,List.flatMap_cons,List.flatMap_nil,Value.cells,List.append_nil,List.cons_append,List.nil_append]at r36
    have s36:=r36.rsl
    change Row N36 _ 2 a36 1 1 (cellsP [x])at r36
    have s36:=r36.rsl
    refine bE (nxl rfl) Tryz.underlying85 Tryz.underlying85 te92 rfl rfl ra s36 (by first|exact aL|exact aZ|exact bB|exact bF|exact bG|exact bH|exact bL|exact bK|exact bJ|exact bM) (cellsP_one _) (by omega) (by omega) sel1 rfl (fun N37 a37 p37 r37=>?_)
    have s37:=r37.rsl
    rw [←cellsP_app]at r37
    refine aE (aD rfl) rfl rfl (aA (aR (aB (s_7 (At.region (aC (aD rfl) rfl rfl (aV (aD rfl) rfl rfl (by omega) (by omega) rfl (aE (aD rfl) rfl rfl (aA (aB (At.sub (L':= [N37,R]) (.cons_cons _ (.cons _ (.cons_cons _ (.slnil)))) ?_)))))))))))
    refine bD ?_ (.refl _) ⟨i+1,m+1,a37,p37,ys++ [x],N37,rfl,rfl,rfl,by omega,by simp [hm],by omega,r37,fun J hJ=>by rw [und_take hp,if_pos (head_is (by omega) c30)];exact(hy J hJ).snoc (hJ.each i p x hp hx)⟩ ?_
    ·exact .cons (by first|exact aP rfl (by omega)|rfl) (.cons (by first|exact aP rfl (by omega)|rfl) (.cons (by first|exact aP rfl (by omega)|rfl) (.cons (by first|exact aP rfl (by omega)|rfl) .nil)))
    ·omega
   refine At.skip (aR (aB (s_7 (At.region (aC (aD rfl) rfl rfl (aV (aD rfl) rfl rfl (by omega) (by omega) rfl (aE (aD rfl) rfl rfl (aA (aB ?_)))))))))
   refine bD ?_ (.refl _) ⟨i+1,m,a,cp,ys,Na,rfl,rfl,rfl,by omega,hm,by omega,ra,fun J hJ=>by rw [und_take hp,if_neg (head_not c30),List.append_nil];exact hy J hJ⟩ ?_
   ·exact .cons (by first|exact aP rfl (by omega)|rfl) (.cons (by first|exact aP rfl (by omega)|rfl) (.cons (by first|exact aP rfl (by omega)|rfl) (.cons (by first|exact aP rfl (by omega)|rfl) .nil)))
   ·omega
  refine aH rfl rfl rfl rfl rfl rfl rfl (aH rfl rfl rfl rfl rfl rfl rfl (aH rfl rfl rfl rfl rfl rfl rfl (aH rfl rfl rfl rfl rfl rfl rfl (aH rfl rfl rfl rfl rfl rfl rfl (aH rfl rfl rfl rfl rfl rfl rfl (aH rfl rfl rfl rfl rfl rfl rfl (aH rfl rfl rfl rfl rfl rfl rfl (aH rfl rfl rfl rfl rfl rfl rfl (bR (aD rfl) rfl rfl rfl (aA (aB (s_8 (At.condF rfl (At.skip (aR (aB (s_7 (At.region (aC (aD rfl) rfl rfl (aV (aD rfl) rfl rfl (by omega) (by omega) rfl (aE (aD rfl) rfl rfl (aA ?_))))))))))))))))))))))
  refine aB ?_
  refine bD ?_ (.refl _) ⟨i+1,m,a,cp,ys,Na,rfl,rfl,rfl,by omega,hm,by omega,ra,fun J hJ=>by rw [und_take hp,if_neg (head_none (by omega)),List.append_nil];exact hy J hJ⟩ ?_
  ·exact .cons (by first|exact aP rfl (by omega)|rfl) (.cons (by first|exact aP rfl (by omega)|rfl) (.cons (by first|exact aP rfl (by omega)|rfl) (.cons (by first|exact aP rfl (by omega)|rfl) .nil)))
  ·omega
 refine At.exit (aG (aG (bC (aB (s_3 (At.seq fun _ s_9=>At.region (aC (aD rfl) rfl rfl (aE (aD rfl) rfl rfl (aA (aB (s_9 (At.ret ((aW (L1:= [Na]) rfl (.tmp rfl .nil) (.refl _) (.refl _) ?_))))))))))))))
 rw [List.take_of_length_le (by omega)]at hy
 rw [hm]at ra⊢
 exact⟨ys,⟨Na,a,cp,rfl,rfl,ra⟩,hy⟩
end
end Go.Proofs.YtdpjbefeabokgaaGreat
/- Layer 12: a row of nibbles as bytes; items of texts and lists. No condition but that bytes are not longer than a machine holds. -/
namespace Go.Proofs.YtdpjbefeabokgaaGreat
open Go Go.RowKit
set_option maxRecDepth 100000
theorem FNib1 (c:UInt8):Fn Tryz.prog 109 #[.int .u8 (c.toNat:Int)] [] [] (fun v L=>v=.bool (decide ((c.toNat:Int)>15))∧L= []):=by
 refine Fn.enter (vs:= [.int .u8 (c.toNat:Int)]) Tryz.func109 rfl rfl rfl ?_
 intro E R hR
 change At _ _ E [R] _
 refine At.seq fun _ s_1=>At.region (aE (aD rfl) rfl rfl (aA (aB (s_1 (At.seq fun _ s_2=>At.region (aC (aD rfl) rfl rfl (op_gtr (aD rfl) rfl rfl rfl (aE (aD rfl) rfl rfl (aA (aB (s_2 (At.ret ((aW (L1:= []) rfl (.tmp rfl .nil) (.refl _) (.refl _) ?_))))))))))))))
 exact⟨rfl,rfl⟩
theorem FText_t {a:Option Addr} {n c:Nat} :Fn Tryz.prog 91 #[.slice a n c] [] [] (fun v L=>v=.agg #[.bool false,.slice a n c,.slice none 0 0]∧L= []):=by
 refine Fn.enter (vs:= [.slice a n c]) Tryz.func91 rfl rfl rfl ?_
 intro E R hR
 change At _ _ E [R] _
 refine At.seq fun _ s_1=>At.region (bO (bA rfl) ze68 rfl (fun N2 b2 B2=>?_))
 change Blk N2 b2 _ [.bool false,.slice none 0 0,.slice none 0 0]at B2
 refine aA (aB (s_1 (At.seq fun _ s_2=>At.region (aC (aD rfl) rfl rfl (op_build (out:= [.bool false,_,.slice none 0 0]) (aD rfl) ze68 pl68 (.cons rfl .nil) rfl rfl (aO (nxl rfl) sz68 rfl rfl rfl rfl rfl B2 (by simp) sel0 (fun N2 B2=>?_)))))))
 simp only [setL,List.set]at B2
 refine aA (aB (s_2 (At.ret ((aW (L1:= []) rfl (.cell rfl (res_agg (ds:= [_,_,_]) ag68 B2 rfl rfl aL) .nil) (.cons _ (.refl _)) (.refl _) ?_)))))
 exact⟨rfl,rfl⟩
theorem FList_t {a:Option Addr} {n c:Nat} :Fn Tryz.prog 93 #[.slice a n c] [] [] (fun v L=>v=.agg #[.bool true,.slice none 0 0,.slice a n c]∧L= []):=by
 refine Fn.enter (vs:= [.slice a n c]) Tryz.func93 rfl rfl rfl ?_
 intro E R hR
 change At _ _ E [R] _
 refine At.seq fun _ s_1=>At.region (bO (bA rfl) ze68 rfl (fun N2 b2 B2=>?_))
 change Blk N2 b2 _ [.bool false,.slice none 0 0,.slice none 0 0]at B2
 refine aA (aB (s_1 (At.seq fun _ s_2=>At.region (aC (aD rfl) rfl rfl (op_build (out:= [_,.slice none 0 0,_]) (aD rfl) ze68 pl68 (.cons rfl (.cons rfl .nil)) rfl rfl (aO (nxl rfl) sz68 rfl rfl rfl rfl rfl B2 (by simp) sel0 (fun N2 B2=>?_)))))))
 simp only [setL,List.set]at B2
 refine aA (aB (s_2 (At.ret ((aW (L1:= []) rfl (.cell rfl (res_agg (ds:= [_,_,_]) ag68 B2 rfl rfl aL) .nil) (.cons _ (.refl _)) (.refl _) ?_)))))
 exact⟨rfl,rfl⟩
section
variable {N : Heaplet} {ao : Option Addr} {n cap : Nat} {l : List UInt8}
theorem FIdx (h:RSl N 1 ao n cap (u8s l)):Fn Tryz.prog 129 #[.slice ao n cap,.func (.func 109) #[] #[]] [] [N] (fun v L=> ∃z:Int,v=.int .i64 z∧L= []∧((Nib l∧z= -1)∨(¬Nib l∧0≤z))):=by
 have hlen:=h.len8
 have hcap:=h.cap63
 refine Fn.enter (vs:= [.slice ao n cap,.func (.func 109) #[] #[]]) Tryz.func129 rfl rfl rfl ?_
 intro E R hR
 have h:=h.le (hR N (by simp))
 change At _ _ E [R] _
 refine At.seq fun _ s_1=>At.region (aE (aD rfl) rfl rfl (aA (aB (s_1 (At.seq fun _ s_2=>At.seq fun _ s_3=>At.region (aC (aD rfl) rfl rfl (aU (aD rfl) se23 rfl rfl (aC (aD rfl) rfl rfl (aA (aB (s_3 (At.block (At.loop (fun fr_ hp_ ms_=> ∃(i:Nat),fr_= [(0,.slice ao n cap),(1,.func (.func 109) #[] #[]),(7,.int .i64 (n:Int)),(8,.int .i64 (i:Int))]∧hp_= [R]∧n- i=ms_∧(i≤n)∧(Nib (l.take i))) ?_ (.refl _) ⟨0,rfl,rfl,rfl,Nat.zero_le _,fun x hx=>by simp at hx⟩ ?_)))))))))))))
 ·exact .cons (by first|exact aP rfl (by omega)|rfl) (.cons (by first|exact aP rfl (by omega)|rfl) (.cons (by first|exact aP rfl (by omega)|rfl) (.cons (by first|exact aP rfl (by omega)|rfl) .nil)))
 rintro _ _ _ ⟨i,rfl,rfl,rfl,hi,hno⟩
 refine At.seq fun _ s_4=>At.region (op_lss (aD rfl) rfl rfl rfl (aA (aB (s_4 (At.seq fun _ s_5=>aK rfl (fun c9=>?_) (fun c9=>?_))))))
 ·have hgx:l[i]? =some (l[i]'(by omega)):=List.getElem?_eq_getElem (by omega)
  have hgd:l.getD i 0=l[i]'(by omega):=by rw [List.getD_eq_getElem?_getD,hgx];rfl
  refine At.skip (aB (s_5 (At.seq fun _ s_6=>At.block (At.seq fun _ s_7=>At.region (aC (aD rfl) rfl rfl (aE (aD rfl) rfl rfl (aA (aB (s_7 (At.seq fun _ s_8=>At.region (aC (aD rfl) rfl rfl (aC (aD rfl) rfl rfl (aC (aD rfl) rfl rfl (bI (aD rfl) se23 rfl rfl h (show _=(((i:Nat)):Int)from by omega) (by omega) rfl ?_))))))))))))))
  refine aT (aD rfl) sc5 rfl h (by first|exact get8 (by omega)|exact bT (by omega)|exact bU (by omega)) (by first|exact aL|exact aZ|exact bB|exact bF|exact bG|exact bH|exact bL|exact bK|exact bJ|exact bM) rfl ?_
  refine op_callV (nxl rfl) rfl (.cons rfl .nil) (FNib1 (l.getD i 0)) (F:= [R]) Tryz.func109 rfl rfl (.refl _) (by simp) rfl ?_
  rintro v16 L16 ⟨rfl,rfl⟩
  change At _ _ _ [R] _
  refine aA (aB (s_8 (aK rfl (fun c16=>?_) (fun c16=>?_))))
  ·refine At.seq fun _ s_9=>At.region (aC (aD rfl) rfl rfl (aE (aD rfl) rfl rfl (aA (aB (s_9 (At.ret (At.inRet (aM (aM (At.inRet (aM ((aW (L1:= []) rfl (.tmp rfl .nil) (.refl _) (.refl _) ?_)))))))))))))
   exact⟨_,rfl,rfl,.inr ⟨fun k=>by have:=k _ (List.mem_of_getElem? hgx);rw [←hgd]at this;omega,by omega⟩⟩
  refine At.skip (aR (aB (s_6 (At.region (aV (aD rfl) rfl rfl (by omega) (by omega) rfl (aC (aD rfl) rfl rfl (aA (aB ?_))))))))
  refine bD ?_ (.refl _) ⟨i+1,rfl,rfl,rfl,by omega,fun x hx=>by rw [take_next1 hgx]at hx;rcases List.mem_append.1 hx with hx|hx;exact hno x hx;rw [List.mem_singleton.1 hx, ←hgd];omega⟩ ?_
  ·exact .cons (by first|exact aP rfl (by omega)|rfl) (.cons (by first|exact aP rfl (by omega)|rfl) (.cons (by first|exact aP rfl (by omega)|rfl) (.cons (by first|exact aP rfl (by omega)|rfl) .nil)))
  ·omega
 refine At.exit (aG (aG (bC (aB (s_2 (At.seq fun _ s_10=>At.region (aE (aD rfl) rfl rfl (aA (aB (s_10 (At.ret ((aW (L1:= []) rfl (.tmp rfl .nil) (.refl _) (.refl _) ?_)))))))))))))
 exact⟨_,rfl,rfl,.inl ⟨by rw [List.take_of_length_le (by omega)]at hno;exact hno,rfl⟩⟩
theorem FHasBad (h:RSl N 1 ao n cap (u8s l)):Fn Tryz.prog 108 #[.slice ao n cap,.func (.func 109) #[] #[]] [] [N] (fun v L=> ∃b:Bool,v=.bool b∧L= []∧((Nib l∧b=false)∨(¬Nib l∧b=true))):=by
 refine Fn.enter (vs:= [.slice ao n cap,.func (.func 109) #[] #[]]) Tryz.func108 rfl rfl rfl ?_
 intro E R hR
 have h:=h.le (hR N (by simp))
 change At _ _ E [R] _
 refine At.seq fun _ s_1=>At.region (aE (aD rfl) rfl rfl (aA (aB (s_1 (At.seq fun _ s_2=>At.region (aC (aD rfl) rfl rfl (aC (aD rfl) rfl rfl (aJ (bA rfl) (.cons rfl (.cons rfl .nil)) (FIdx h) Tryz.func129 rfl rfl (by simp) rfl ?_))))))))
 rintro v7 L7 ⟨z,rfl,rfl,hz⟩
 change At _ _ _ [R] _
 refine op_geq (aD rfl) rfl rfl rfl (aE (aD rfl) rfl rfl (aA (aB (s_2 (At.ret ((aW (L1:= []) rfl (.tmp rfl .nil) (.refl _) (.refl _) (⟨_,rfl,rfl,?_⟩))))))))
 rcases hz with ⟨h1,h2⟩|⟨h1,h2⟩
 ·exact .inl ⟨h1,decide_eq_false (by omega)⟩
 ·exact .inr ⟨h1,decide_eq_true (by omega)⟩
end
end Go.Proofs.YtdpjbefeabokgaaGreat
/- Layer 12: Compact. No condition but that bytes are not longer than a machine holds. -/
namespace Go.Proofs.YtdpjbefeabokgaaGreat
open Go Go.RowKit
set_option maxRecDepth 100000
theorem shlN4: ∀a:Nat,a<16→IntKind.u8.wrap ((a:Int)*2^(min (4:Int).toNat IntKind.u8.bits))=((16*a:Nat):Int):=by decide+kernel
theorem orN: ∀a b:Nat,a<16→b<16→bits .or .u8 ((16*a:Nat):Int) (b:Int)=((16*a+b:Nat):Int):=by
 have: ∀a:Nat,a<16→ ∀b:Nat,b<16→bits .or .u8 ((16*a:Nat):Int) (b:Int)=((16*a+b:Nat):Int):=by decide+kernel
 exact fun a b ha hb=>this a ha b hb
theorem pack_take: ∀ {Q:List UInt8} {i:Nat},i % 2=0→i+1<Q.length→packN (Q.take (i+2))=packN (Q.take i)++ [16*Q.getD i 0+Q.getD (i+1) 0]
 | [],i,_,h=>by simp at h
 | [a],i,_,h=>by simp at h
 |a::b::r,0,_,h=>by simp [packN]
 |a::b::r,1,h,_=>by simp at h
 |a::b::r,i+2,h,h2=>by
  have ih:=pack_take (Q:=r) (i:=i) (by omega) (by simp only [List.length_cons]at h2;omega)
  rw [show i+2+2=(i+2).succ.succ from rfl,List.take_succ_cons,List.take_succ_cons,packN,ih,show i+2=i.succ.succ from rfl,List.take_succ_cons,List.take_succ_cons,packN]
  simp
def flagL (leaf:Bool):UInt8:=if leaf then 2 else 0
def rowL (leaf:Bool) (l:List UInt8):List UInt8:=if l.length % 2=1 then (flagL leaf+1)::l else flagL leaf::0::l
theorem rowL_pack (leaf:Bool) (l:List UInt8):packN (rowL leaf l)=cpt l leaf:=by
 unfold rowL cpt flagL
 cases leaf<;>(split<;>rfl)
theorem rowL_len (leaf:Bool) (l:List UInt8):(rowL leaf l).length % 2=0∧(rowL leaf l).length≤l.length+2∧(rowL leaf l).length/2=l.length/2+1:=by
 unfold rowL;split<;>(simp only [List.length_cons];omega)
theorem rowL_nib {leaf:Bool} {l:List UInt8} (h:Nib l):Nib (rowL leaf l):=by
 unfold rowL flagL
 split
 ·intro x hx
  rcases List.mem_cons.1 hx with rfl|hx
  ·cases leaf<;>decide
  ·exact h x hx
 ·intro x hx
  rcases List.mem_cons.1 hx with rfl|hx
  ·cases leaf<;>decide
  ·rcases List.mem_cons.1 hx with rfl|hx
   ·decide
   ·exact h x hx
theorem nib_getD {Q:List UInt8} (h:Nib Q) (i:Nat):(Q.getD i 0).toNat<16:=by
 rw [List.getD_eq_getElem?_getD]
 cases e:Q[i]? with
 |none=>decide
 |some x=>exact h x (List.mem_of_getElem? e)
theorem flag_nat (leaf:Bool):(flagL leaf).toNat≤2∧(flagL leaf+1).toNat=(flagL leaf).toNat+1:=by cases leaf<;>decide
theorem flagW (leaf:Bool):IntKind.u8.wrap (((flagL leaf).toNat:Int)+1)=((flagL leaf+1).toNat:Int):=by cases leaf<;>decide
theorem vb1 {a:UInt8} {x:Int} (ha:(a.toNat:Int)=x): [Value.int .u8 x]=u8s [a]:=by rw [←ha];rfl
section
variable {N : Heaplet} {ao : Option Addr} {n cap : Nat} {l : List UInt8}
def CptP (l:List UInt8) (leaf:Bool) (v:Value) (L:List Heaplet):Prop:=
 (Nib l∧ ∃M a c,v=.tuple #[.slice a (cpt l leaf).length c,.int .i64 0]∧L= [M]∧Row M 5 1 a (cpt l leaf).length c (u8s (cpt l leaf)))∨(¬Nib l∧v=.tuple #[.slice none 0 0,.int .i64 2]∧L= [])
set_option maxHeartbeats 1000000 in
theorem FCompact (h:RSl N 1 ao n cap (u8s l)) (hn:n≤1099511627776) (leaf:Bool):Fn Tryz.prog 92 #[.slice ao n cap,.bool leaf] [] [N] (CptP l leaf):=by
 have hlen:=h.len8
 have hf:=flag_nat leaf
 obtain⟨q1,q2,q3⟩:=rowL_len leaf l
 refine Fn.enter (vs:= [.slice ao n cap,.bool leaf]) Tryz.func92 rfl rfl rfl ?_
 intro E R hR
 have h:=h.le (hR N (by simp))
 change At _ _ E [R] _
 refine At.seq fun _ s_1=>At.region (aE (aD rfl) rfl rfl (aE (aD rfl) rfl rfl (aA (aB (s_1 (At.seq fun _ s_2=>At.seq fun _ s_3=>At.region (aC (aD rfl) rfl rfl (aJ (bA rfl) (.cons rfl (.cons rfl .nil)) (FHasBad h) Tryz.func108 rfl rfl (by simp) rfl ?_))))))))
 rintro v11 L11 ⟨b,rfl,rfl,hb⟩
 change At _ _ _ [R] _
 refine aA (aB (s_3 (At.condB rfl (fun c11=>?_) (fun c11=>?_))))
 ·refine At.seq fun _ s_4=>At.region (aE (aD rfl) rfl rfl (aE (aD rfl) rfl rfl (aA (aB (s_4 (At.ret (aM ((bP (L1:= []) rfl (.tmp rfl (.tmp rfl .nil)) rfl (.refl _) (.refl _) ?_)))))))))
  rcases hb with ⟨_,e⟩|⟨k,_⟩
  ·rw [e]at c11;cases c11
  ·exact .inr ⟨k,rfl,rfl⟩
 have hN:Nib l:=hb.elim (fun k=>k.1) fun k=>by rw [k.2]at c11;cases c11
 have hQ:=rowL_nib (leaf:=leaf) hN
 refine At.skip (aB (s_2 (At.seq fun _ s_5=>At.region (aE (aD rfl) rfl rfl (aA (aB (s_5 (At.seq fun _ s_6=>At.meet (fun fr_ hp_=>fr_= [(0,.slice ao n cap),(6,.int .u8 ((flagL leaf).toNat:Int))]∧hp_= [R]∧(True)) ?_ (fun K6_ jk_6=>?_)))))))))
 rotate_left
 ·skip
  refine At.seq fun _ s_7=>At.region (aC (aD rfl) rfl rfl (aA (aB (s_7 (At.condB rfl (fun c12=>?_) (fun c12=>?_))))))
  ·have hfl:(flagL leaf).toNat=2:=by rw [c12];rfl
   refine At.region (aE (aD rfl) rfl rfl (aA (aB (jk_6 ?_ (.refl _) ⟨rfl,rfl,trivial⟩))))
   exact .cons (by first|exact aP rfl (by omega)|rfl) (.cons (by first|exact aP rfl (by omega)|rfl) .nil)
  have hfl:(flagL leaf).toNat=0:=by rw [c12];rfl
  refine At.skip (aB (jk_6 ?_ (.refl _) ⟨rfl,rfl,trivial⟩))
  exact .cons (by first|exact aP rfl (by omega)|rfl) (.cons (by first|exact aP rfl (by omega)|rfl) .nil)
 rintro _ _ ⟨rfl,rfl,ht⟩
 refine s_6 (At.seq fun _ s_8=>At.region (aC (aD rfl) rfl rfl (op_lit (bA rfl) Tryz.underlying23 ze5 sz5 (.cons rfl (.cons rfl .nil)) rfl rfl (by simp [Value.cells]) rfl rfl rfl (fun N14 a14 r14=>?_))))
 simp only [flatV,List.flatMap_cons,List.flatMap_nil,Value.cells,List.append_nil,List.cons_append,List.nil_append]at r14
 have s14:=r14.rsl
 refine aC (aD rfl) rfl rfl ?_
 change Row N14 _ 1 a14 2 2 (u8s [flagL leaf,0])at r14
 refine bE (nxl rfl) Tryz.underlying23 Tryz.underlying23 te5 rfl rfl r14 h (by first|exact aL|exact aZ|exact bB|exact bF|exact bG|exact bH|exact bL|exact bK|exact bJ|exact bM) (by first|exact one_u8s _|exact one_u64s _|exact one_u32s _|(intro u hu;simp at hu;subst hu;rfl)) (by omega) (by omega) sel0 rfl (fun N16 a16 p16 r16=>?_)
 have s16:=r16.rsl
 rw [←u8s_app]at r16
 refine aE (aD rfl) rfl rfl (aA (aB (s_8 (At.seq fun _ s_9=>At.meet (fun fr_ hp_=> ∃(m:Nat) (a:Option Addr) (c:Nat) (Na:Heaplet),fr_= [(7,.slice a m c)]∧hp_= [Na,R]∧(m=(rowL leaf l).length)∧(Row Na 5 1 a m c (u8s (rowL leaf l)))) ?_ (fun K9_ jk_9=>?_)))))
 rotate_left
 ·skip
  refine At.seq fun _ s_10=>At.region (aC (aD rfl) rfl rfl (aU (aD rfl) se23 rfl rfl (op_rem (aD rfl) rfl rfl (by omega) (by omega) rfl (op_eql (aD rfl) rfl rfl rfl (aA (aB (s_10 (aK rfl (fun c20=>?_) (fun c20=>?_)))))))))
  ·refine At.region (aC (aD rfl) rfl rfl (op_addW (aD rfl) rfl rfl rfl ?_))
   rw [flagW]
   refine op_lit (bA rfl) Tryz.underlying23 ze5 sz5 (.cons rfl .nil) rfl rfl (by simp [Value.cells]) rfl rfl rfl (fun N23 a23 r23=>?_)
   simp only [flatV,List.flatMap_cons,List.flatMap_nil,Value.cells,List.append_nil,List.cons_append,List.nil_append]at r23
   have s23:=r23.rsl
   refine aC (aD rfl) rfl rfl ?_
   change Row N23 _ 1 a23 1 1 (u8s [flagL leaf+1])at r23
   refine bE (nxl rfl) Tryz.underlying23 Tryz.underlying23 te5 rfl rfl r23 h (by first|exact aL|exact aZ|exact bB|exact bF|exact bG|exact bH|exact bL|exact bK|exact bJ|exact bM) (by first|exact one_u8s _|exact one_u64s _|exact one_u32s _|(intro u hu;simp at hu;subst hu;rfl)) (by omega) (by omega) sel0 rfl (fun N25 a25 p25 r25=>?_)
   have s25:=r25.rsl
   rw [←u8s_app]at r25
   refine aE (aD rfl) rfl rfl (aA (At.sub (L':= [N25,R]) (.cons_cons _ (.cons _ (.cons_cons _ (.slnil)))) ?_))
   refine aB (jk_9 ?_ (.refl _) ⟨1+n,a25,p25,N25,rfl,rfl,by rw [rowL,if_pos (by omega),List.length_cons];omega,by rw [rowL,if_pos (by omega)];exact r25⟩)
   exact .cons (by first|exact aP rfl (by omega)|rfl) .nil
  refine At.skip ?_
  refine aB (jk_9 ?_ (.refl _) ⟨2+n,a16,p16,N16,rfl,rfl,by rw [rowL,if_neg (by omega),List.length_cons,List.length_cons];omega,by rw [rowL,if_neg (by omega)];exact r16⟩)
  exact .cons (by first|exact aP rfl (by omega)|rfl) .nil
 rintro _ _ ⟨m,a,c,Na,rfl,rfl,hm,ra⟩
 refine s_9 (At.seq fun _ s_11=>At.region (aE (aD rfl) rfl rfl (aA (aB (s_11 (At.seq fun _ s_12=>At.seq fun _ s_13=>At.region (aE (aD rfl) rfl rfl (aA (aB (s_13 (At.block ?_)))))))))))
 have sQ:=ra.rsl
 have hcq:=sQ.cap63
 refine At.empty (At.loop (fun fr_ hp_ ms_=> ∃(i k:Nat) (b:Option Addr) (d:Nat) (Nb:Heaplet),fr_= [(7,.slice a m c),(8,.slice b k d),(9,.int .i64 (i:Int))]∧hp_= [Nb,Na,R]∧m- i=ms_∧(i≤m)∧(i=2*k)∧(Row Nb 5 1 b k d (u8s (packN ((rowL leaf l).take i))))) ?_ (.refl _) ⟨0,0,none,0,nilH,rfl,rfl,rfl,Nat.zero_le _,rfl,Row.nil _ _ _⟩ ?_)
 ·exact .cons (by first|exact aP rfl (by omega)|rfl) (.cons (by first|exact aP rfl (by omega)|rfl) (.cons (by first|exact aP rfl (by omega)|rfl) .nil))
 rintro _ _ _ ⟨i,k,b,d,Nb,rfl,rfl,rfl,hi,hik,rb⟩
 refine At.seq fun _ s_14=>At.seq fun _ s_15=>At.region (aC (aD rfl) rfl rfl (aC (aD rfl) rfl rfl (aU (aD rfl) se23 rfl rfl (op_lss (aD rfl) rfl rfl rfl (aA (aB (s_15 (aK rfl (fun c29=>?_) (fun c29=>?_)))))))))
 ·have e1:=nib_getD hQ i
  have e2:=nib_getD hQ (i+1)
  refine At.skip (aB (s_14 (At.seq fun _ s_16=>At.block (At.drawnS [Na,R] [12,13] [0] [0,1,2,3,4,5,6,7,8,9,10,11,12,13,14] (by kernel_rfl) (by kernel_rfl) (.cons _ (.refl _)) (aC (aX rfl rfl rfl) rfl rfl (aC (aX rfl rfl rfl) rfl rfl (aC (aX rfl rfl rfl) rfl rfl (bI (aX rfl rfl rfl) se23 rfl rfl sQ (show _=(((i:Nat)):Int)from by omega) (by omega) rfl ?_))))))))
  refine aT (aX rfl rfl rfl) sc5 rfl sQ (by first|exact get8 (by omega)|exact bT (by omega)|exact bU (by omega)) (by first|exact aL|exact aZ|exact bB|exact bF|exact bG|exact bH|exact bL|exact bK|exact bJ|exact bM) rfl ?_
  refine op_shlW (aX rfl rfl rfl) rfl rfl (by omega) rfl ?_
  rw [shlN4 _ e1]
  refine aC (aX rfl rfl rfl) rfl rfl (aC (aX rfl rfl rfl) rfl rfl (aV (aX rfl rfl rfl) rfl rfl (by omega) (by omega) rfl (bI (aX rfl rfl rfl) se23 rfl rfl sQ (show _=(((i+1:Nat)):Int)from by omega) (by omega) rfl ?_)))
  refine aT (aX rfl rfl rfl) sc5 rfl sQ (by first|exact get8 (by omega)|exact bT (by omega)|exact bU (by omega)) (by first|exact aL|exact aZ|exact bB|exact bF|exact bG|exact bH|exact bL|exact bK|exact bJ|exact bM) rfl ?_
  refine op_bits (by simp) (aX rfl rfl rfl) rfl rfl rfl ?_
  rw [orN _ _ e1 e2]
  refine op_lit (Nx.agree (nxss rfl rfl rfl rfl)) Tryz.underlying23 ze5 sz5 (.cons rfl .nil) rfl rfl (by simp [Value.cells]) rfl rfl rfl (fun N44 a44 r44=>?_)
  simp only [flatV,List.flatMap_cons,List.flatMap_nil,Value.cells,List.append_nil,List.cons_append,List.nil_append]at r44
  have s44:=r44.rsl
  refine At.anyS (.refl _) ?_
  rw [vb1 (a:=16*(rowL leaf l).getD i 0+(rowL leaf l).getD (i+1) 0) (by rw [nib_two e1 e2])]at s44
  refine bE (nxss rfl rfl rfl rfl) Tryz.underlying23 Tryz.underlying23 te5 rfl rfl rb s44 (by first|exact aL|exact aZ|exact bB|exact bF|exact bG|exact bH|exact bL|exact bK|exact bJ|exact bM) (by first|exact one_u8s _|exact one_u64s _|exact one_u32s _|(intro u hu;simp at hu;subst hu;rfl)) (by omega) (by omega) sel1 rfl (fun N45 a45 p45 r45=>?_)
  have s45:=r45.rsl
  refine At.anyS (.refl _) ?_
  rw [←u8s_app, ←pack_take (by omega) (by omega)]at r45
  refine aE (aX rfl rfl rfl) rfl rfl (At.sNil (aR (aB (s_16 (At.region (aC (aD rfl) rfl rfl (aV (aD rfl) rfl rfl (by omega) (by omega) rfl (aE (aD rfl) rfl rfl (aA (aB (At.sub (L':= [N45,Na,R]) (.cons_cons _ (.cons _ (.cons_cons _ (.cons_cons _ (.slnil))))) (bD ?_ (.refl _) ⟨i+2,k+1,a45,p45,N45,rfl,rfl,rfl,by omega,by omega,r45⟩ ?_))))))))))))
  ·exact .cons (by first|exact aP rfl (by omega)|rfl) (.cons (by first|exact aP rfl (by omega)|rfl) (.cons (by first|exact aP rfl (by omega)|rfl) .nil))
  ·omega
 refine At.exit (aG (aG (bC (aB (s_12 (At.seq fun _ s_17=>At.region (aC (aD rfl) rfl rfl (aE (aD rfl) rfl rfl (aE (aD rfl) rfl rfl (aA (aB (s_17 (At.ret ((At.sub (L':= [Nb,R]) (.cons_cons _ (.cons _ (.cons_cons _ (.slnil)))) (bP (L1:= [Nb]) rfl (.tmp rfl (.tmp rfl .nil)) rfl (.refl _) (.refl _) ?_))))))))))))))))
 have e:i=m:=by omega
 rw [List.take_of_length_le (by omega),rowL_pack]at rb
 have ek:k=(cpt l leaf).length:=by rw [cpt_len];omega
 rw [ek]at rb⊢
 exact .inl ⟨hN,Nb,b,d,rfl,rfl,rb⟩
end
end Go.Proofs.YtdpjbefeabokgaaGreat
