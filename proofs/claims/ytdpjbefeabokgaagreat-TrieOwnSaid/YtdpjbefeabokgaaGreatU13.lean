/- Several texts in one: see the remarks ahead of each part. No condition but those told there. -/
import Derived.Test.YtdpjbefeabokgaaGreatU12
import Derived.Test.YtdpjbefeabokgaaGreatU9
import Derived.Test.YtdpjbefeabokgaaGreatU7
import Derived.Test.YtdpjbefeabokgaaGreatU10
set_option linter.unusedSimpArgs false
set_option linter.unusedVariables false
/- Layer 12, the reference: how many nibbles all rows share; a row of nibbles as bytes. No condition but that bytes are not longer than a machine holds. -/
namespace Go.Proofs.YtdpjbefeabokgaaGreat
open Go Go.RowKit
set_option maxRecDepth 100000
theorem min_stop {a b:List UInt8} {m k:Nat} (h1:k≤m) (h2:k≤lcp a b) (h: ¬(k<m∧k<a.length∧k<b.length∧a.getD k 0=b.getD k 0)):min m (lcp b a)=k:=by
 rw [lcp_comm b a]
 rcases Nat.lt_or_ge k m with q|q
 ·rw [lcp_stop h2 fun⟨x,y,z⟩=>h ⟨q,x,y,z⟩];omega
 ·omega
section
variable {N : Heaplet} {ao : Option Addr} {n cap : Nat} {xs : List PV}
set_option maxHeartbeats 2000000 in
theorem rShared {p:PR} {t:List PR} (h:RSl N 2 ao n cap (cellsP xs)) (hP:PsN N (p::t) xs) (hn:n≤1099511627776) (h40:p.1.length≤1099511627776):Fn Tryz.prog 47 #[.slice ao n cap] [] [N] (fun v L=>v=.int .i64 ((shar (p::t):Nat):Int)∧L= []):=by
 have hxn:xs.length=n:=by have:=h.1;rw [cellsP_len]at this;omega
 have hln:=hP.len
 rw [List.length_cons]at hln
 have hcap:=h.cap63
 refine Fn.enter (vs:= [.slice ao n cap]) Tryz.func47 rfl rfl rfl ?_
 intro E R hR
 have hNR:=hR N (by simp)
 have h:=h.le hNR
 have hPR:=hP.le hNR
 obtain⟨p',x,hp',hx,hpx⟩:=hPR.at (i:=0) (by simp)
 obtain rfl:p=p':=by simpa using hp'
 have s3:=hpx.row
 have hr3:=hpx.row.cap63
 have hl3:=hpx.rn
 have hsm:ao.isSome=true:=h.isSome (by omega)
 change At _ _ E [R] _
 refine At.seq fun _ s_1=>At.region (aE (aD rfl) rfl rfl (aA (aB (s_1 (At.seq fun _ s_2=>At.region (aC (aD rfl) rfl rfl (op_idxE (aD rfl) se85 rfl rfl h (show _=(((0:Nat)):Int)from by omega) (by omega) rfl ?_)))))))
 refine bQ (aD rfl) fl92_0 rfl (by first|rfl|assumption) rfl ?_
 refine aT (aD rfl) sc23 rfl h (by first|exact get8 (by omega)|exact bT (by omega)|exact bU (by omega)|exact cellsP_row hx) (by first|exact aL|exact aZ|exact bB|exact bF|exact bG|exact bH|exact bL|exact bK|exact bJ|exact bM) rfl ?_
 refine aU (aD rfl) se23 rfl rfl (aE (aD rfl) rfl rfl (aA (aB (s_2 (At.seq fun _ s_3=>At.seq fun _ s_4=>At.region (aE (aD rfl) rfl rfl (aA (aB (s_4 (At.block (At.loop (fun fr_ hp_ ms_=> ∃(i m:Nat),fr_= [(0,.slice ao n cap),(3,.int .i64 (m:Int)),(4,.int .i64 (i:Int))]∧hp_= [R]∧n- i=ms_∧(1≤i)∧(i≤n)∧(m=(t.take (i- 1)).foldl (fun n q=>min n (lcp p.1 q.1)) p.1.length)∧(m≤p.1.length)) ?_ (.refl _) ⟨1,x.rn,rfl,rfl,rfl,Nat.le_refl _,by omega,by simpa using hl3,by omega⟩ ?_)))))))))))
 ·exact .cons (by first|exact aP rfl (by omega)|rfl) (.cons (by first|exact aP rfl (by omega)|rfl) (.cons (by first|exact aP rfl (by omega)|rfl) .nil))
 rintro _ _ _ ⟨i,m,rfl,rfl,rfl,hi1,hi,hm,hm2⟩
 refine At.seq fun _ s_5=>At.seq fun _ s_6=>At.region (aC (aD rfl) rfl rfl (aC (aD rfl) rfl rfl (aU (aD rfl) se85 rfl rfl (op_lss (aD rfl) rfl rfl rfl (aA (aB (s_6 (aK rfl (fun c14=>?_) (fun c14=>?_)))))))))
 ·obtain⟨q,y,hq,hy,hqy⟩:=hPR.at (i:=i) (by rw [List.length_cons];omega)
  have hqt:t[i- 1]? =some q:=by rw [show i=(i- 1)+1 by omega]at hq;simpa using hq
  have s4:=hqy.row
  have hr4:=hqy.row.cap63
  have hl4:=hqy.rn
  refine At.skip (aB (s_5 (At.seq fun _ s_7=>At.block (At.seq fun _ s_8=>At.region (aE (aD rfl) rfl rfl (aA (aB (s_8 (At.seq fun _ s_9=>At.meet (fun fr_ hp_=> ∃(k:Nat),fr_= [(0,.slice ao n cap),(4,.int .i64 (i:Int)),(5,.int .i64 (k:Int))]∧hp_= [R]∧(k=min m (lcp p.1 q.1))∧(k≤m)) ?_ (fun K9_ jk_9=>?_))))))))))
  rotate_left
  ·skip
   refine At.block (At.loop (fun fr_ hp_ ms_=> ∃(k:Nat),fr_= [(0,.slice ao n cap),(3,.int .i64 (m:Int)),(4,.int .i64 (i:Int)),(5,.int .i64 (k:Int))]∧hp_= [R]∧m- k=ms_∧(k≤m)∧(k≤lcp q.1 p.1)) ?_ (.refl _) ⟨0,rfl,rfl,rfl,Nat.zero_le _,Nat.zero_le _⟩ ?_)
   ·exact .cons (by first|exact aP rfl (by omega)|rfl) (.cons (by first|exact aP rfl (by omega)|rfl) (.cons (by first|exact aP rfl (by omega)|rfl) (.cons (by first|exact aP rfl (by omega)|rfl) .nil)))
   rintro _ _ _ ⟨k,rfl,rfl,rfl,hk1,hk2⟩
   refine At.seq fun _ s_10=>At.seq fun _ s_11=>At.drawn [] [0,1,2,3,4,5,6,7,8,9,10,11,12,13,14,15,16,17,18,19,20,21,22,23,24,25,26,27,28,29,30] (by kernel_rfl) (by kernel_rfl) (aC (aN rfl rfl rfl (by kernel_rfl)) rfl rfl (aC (aN rfl rfl rfl (by kernel_rfl)) rfl rfl (op_lss (aN rfl rfl rfl (by kernel_rfl)) rfl rfl rfl (aC (aN rfl rfl rfl (by kernel_rfl)) rfl rfl (At.partP (d:=20) rfl (fun g20=>?_) (fun g20=>?_))))))
   ·refine aC (nxogf rfl rfl rfl rfl rfl rfl (by kernel_rfl)) rfl rfl (aC (nxogf rfl rfl rfl rfl rfl rfl (by kernel_rfl)) rfl rfl (aC (nxogf rfl rfl rfl rfl rfl rfl (by kernel_rfl)) rfl rfl (op_idxE (nxogf rfl rfl rfl rfl rfl rfl (by kernel_rfl)) se85 rfl rfl h (show _=(((i:Nat)):Int)from by omega) (by omega) rfl ?_)))
    refine bQ (nxogf rfl rfl rfl rfl rfl rfl (by kernel_rfl)) fl92_0 rfl (by first|rfl|assumption) rfl ?_
    refine aT (nxogf rfl rfl rfl rfl rfl rfl (by kernel_rfl)) sc23 rfl h (by first|exact get8 (by omega)|exact bT (by omega)|exact bU (by omega)|exact cellsP_row hy) (by first|exact aL|exact aZ|exact bB|exact bF|exact bG|exact bH|exact bL|exact bK|exact bJ|exact bM) rfl ?_
    refine aU (nxogf rfl rfl rfl rfl rfl rfl (by kernel_rfl)) se23 rfl rfl (op_lss (nxogf rfl rfl rfl rfl rfl rfl (by kernel_rfl)) rfl rfl rfl (bS (aN rfl rfl rfl (by kernel_rfl)) rfl rfl rfl (aC (aN rfl rfl rfl (by kernel_rfl)) rfl rfl (At.partP (d:=30) rfl (fun g30=>?_) (fun g30=>?_)))))
    ·refine aC (nxogf rfl rfl rfl rfl rfl rfl (by kernel_rfl)) rfl rfl (aC (nxogf rfl rfl rfl rfl rfl rfl (by kernel_rfl)) rfl rfl (op_idxE (nxogf rfl rfl rfl rfl rfl rfl (by kernel_rfl)) se85 rfl rfl h (show _=(((i:Nat)):Int)from by omega) (by omega) rfl ?_))
     refine bQ (nxogf rfl rfl rfl rfl rfl rfl (by kernel_rfl)) fl92_0 rfl (by first|rfl|assumption) rfl ?_
     refine aT (nxogf rfl rfl rfl rfl rfl rfl (by kernel_rfl)) sc23 rfl h (by first|exact get8 (by omega)|exact bT (by omega)|exact bU (by omega)|exact cellsP_row hy) (by first|exact aL|exact aZ|exact bB|exact bF|exact bG|exact bH|exact bL|exact bK|exact bJ|exact bM) rfl ?_
     refine aC (nxogf rfl rfl rfl rfl rfl rfl (by kernel_rfl)) rfl rfl (bI (nxogf rfl rfl rfl rfl rfl rfl (by kernel_rfl)) se23 rfl rfl s4 (show _=(((k:Nat)):Int)from by omega) (by omega) rfl ?_)
     refine aT (nxogf rfl rfl rfl rfl rfl rfl (by kernel_rfl)) sc5 rfl s4 (by first|exact get8 (by omega)|exact bT (by omega)|exact bU (by omega)) (by first|exact aL|exact aZ|exact bB|exact bF|exact bG|exact bH|exact bL|exact bK|exact bJ|exact bM) rfl ?_
     refine aC (nxogf rfl rfl rfl rfl rfl rfl (by kernel_rfl)) rfl rfl (op_idxE (nxogf rfl rfl rfl rfl rfl rfl (by kernel_rfl)) se85 rfl rfl h (show _=(((0:Nat)):Int)from by omega) (by omega) rfl ?_)
     refine bQ (nxogf rfl rfl rfl rfl rfl rfl (by kernel_rfl)) fl92_0 rfl (by first|rfl|assumption) rfl ?_
     refine aT (nxogf rfl rfl rfl rfl rfl rfl (by kernel_rfl)) sc23 rfl h (by first|exact get8 (by omega)|exact bT (by omega)|exact bU (by omega)|exact cellsP_row hx) (by first|exact aL|exact aZ|exact bB|exact bF|exact bG|exact bH|exact bL|exact bK|exact bJ|exact bM) rfl ?_
     refine aC (nxogf rfl rfl rfl rfl rfl rfl (by kernel_rfl)) rfl rfl (bI (nxogf rfl rfl rfl rfl rfl rfl (by kernel_rfl)) se23 rfl rfl s3 (show _=(((k:Nat)):Int)from by omega) (by omega) rfl ?_)
     refine aT (nxogf rfl rfl rfl rfl rfl rfl (by kernel_rfl)) sc5 rfl s3 (by first|exact get8 (by omega)|exact bT (by omega)|exact bU (by omega)) (by first|exact aL|exact aZ|exact bB|exact bF|exact bG|exact bH|exact bL|exact bK|exact bJ|exact bM) rfl ?_
     refine op_eql (nxogf rfl rfl rfl rfl rfl rfl (by kernel_rfl)) rfl rfl rfl (bS (aN rfl rfl rfl (by kernel_rfl)) rfl rfl rfl (At.oneNil (aB (s_11 (aK rfl (fun c47=>?_) (fun c47=>?_))))))
     ·refine At.skip (aB (s_10 (At.block (At.region (aC (aD rfl) rfl rfl (aV (aD rfl) rfl rfl (by omega) (by omega) rfl (aE (aD rfl) rfl rfl (aA (aR (aB (bD ?_ (.refl _) ⟨k+1,rfl,rfl,rfl,by omega,lcp_go hk2 (by omega) (by omega) c47⟩ ?_)))))))))))
      ·exact .cons (by first|exact aP rfl (by omega)|rfl) (.cons (by first|exact aP rfl (by omega)|rfl) (.cons (by first|exact aP rfl (by omega)|rfl) (.cons (by first|exact aP rfl (by omega)|rfl) .nil)))
      ·omega
     refine At.exit (aG (aG (bC (aB (jk_9 ?_ (.refl _) ⟨k,rfl,rfl,(min_stop hk1 hk2 fun z=>c47 (by rw [z.2.2.2])).symm,hk1⟩)))))
     exact .cons (by first|exact aP rfl (by omega)|rfl) (.cons (by first|exact aP rfl (by omega)|rfl) (.cons (by first|exact aP rfl (by omega)|rfl) .nil))
    refine bN rfl rfl rfl rfl rfl rfl rfl rfl (bN rfl rfl rfl rfl rfl rfl rfl rfl (bN rfl rfl rfl rfl rfl rfl rfl rfl (bN rfl rfl rfl rfl rfl rfl rfl rfl (bN rfl rfl rfl rfl rfl rfl rfl rfl (bN rfl rfl rfl rfl rfl rfl rfl rfl (bN rfl rfl rfl rfl rfl rfl rfl rfl (bN rfl rfl rfl rfl rfl rfl rfl rfl (bN rfl rfl rfl rfl rfl rfl rfl rfl (bN rfl rfl rfl rfl rfl rfl rfl rfl (bN rfl rfl rfl rfl rfl rfl rfl rfl (bN rfl rfl rfl rfl rfl rfl rfl rfl (bN rfl rfl rfl rfl rfl rfl rfl rfl (bN rfl rfl rfl rfl rfl rfl rfl rfl (bN rfl rfl rfl rfl rfl rfl rfl rfl (bN rfl rfl rfl rfl rfl rfl rfl rfl (bR (aN rfl rfl rfl (by kernel_rfl)) rfl rfl rfl (At.oneNil (aB (s_11 (At.condF rfl (At.exit (aG (aG (bC ?_))))))))))))))))))))))))
    refine aB (jk_9 ?_ (.refl _) ⟨k,rfl,rfl,(min_stop hk1 hk2 fun z=>g30 (by have:=z.2.1;omega)).symm,hk1⟩)
    exact .cons (by first|exact aP rfl (by omega)|rfl) (.cons (by first|exact aP rfl (by omega)|rfl) (.cons (by first|exact aP rfl (by omega)|rfl) .nil))
   refine bN rfl rfl rfl rfl rfl rfl rfl rfl (bN rfl rfl rfl rfl rfl rfl rfl rfl (bN rfl rfl rfl rfl rfl rfl rfl rfl (bN rfl rfl rfl rfl rfl rfl rfl rfl (bN rfl rfl rfl rfl rfl rfl rfl rfl (bN rfl rfl rfl rfl rfl rfl rfl rfl (bN rfl rfl rfl rfl rfl rfl rfl rfl (bN rfl rfl rfl rfl rfl rfl rfl rfl (bR (aN rfl rfl rfl (by kernel_rfl)) rfl rfl rfl (aC (aN rfl rfl rfl (by kernel_rfl)) rfl rfl (bN rfl rfl rfl rfl rfl rfl rfl rfl (bN rfl rfl rfl rfl rfl rfl rfl rfl (bN rfl rfl rfl rfl rfl rfl rfl rfl (bN rfl rfl rfl rfl rfl rfl rfl rfl (bN rfl rfl rfl rfl rfl rfl rfl rfl (bN rfl rfl rfl rfl rfl rfl rfl rfl (bN rfl rfl rfl rfl rfl rfl rfl rfl (bN rfl rfl rfl rfl rfl rfl rfl rfl (bN rfl rfl rfl rfl rfl rfl rfl rfl (bN rfl rfl rfl rfl rfl rfl rfl rfl (bN rfl rfl rfl rfl rfl rfl rfl rfl ?_))))))))))))))))))))
   refine bN rfl rfl rfl rfl rfl rfl rfl rfl (bN rfl rfl rfl rfl rfl rfl rfl rfl (bN rfl rfl rfl rfl rfl rfl rfl rfl (bN rfl rfl rfl rfl rfl rfl rfl rfl (bN rfl rfl rfl rfl rfl rfl rfl rfl (bR (aN rfl rfl rfl (by kernel_rfl)) rfl rfl rfl (At.oneNil (aB (s_11 (At.condF rfl (At.exit (aG (aG (bC ?_)))))))))))))
   refine aB (jk_9 ?_ (.refl _) ⟨k,rfl,rfl,(min_stop hk1 hk2 fun z=>g20 (by have:=z.1;omega)).symm,hk1⟩)
   exact .cons (by first|exact aP rfl (by omega)|rfl) (.cons (by first|exact aP rfl (by omega)|rfl) (.cons (by first|exact aP rfl (by omega)|rfl) .nil))
  rintro _ _ ⟨k,rfl,rfl,hk,hk3⟩
  refine s_9 (At.region (aC (aD rfl) rfl rfl (aE (aD rfl) rfl rfl (aA (aR (aB (s_7 (At.region (aC (aD rfl) rfl rfl (aV (aD rfl) rfl rfl (by omega) (by omega) rfl (aE (aD rfl) rfl rfl (aA (aB ?_)))))))))))))
  refine bD ?_ (.refl _) ⟨i+1,k,rfl,rfl,rfl,by omega,by omega,by rw [show i+1- 1=(i- 1)+1 by omega,take_next1 hqt,List.foldl_append, ←hm];exact hk,by omega⟩ ?_
  ·exact .cons (by first|exact aP rfl (by omega)|rfl) (.cons (by first|exact aP rfl (by omega)|rfl) (.cons (by first|exact aP rfl (by omega)|rfl) .nil))
  ·omega
 refine At.exit (aG (aG (bC (aB (s_3 (At.seq fun _ s_12=>At.region (aC (aD rfl) rfl rfl (aE (aD rfl) rfl rfl (aA (aB (s_12 (At.ret ((aW (L1:= []) rfl (.tmp rfl .nil) (.refl _) (.refl _) ?_))))))))))))))
 rw [List.take_of_length_le (by omega)]at hm
 exact⟨by rw [hm];rfl,rfl⟩
end
theorem mulN: ∀a:Nat,a<16→IntKind.u8.wrap (16*(a:Int))=((16*a:Nat):Int):=by decide+kernel
theorem addN: ∀a b:Nat,a<16→b<16→IntKind.u8.wrap (((16*a:Nat):Int)+(b:Int))=((16*a+b:Nat):Int):=by
 have: ∀a:Nat,a<16→ ∀b:Nat,b<16→IntKind.u8.wrap (((16*a:Nat):Int)+(b:Int))=((16*a+b:Nat):Int):=by decide+kernel
 exact fun a b ha hb=>this a ha b hb
/-- What is left of a row behind its first byte. -/
def restL (l:List UInt8):List UInt8:=if l.length % 2=1 then l.drop 1 else l
def headL (leaf:Bool) (l:List UInt8):UInt8:=if l.length % 2=1 then 16*(flagL leaf+1)+l.getD 0 0 else 16*flagL leaf
theorem cpt_rest (leaf:Bool) (l:List UInt8):cpt l leaf=headL leaf l::packN (restL l):=by
 unfold cpt headL restL flagL
 by_cases h:l.length % 2=1
 ·simp only [if_pos h]
  cases l with
  |nil=>simp at h
  |cons a r=>cases leaf<;>rfl
 ·simp only [if_neg h]
  cases leaf<;>simp [packN]
theorem rest_len (l:List UInt8):(restL l).length % 2=0∧(restL l).length≤l.length:=by
 unfold restL;split
 ·rw [List.length_drop];omega
 ·omega
theorem rest_nib {l:List UInt8} (h:Nib l):Nib (restL l):=by
 unfold restL;split
 ·exact h.drop 1
 ·exact h
theorem flagM (leaf:Bool):IntKind.u8.wrap (16*((flagL leaf).toNat:Int))=((16*flagL leaf).toNat:Int):=by cases leaf<;>decide
theorem flagM1 (leaf:Bool):IntKind.u8.wrap (16*((flagL leaf+1).toNat:Int))=((16*(flagL leaf+1)).toNat:Int):=by cases leaf<;>decide
theorem flagA (leaf:Bool) {b:UInt8} (h:b.toNat<16):IntKind.u8.wrap (((16*(flagL leaf+1)).toNat:Int)+(b.toNat:Int))=((16*(flagL leaf+1)+b).toNat:Int):=by
 have e:(16*(flagL leaf+1)).toNat=16*(flagL leaf+1).toNat:=by cases leaf<;>decide
 have e2:(flagL leaf+1).toNat<16:=by cases leaf<;>decide
 rw [e,addN _ _ e2 h,nib_two e2 h]
section
variable {N : Heaplet} {ao : Option Addr} {n cap : Nat} {l : List UInt8}
set_option maxHeartbeats 1000000 in
theorem rCompact (h:RSl N 1 ao n cap (u8s l)) (hn:n≤1099511627776) (leaf:Bool) (hN:Nib l):Fn Tryz.prog 72 #[.slice ao n cap,.bool leaf] [] [N] (fun v L=> ∃M a c,v=.slice a (cpt l leaf).length c∧L= [M]∧Row M 5 1 a (cpt l leaf).length c (u8s (cpt l leaf))):=by
 have hlen:=h.len8
 have hf:=flag_nat leaf
 obtain⟨q1,q2⟩:=rest_len l
 have hQ:=rest_nib hN
 have hcp:=h.cap63
 refine Fn.enter (vs:= [.slice ao n cap,.bool leaf]) Tryz.func72 rfl rfl rfl ?_
 intro E R hR
 have h:=h.le (hR N (by simp))
 change At _ _ E [R] _
 refine At.seq fun _ s_1=>At.region (aE (aD rfl) rfl rfl (aA (aB (s_1 (At.seq fun _ s_2=>At.region (aE (aD rfl) rfl rfl (aA (aB (s_2 (At.seq fun _ s_3=>At.meet (fun fr_ hp_=>fr_= [(0,.slice ao n cap),(5,.int .u8 ((flagL leaf).toNat:Int))]∧hp_= [R]∧(True)) ?_ (fun K3_ jk_3=>?_)))))))))))
 rotate_left
 ·skip
  refine At.seq fun _ s_4=>At.region (aC (aD rfl) rfl rfl (aA (aB (s_4 (At.condB rfl (fun c9=>?_) (fun c9=>?_))))))
  ·have hfl:(flagL leaf).toNat=2:=by rw [c9];rfl
   refine At.region (aE (aD rfl) rfl rfl (aA (aB (jk_3 ?_ (.refl _) ⟨rfl,rfl,trivial⟩))))
   exact .cons (by first|exact aP rfl (by omega)|rfl) (.cons (by first|exact aP rfl (by omega)|rfl) .nil)
  have hfl:(flagL leaf).toNat=0:=by rw [c9];rfl
  refine At.skip (aB (jk_3 ?_ (.refl _) ⟨rfl,rfl,trivial⟩))
  exact .cons (by first|exact aP rfl (by omega)|rfl) (.cons (by first|exact aP rfl (by omega)|rfl) .nil)
 rintro _ _ ⟨rfl,rfl,ht⟩
 refine s_3 (At.seq fun _ s_5=>At.region (aC (aD rfl) rfl rfl (aE (aD rfl) rfl rfl (aA (aB (s_5 (At.seq fun _ s_6=>At.region (aC (aD rfl) rfl rfl (op_mulW (aD rfl) rfl rfl rfl ?_)))))))))
 rw [flagM]
 refine op_lit (bA rfl) Tryz.underlying23 ze5 sz5 (.cons rfl .nil) rfl rfl (by simp [Value.cells]) rfl rfl rfl (fun N13 a13 r13=>?_)
 simp only [flatV,List.flatMap_cons,List.flatMap_nil,Value.cells,List.append_nil,List.cons_append,List.nil_append]at r13
 have s13:=r13.rsl
 refine aE (aD rfl) rfl rfl (aA (aB (s_6 (At.seq fun _ s_7=>At.meet (fun fr_ hp_=> ∃(m:Nat) (a b:Option Addr) (k d c:Nat) (Na:Heaplet),fr_= [(6,.slice b m d),(7,.slice a k c)]∧hp_= [Na,R]∧(m=(restL l).length)∧(k=1)∧(RSl R 1 b m d (u8s (restL l)))∧(Row Na 5 1 a k c (u8s [headL leaf l]))) ?_ (fun K7_ jk_7=>?_)))))
 rotate_left
 ·skip
  refine At.seq fun _ s_8=>At.region (aC (aD rfl) rfl rfl (aU (aD rfl) se23 rfl rfl (op_rem (aD rfl) rfl rfl (by omega) (by omega) rfl (op_eql (aD rfl) rfl rfl rfl (aA (aB (s_8 (aK rfl (fun c17=>?_) (fun c17=>?_)))))))))
  ·refine At.seq fun _ s_9=>At.region (aC (aD rfl) rfl rfl (aC (aD rfl) rfl rfl (op_addW (aD rfl) rfl rfl rfl ?_)))
   rw [flagW]
   refine op_mulW (aD rfl) rfl rfl rfl ?_
   rw [flagM1]
   refine aC (aD rfl) rfl rfl (bI (aD rfl) se23 rfl rfl h (show _=(((0:Nat)):Int)from by omega) (by omega) rfl ?_)
   refine aT (aD rfl) sc5 rfl h (by first|exact get8 (by omega)|exact bT (by omega)|exact bU (by omega)) (by first|exact aL|exact aZ|exact bB|exact bF|exact bG|exact bH|exact bL|exact bK|exact bJ|exact bM) rfl ?_
   refine op_addW (aD rfl) rfl rfl rfl ?_
   rw [flagA leaf (nib_getD hN 0)]
   refine bI (aD rfl) se23 rfl rfl s13 (show _=(((0:Nat)):Int)from by omega) (by omega) rfl ?_
   refine op_storeE (nxl rfl) sz5 rfl rfl rfl rfl rfl r13 (by simp<;>omega) (by simp) sel0 (fun N13 r13=>?_)
   simp only [setL,List.set]at r13
   have s13:=r13.rsl
   refine aA (aB (s_9 (At.region (aC (aD rfl) rfl rfl (op_slice (aD rfl) se23 rfl (.some rfl (show _=(((1:Nat)):Int)from by omega)) .none .none (by omega) (by omega) (by omega) (by simp) rfl ?_)))))
   refine aE (aD rfl) rfl rfl (aA ?_)
   refine aB (jk_7 ?_ (.refl _) ⟨n- 1,a13,sadr ao 1 cap 1,1,cap- 1,1,N13,rfl,rfl,by rw [restL,if_pos (by omega),List.length_drop];omega,rfl,by rw [restL,if_pos (by omega)];exact h.drop8 (by omega),by rw [headL,if_pos (by omega)];exact r13⟩)
   exact .cons (by first|exact aP rfl (by omega)|rfl) (.cons (by first|exact aP rfl (by omega)|rfl) .nil)
  refine At.skip ?_
  refine aB (jk_7 ?_ (.refl _) ⟨n,a13,ao,1,cap,1,N13,rfl,rfl,by rw [restL,if_neg (by omega)];exact hlen.symm,rfl,by rw [restL,if_neg (by omega)];exact h,by rw [headL,if_neg (by omega)];exact r13⟩)
  exact .cons (by first|exact aP rfl (by omega)|rfl) (.cons (by first|exact aP rfl (by omega)|rfl) .nil)
 rintro _ _ ⟨m,a,b,k,d,c,Na,rfl,rfl,hm,hk1,sQ,ra⟩
 refine s_7 (At.seq fun _ s_10=>At.seq fun _ s_11=>At.region (aE (aD rfl) rfl rfl (aA (aB (s_11 (At.block ?_))))))
 have hcq:=sQ.cap63
 refine At.loop (fun fr_ hp_ ms_=> ∃(i k:Nat) (a:Option Addr) (c:Nat) (Na:Heaplet),fr_= [(6,.slice b m d),(7,.slice a k c),(8,.int .i64 (i:Int))]∧hp_= [Na,R]∧m- i=ms_∧(i≤m)∧(i+2=2*k)∧(Row Na 5 1 a k c (u8s (headL leaf l::packN ((restL l).take i))))) ?_ (.refl _) ⟨0,k,a,c,Na,rfl,rfl,rfl,Nat.zero_le _,by omega,ra⟩ ?_
 ·exact .cons (by first|exact aP rfl (by omega)|rfl) (.cons (by first|exact aP rfl (by omega)|rfl) (.cons (by first|exact aP rfl (by omega)|rfl) .nil))
 rintro _ _ _ ⟨i,k,a,c,Na,rfl,rfl,rfl,hi,hik,ra⟩
 refine At.seq fun _ s_12=>At.seq fun _ s_13=>At.region (aC (aD rfl) rfl rfl (aC (aD rfl) rfl rfl (aU (aD rfl) se23 rfl rfl (op_lss (aD rfl) rfl rfl rfl (aA (aB (s_13 (aK rfl (fun c32=>?_) (fun c32=>?_)))))))))
 ·have e1:=nib_getD hQ i
  have e2:=nib_getD hQ (i+1)
  refine At.skip (aB (s_12 (At.seq fun _ s_14=>At.block (At.drawnS [R] [12,13] [0] [0,1,2,3,4,5,6,7,8,9,10,11,12,13,14] (by kernel_rfl) (by kernel_rfl) (.cons _ (.refl _)) (aC (aX rfl rfl rfl) rfl rfl (aC (aX rfl rfl rfl) rfl rfl (aC (aX rfl rfl rfl) rfl rfl (bI (aX rfl rfl rfl) se23 rfl rfl sQ (show _=(((i:Nat)):Int)from by omega) (by omega) rfl ?_))))))))
  refine aT (aX rfl rfl rfl) sc5 rfl sQ (by first|exact get8 (by omega)|exact bT (by omega)|exact bU (by omega)) (by first|exact aL|exact aZ|exact bB|exact bF|exact bG|exact bH|exact bL|exact bK|exact bJ|exact bM) rfl ?_
  refine op_mulW (aX rfl rfl rfl) rfl rfl rfl ?_
  rw [mulN _ e1]
  refine aC (aX rfl rfl rfl) rfl rfl (aC (aX rfl rfl rfl) rfl rfl (aV (aX rfl rfl rfl) rfl rfl (by omega) (by omega) rfl (bI (aX rfl rfl rfl) se23 rfl rfl sQ (show _=(((i+1:Nat)):Int)from by omega) (by omega) rfl ?_)))
  refine aT (aX rfl rfl rfl) sc5 rfl sQ (by first|exact get8 (by omega)|exact bT (by omega)|exact bU (by omega)) (by first|exact aL|exact aZ|exact bB|exact bF|exact bG|exact bH|exact bL|exact bK|exact bJ|exact bM) rfl ?_
  refine op_addW (aX rfl rfl rfl) rfl rfl rfl ?_
  rw [addN _ _ e1 e2]
  refine op_lit (Nx.agree (nxss rfl rfl rfl rfl)) Tryz.underlying23 ze5 sz5 (.cons rfl .nil) rfl rfl (by simp [Value.cells]) rfl rfl rfl (fun N47 a47 r47=>?_)
  simp only [flatV,List.flatMap_cons,List.flatMap_nil,Value.cells,List.append_nil,List.cons_append,List.nil_append]at r47
  have s47:=r47.rsl
  refine At.anyS (.refl _) ?_
  rw [vb1 (a:=16*(restL l).getD i 0+(restL l).getD (i+1) 0) (by rw [nib_two e1 e2])]at s47
  refine bE (nxss rfl rfl rfl rfl) Tryz.underlying23 Tryz.underlying23 te5 rfl rfl ra s47 (by first|exact aL|exact aZ|exact bB|exact bF|exact bG|exact bH|exact bL|exact bK|exact bJ|exact bM) (by first|exact one_u8s _|exact one_u64s _|exact one_u32s _|(intro u hu;simp at hu;subst hu;rfl)) (by omega) (by omega) sel1 rfl (fun N48 a48 p48 r48=>?_)
  have s48:=r48.rsl
  refine At.anyS (.refl _) ?_
  rw [←u8s_app,List.cons_append, ←pack_take (by omega) (by omega)]at r48
  refine aE (aX rfl rfl rfl) rfl rfl (At.sNil (aR (aB (s_14 (At.region (aC (aD rfl) rfl rfl (aV (aD rfl) rfl rfl (by omega) (by omega) rfl (aE (aD rfl) rfl rfl (aA (aB (At.sub (L':= [N48,R]) (.cons_cons _ (.cons _ (.cons_cons _ (.slnil)))) (bD ?_ (.refl _) ⟨i+2,k+1,a48,p48,N48,rfl,rfl,rfl,by omega,by omega,r48⟩ ?_))))))))))))
  ·exact .cons (by first|exact aP rfl (by omega)|rfl) (.cons (by first|exact aP rfl (by omega)|rfl) (.cons (by first|exact aP rfl (by omega)|rfl) .nil))
  ·omega
 refine At.exit (aG (aG (bC (aB (s_10 (At.seq fun _ s_15=>At.region (aC (aD rfl) rfl rfl (aE (aD rfl) rfl rfl (aA (aB (s_15 (At.ret ((aW (L1:= [Na]) rfl (.tmp rfl .nil) (.refl _) (.refl _) ?_))))))))))))))
 have e:i=m:=by omega
 rw [List.take_of_length_le (by omega), ←cpt_rest]at ra
 have ek:k=(cpt l leaf).length:=by have:=ra.1;simpa using this.symm
 rw [ek]at ra⊢
 exact⟨Na,a,c,rfl,rfl,ra⟩
end
end Go.Proofs.YtdpjbefeabokgaaGreat
/- Layer 12: the node of pairs, its form, its link. No condition but bounds. -/
namespace Go.Proofs.YtdpjbefeabokgaaGreat
open Go Go.RowKit
set_option maxRecDepth 100000
/-- An item that lies in memory of its own and in what is read. -/
def NodeP (Ns:List Heaplet) (t:It) (v:Value) (L:List Heaplet):Prop:= ∃M, ∃x:IV,v=.agg #[.bool x.l,.slice x.ab x.nb x.cb,.slice x.ai x.ni x.ci]∧L= [M]∧ ∀J:Heaplet,M.le J→(∀N∈Ns,N.le J)→ItN J t x
/-- Pairs where they lie, in rising order. -/
structure PsR (N:Heaplet) (f:Nat) (l:List PR) (xs:List PV) (ao:Option Addr) (n cap:Nat):Prop where
 row:RSl N 2 ao n cap (cellsP xs)
 ps:PsN N l xs
 ris:Ris l
 fit:Fit f l
 small:n≤1099511627776
theorem PsR.xn {N:Heaplet} {f:Nat} {l:List PR} {xs:List PV} {ao:Option Addr} {n cap:Nat} (h:PsR N f l xs ao n cap):xs.length=n∧l.length=n:=by
 have h1:=h.row.1
 rw [cellsP_len]at h1
 have h2:=h.ps.len
 omega
/-- The same in whatever holds these. -/
def PsL (Ns:List Heaplet) (f:Nat) (l:List PR) (xs:List PV) (ao:Option Addr) (n cap:Nat):Prop:= ∀J:Heaplet,(∀N∈Ns,N.le J)→PsR J f l xs ao n cap
def NodeF (f:Nat):Prop:= ∀(Ns:List Heaplet) (l:List PR) (xs:List PV) (ao:Option Addr) (n cap:Nat),PsL Ns f l xs ao n cap→Fn Tryz.prog 65 #[.slice ao n cap] [] Ns (NodeP Ns (nodeF f l))
def LinkF (f:Nat):Prop:= ∀(Ns:List Heaplet) (l:List PR) (xs:List PV) (ao:Option Addr) (n cap:Nat),PsL Ns f l xs ao n cap→Fn Tryz.prog 94 #[.slice ao n cap] [] Ns (NodeP Ns (linkI (nodeF f l)))
theorem Fn.liftN {P:Program} {f:FuncId} {args:Array Value} {L0 Ns:List Heaplet} {R:Heaplet} {Post:Value→List Heaplet→Prop} (h:Fn P f args L0 Ns Post) (hR: ∀N∈Ns,N.le R):Fn P f args L0 [R] Post:=fun E w F hp hr=>
 h E w F hp fun N hN=>Heaplet.le_trans (hR N hN) (hr R (by simp))
theorem Fn.liftM {P:Program} {f:FuncId} {args:Array Value} {L0 Ns:List Heaplet} {M R:Heaplet} {Post:Value→List Heaplet→Prop} (h:Fn P f args L0 (M::Ns) Post) (hR: ∀N∈Ns,N.le R):Fn P f args L0 [M,R] Post:=fun E w F hp hr=>
 h E w F hp fun N hN=>by
  rcases List.mem_cons.1 hN with rfl|hN
  ·exact hr _ (by simp)
  ·exact Heaplet.le_trans (hR N hN) (hr R (by simp))
theorem kec8 (l:List UInt8):(u8s (kec l)).length=32:=by rw [u8s,List.length_map,kec_len]
set_option maxHeartbeats 1000000 in
theorem FLink {f:Nat} (hF:NodeF f):LinkF f:=fun Ns l xs ao n cap h=>by
 have hN:=hF Ns l xs ao n cap h
 have hdp:=node_depth f l
 have hsm:(nodeF f l).form.length≤2000000∨ ∀R:Heaplet, ¬ ∀N∈Ns,N.le R:=by
  rcases Classical.em (∃R:Heaplet, ∀N∈Ns,N.le R)with ⟨R,hR⟩|k
  ·exact .inl (node_small f (h R hR).fit.sml)
  ·exact .inr fun R hR=>k ⟨R,hR⟩
 obtain⟨t,ht⟩: ∃t,nodeF f l=t:=⟨_,rfl⟩
 rw [ht]at hsm hdp hN⊢
 refine Fn.enter (vs:= [.slice ao n cap]) Tryz.func94 rfl rfl rfl ?_
 intro E R hR
 have hsm:t.form.length≤2000000:=hsm.elim id fun k=>absurd hR (k R)
 change At _ _ E [R] _
 refine At.seq fun _ s_1=>At.region (bO (bA rfl) ze68 rfl (fun N2 b2 B2=>?_))
 change Blk N2 b2 _ [.bool false,.slice none 0 0,.slice none 0 0]at B2
 refine aA (aB (s_1 (At.seq fun _ s_2=>At.region (aC (aD rfl) rfl rfl (aJ (bA rfl) (.cons rfl .nil) (hN.liftN hR) Tryz.func65 rfl rfl (by simp) rfl ?_)))))
 rintro v8 L8 ⟨M8,x,rfl,rfl,hx⟩
 change At _ _ _ [M8,N2,R] _
 refine bO (bA rfl) ze68 rfl (fun N3 b3 B3=>?_)
 change Blk N3 b3 _ [.bool false,.slice none 0 0,.slice none 0 0]at B3
 refine aO (nxl rfl) sz68 rfl rfl rfl rfl rfl B3 (by simp) sel0 (fun N3 B3=>?_)
 simp only [setL,List.set]at B3
 refine aA (aB (s_2 (At.seq fun _ s_3=>At.region (op_loadAggB (ds:= [_,_,_]) (aD rfl) ag68 rfl B3 rfl rfl aL rfl (aJ (bA rfl) (.cons rfl .nil) (Fn.overJ (Ns:= [M8,R]) fun J hJ=>Encode_ok (hx J (hJ _ (by simp)) (fun N hN=>Heaplet.le_trans (hR N hN) (hJ _ (by simp)))) (by omega) (by omega)) Tryz.func32 rfl rfl (by simp) rfl ?_)))))
 rintro v11 L11 ⟨M11,a11,c11,rfl,rfl,r11⟩
 change At _ _ _ [M11,N3,M8,N2,R] _
 refine aC (aD rfl) rfl rfl (aS (aD rfl) rfl rfl rfl (aS (aD rfl) rfl rfl rfl (aE (aD rfl) rfl rfl (aE (aD rfl) rfl rfl (aA (aB (s_3 (At.seq fun _ s_4=>At.seq fun _ s_5=>At.region (aC (aD rfl) rfl rfl (aU (aD rfl) se23 rfl rfl (op_lss (aD rfl) rfl rfl rfl (aA (aB (s_5 (aK rfl (fun c16=>?_) (fun c16=>?_))))))))))))))))
 ·refine At.seq fun _ s_6=>At.region (op_loadAggB (ds:= [_,_,_]) (aD rfl) ag68 rfl B3 rfl rfl aZ rfl (aO (nxl rfl) sz68 rfl rfl rfl rfl rfl B2 (by simp) sel3 (fun N2 B2=>?_)))
  simp only [setL,List.set]at B2
  refine aA (aB (s_6 (At.ret (aM ((At.sub (L':= [N2,M8,R]) (.cons_cons _ (.cons _ (.cons _ (.cons_cons _ (.cons_cons _ (.slnil)))))) (aW (L1:= [M8]) rfl (.cell rfl (res_agg (ds:= [_,_,_]) ag68 B2 rfl rfl aL) .nil) (.cons _ (.refl _)) (.refl _) ?_)))))))
  exact⟨M8,x,rfl,rfl,fun J h1 h2=>by rw [linkI,if_pos (by omega)];exact hx J h1 h2⟩
 refine At.skip (aB (s_4 (At.seq fun _ s_7=>At.region (aC (aD rfl) rfl rfl (aJ (bA rfl) (.cons rfl .nil) (FKeccak_f r11.rsl (by omega)) Tryz.func52 rfl rfl (by simp) rfl ?_)))))
 rintro v19 L19 ⟨rfl,rfl⟩
 change At _ _ _ [M11,N3,M8,N2,R] _
 refine bO (bA rfl) ze25 rfl (fun N6 b6 B6=>?_)
 change Blk N6 b6 _ [.int .u8 0,.int .u8 0,.int .u8 0,.int .u8 0,.int .u8 0,.int .u8 0,.int .u8 0,.int .u8 0,.int .u8 0,.int .u8 0,.int .u8 0,.int .u8 0,.int .u8 0,.int .u8 0,.int .u8 0,.int .u8 0,.int .u8 0,.int .u8 0,.int .u8 0,.int .u8 0,.int .u8 0,.int .u8 0,.int .u8 0,.int .u8 0,.int .u8 0,.int .u8 0,.int .u8 0,.int .u8 0,.int .u8 0,.int .u8 0,.int .u8 0,.int .u8 0]at B6
 refine aO (nxl rfl) sz25 rfl rfl rfl (kec8 _) (all8x2 _) B6 (by rw [kec8];exact Nat.le_refl 32) sel0 (fun N6 B6=>?_)
 rw [setL_whole (by rw [kec8];rfl)]at B6
 refine aA (aB (s_7 (At.seq fun _ s_8=>At.region (op_sliceA (aD rfl) ae25 rfl .none .none .none (by omega) (by omega) (by omega) (by simp) rfl (aJ (bA rfl) (.cons rfl .nil) (FText_t) Tryz.func91 rfl rfl (by simp) rfl ?_)))))
 rintro v21 L21 ⟨rfl,rfl⟩
 change At _ _ _ [N6,M11,N3,M8,N2,R] _
 refine aO (nxl rfl) sz68 rfl rfl rfl rfl rfl B2 (by simp) sel4 (fun N2 B2=>?_)
 simp only [setL,List.set]at B2
 refine aA (aB (s_8 (At.ret ((At.sub (L':= [N2,N6,R]) (.cons_cons _ (.cons_cons _ (.cons _ (.cons _ (.cons _ (.cons_cons _ (.slnil))))))) (aW (L1:= [N6]) rfl (.cell rfl (res_agg (ds:= [_,_,_]) ag68 B2 rfl rfl aL) .nil) (.cons _ (.refl _)) (.refl _) ?_))))))
 exact⟨N6,ivS (some ⟨b6,0+0*1,none⟩) (32- 0) (32- 0),rfl,rfl,fun J h1 _=>by rw [linkI,if_neg (by omega)];exact ItN_S ((blk8 B6 (kec_len _) (by decide)).le h1)⟩
theorem FCompact_ok {N:Heaplet} {ao:Option Addr} {n cap:Nat} {l:List UInt8} (h:RSl N 1 ao n cap (u8s l)) (hn:n≤1099511627776) (leaf:Bool) (hN:Nib l):Fn Tryz.prog 92 #[.slice ao n cap,.bool leaf] [] [N] (fun v L=> ∃M a c,v=.tuple #[.slice a (cpt l leaf).length c,.int .i64 0]∧L= [M]∧Row M 5 1 a (cpt l leaf).length c (u8s (cpt l leaf))):=
 (FCompact h hn leaf).mono fun v L hp=>by
  rcases hp with ⟨_,M,a,c,h1,h2,h3⟩|⟨h1,_⟩
  ·exact⟨M,a,c,h1,h2,h3⟩
  ·exact absurd hN h1
theorem FNode_nil (Ns:List Heaplet) (f:Nat) (xs:List PV) (ao:Option Addr) (n cap:Nat) (h:PsL Ns f [] xs ao n cap):Fn Tryz.prog 65 #[.slice ao n cap] [] Ns (NodeP Ns (itS [])):=by
 refine Fn.enter (vs:= [.slice ao n cap]) Tryz.func65 rfl rfl rfl ?_
 intro E R hR
 have h:=h R hR
 have hn:n=0:=h.xn.2.symm
 change At _ _ E [R] _
 refine At.seq fun _ s_1=>At.region (bO (bA rfl) ze68 rfl (fun N2 b2 B2=>?_))
 change Blk N2 b2 _ [.bool false,.slice none 0 0,.slice none 0 0]at B2
 refine aA (aB (s_1 (At.seq fun _ s_2=>At.seq fun _ s_3=>At.region (aC (aD rfl) rfl rfl (aU (aD rfl) se80 rfl rfl (op_eql (aD rfl) rfl rfl rfl (aA (aB (s_3 (aK rfl (fun c12=>?_) (fun c12=>?_)))))))))))
 rotate_left
 ·exact absurd (by omega) c12
 refine At.seq fun _ s_4=>At.region (aJ (bA rfl) (.cons rfl .nil) (FText_t) Tryz.func91 rfl rfl (by simp) rfl ?_)
 rintro v13 L13 ⟨rfl,rfl⟩
 change At _ _ _ [N2,R] _
 refine aO (nxl rfl) sz68 rfl rfl rfl rfl rfl B2 (by simp) sel0 (fun N2 B2=>?_)
 simp only [setL,List.set]at B2
 refine aA (aB (s_4 (At.ret (aM ((At.empty (At.perm sel2 (At.perm sel1 (At.perm sel2 (aW (L1:= [nilH]) rfl (.cell rfl (res_agg (ds:= [_,_,_]) ag68 B2 rfl rfl aL) .nil) (.cons _ (.refl _)) (.refl _) ?_))))))))))
 exact⟨nilH,ivS none 0 0,rfl,rfl,fun J _ _=>ItN_S (RSl.nil _ _)⟩
set_option maxHeartbeats 1000000 in
theorem FNode_one (Ns:List Heaplet) (f:Nat) (p:PR) (xs:List PV) (ao:Option Addr) (n cap:Nat) (h:PsL Ns f [p] xs ao n cap):Fn Tryz.prog 65 #[.slice ao n cap] [] Ns (NodeP Ns (itL [itS (cpt p.1 true),itS p.2])):=by
 refine Fn.enter (vs:= [.slice ao n cap]) Tryz.func65 rfl rfl rfl ?_
 intro E R hR
 have hP:=h
 have h:=h R hR
 have hn:n=1:=h.xn.2.symm
 obtain⟨p',x,hp',hx,hpx⟩:=h.ps.at (i:=0) (by simp)
 obtain rfl:p=p':=by simpa using hp'
 have hs:=h.row
 have hsm:ao.isSome=true:=hs.isSome (by omega)
 have hcap:=hs.cap63
 have srow:=hpx.row
 have hrn:=hpx.rn
 have hvn:=hpx.vn
 have hsml:=h.fit.sml p (by simp)
 have hval: ∀J:Heaplet,(∀N∈Ns,N.le J)→RSl J 1 x.va p.2.length x.vc (u8s p.2):=fun J hJ=>by
  have h2:=hP J hJ
  have e:=cellsP_len xs
  have:=h2.ps.each 0 p x (by simp) hx
  rw [←this.vn];exact this.val
 change At _ _ E [R] _
 refine At.seq fun _ s_1=>At.region (bO (bA rfl) ze68 rfl (fun N2 b2 B2=>?_))
 change Blk N2 b2 _ [.bool false,.slice none 0 0,.slice none 0 0]at B2
 refine aA (aB (s_1 (At.seq fun _ s_2=>At.seq fun _ s_3=>At.region (aC (aD rfl) rfl rfl (aU (aD rfl) se80 rfl rfl (op_eql (aD rfl) rfl rfl rfl (aA (aB (s_3 (aK rfl (fun c12=>?_) (fun c12=>?_)))))))))))
 ·omega
 refine At.skip (aB (s_2 (At.seq fun _ s_4=>At.seq fun _ s_5=>At.region (aC (aD rfl) rfl rfl (aU (aD rfl) se80 rfl rfl (op_eql (aD rfl) rfl rfl rfl (aA (aB (s_5 (aK rfl (fun c16=>?_) (fun c16=>?_)))))))))))
 rotate_left
 ·omega
 refine At.seq fun _ s_6=>At.region (aC (aD rfl) rfl rfl (op_idxE (aD rfl) se80 rfl rfl hs (show _=(((0:Nat)):Int)from by omega) (by omega) rfl ?_))
 refine bQ (aD rfl) fl110_0 rfl (by first|rfl|assumption) rfl ?_
 refine aT (aD rfl) sc23 rfl hs (by first|exact get8 (by omega)|exact bT (by omega)|exact bU (by omega)|exact cellsP_row hx) (by first|exact aL|exact aZ|exact bB|exact bF|exact bG|exact bH|exact bL|exact bK|exact bJ|exact bM) rfl ?_
 refine aJ (bA rfl) (.cons rfl (.cons rfl .nil)) (FCompact_ok srow (by omega) true (h.fit.nib p (by simp))) Tryz.func92 rfl rfl (by simp) rfl ?_
 rintro v22 L22 ⟨M22,a22,c22,rfl,rfl,r22⟩
 change At _ _ _ [M22,N2,R] _
 refine aC (aD rfl) rfl rfl (aS (aD rfl) rfl rfl rfl (aS (aD rfl) rfl rfl rfl (aE (aD rfl) rfl rfl (aE (aD rfl) rfl rfl (aA (aB (s_6 (At.seq fun _ s_7=>At.drawnS [R] [6,7,8,9] [2] [0,2,3,4,5,1,6,7,8,9] (by kernel_rfl) (by kernel_rfl) (.cons _ (.cons _ (.refl _))) (aC (aX rfl rfl rfl) rfl rfl (aC (aX rfl rfl rfl) rfl rfl (op_idxE (aX rfl rfl rfl) se80 rfl rfl hs (show _=(((0:Nat)):Int)from by omega) (by omega) rfl ?_)))))))))))
 refine bQ (aX rfl rfl rfl) fl110_1 rfl (by first|rfl|assumption) rfl ?_
 refine aT (aX rfl rfl rfl) sc23 rfl hs (by first|exact get8 (by omega)|exact bT (by omega)|exact bU (by omega)|exact cellsP_val hx) (by first|exact aL|exact aZ|exact bB|exact bF|exact bG|exact bH|exact bL|exact bK|exact bJ|exact bM) rfl ?_
 refine aJ (Nx.agree (nxsm rfl rfl rfl)) (.cons rfl .nil) (FText_t) Tryz.func91 rfl rfl (by simp) rfl ?_
 rintro v26 L26 ⟨rfl,rfl⟩
 change At _ _ _ [M22,N2,R] _
 refine At.moreS (Lst:= [R]) (Lst':= [R]) (.refl _) (.cons _ (.cons _ (.refl _))) (aJ (Nx.agree (nxss rfl rfl rfl rfl)) (.cons rfl .nil) (FText_t) Tryz.func91 rfl rfl (by simp) rfl ?_)
 rintro v31 L31 ⟨rfl,rfl⟩
 change At _ _ _ [M22,N2,R] _
 refine At.anyS (.refl _) (op_lit (Nx.agree (nxss rfl rfl rfl rfl)) Tryz.underlying66 ze68 sz68 (.cons rfl (.cons rfl .nil)) rfl rfl (by simp [Value.cells]) rfl rfl rfl (fun N32 a32 r32=>?_))
 simp only [flatV,List.flatMap_cons,List.flatMap_nil,Value.cells,List.append_nil,List.cons_append,List.nil_append]at r32
 have s32:=r32.rsl
 refine At.anyS (.refl _) ?_
 rw [hvn]at r32
 change Row N32 _ 3 a32 2 2 (cellsI [ivS a22 (cpt p.1 true).length c22,ivS x.va p.2.length x.vc])at r32
 have s32:=r32.rsl
 refine aJ (Nx.agree (nxss rfl rfl rfl rfl)) (.cons rfl .nil) (FList_t) Tryz.func93 rfl rfl (by simp) rfl ?_
 rintro v33 L33 ⟨rfl,rfl⟩
 change At _ _ _ [N32,M22,N2,R] _
 refine At.anyS (.refl _) (aO (nxsl rfl rfl rfl rfl) sz68 rfl rfl rfl rfl rfl B2 (by simp) sel2 (fun N2 B2=>?_))
 simp only [setL,List.set]at B2
 refine At.sNil (aB (s_7 (At.ret (aM ((At.perm sel3 (At.perm sel1 (At.perm sel3 (At.perm sel3 (At.mergeN (fun Q Q1 Q2=>At.perm sel2 (At.perm sel1 (At.perm sel2 (aW (L1:= [Q]) rfl (.cell rfl (res_agg (ds:= [_,_,_]) ag68 B2 rfl rfl aL) .nil) (.cons _ (.refl _)) (.refl _) ?_))))))))))))))
 exact⟨Q,ivL a32 2 2,rfl,rfl,fun J h1 h2=>ItN_L (s32.le (Heaplet.le_trans Q1 h1)) (ItsN_cons (ItN_S (r22.rsl.le (Heaplet.le_trans Q2 h1))) (ItsN_cons (ItN_S (hval J h2)) ItsN_nil))⟩
end Go.Proofs.YtdpjbefeabokgaaGreat
/- Layer 12: the node of pairs that share nibbles, and of those that part. No condition but bounds. -/
namespace Go.Proofs.YtdpjbefeabokgaaGreat
open Go Go.RowKit
set_option maxRecDepth 100000
theorem head_last {l:List PR} (h:2≤l.length): ∃p q,l[0]? =some p∧l[l.length- 1]? =some q∧l.head?=some p∧l.getLast?=some q:=by
 have h0:0<l.length:=by omega
 refine⟨l[0],l[l.length- 1],List.getElem?_eq_getElem h0,List.getElem?_eq_getElem (by omega),?_,?_⟩
 ·rw [List.head?_eq_getElem?,List.getElem?_eq_getElem h0]
 ·rw [List.getLast?_eq_getElem?,List.getElem?_eq_getElem (by omega)]
set_option maxHeartbeats 1000000 in
theorem FNode_ext {f:Nat} (hF:LinkF f) (Ns:List Heaplet) (l:List PR) (xs:List PV) (ao:Option Addr) (n cap:Nat) (h:PsL Ns (f+1) l xs ao n cap) (h2:2≤l.length) (hs0:0<shar l):Fn Tryz.prog 65 #[.slice ao n cap] [] Ns (NodeP Ns (nodeF (f+1) l)):=by
 obtain⟨p,q,hp,hq,hh,hl⟩:=head_last h2
 have hne:l≠ []:=fun e=>by rw [e]at h2;simp at h2
 have hpm:p∈l:=List.mem_of_getElem? hp
 rw [node_ext h2 hs0,show(l.headD ([],[]))=p from by cases l with|nil=>exact absurd rfl hne|cons x r=>simpa using hp]
 obtain⟨k,hk⟩: ∃k,shar l=k:=⟨_,rfl⟩
 rw [hk]
 refine Fn.enter (vs:= [.slice ao n cap]) Tryz.func65 rfl rfl rfl ?_
 intro E R hR
 have hP:=h
 have h:=h R hR
 have hxn:=h.xn
 obtain⟨p',x,hp',hx,hpx⟩:=h.ps.at (i:=0) (by omega)
 obtain rfl:p=p':=Option.some.inj (hp.symm.trans hp')
 have hs:=h.row
 have hsmall:=h.small
 have hsm:ao.isSome=true:=hs.isSome (by omega)
 have hcap:=hs.cap63
 have srow:=hpx.row
 have hrn:=hpx.rn
 have hrc:=srow.cap63
 have hsml:=h.fit.sml p hpm
 have hsh:lcp p.1 q.1=k:=by rw [←hk,shar_ends h.ris p q hh hl]
 have hkl: ∀y∈l,k≤y.1.length:=fun y hy=>(shar_take hy hy (Nat.le_of_eq hk.symm)).2
 have hkp:=hkl p hpm
 have hfs:=FShared hs h.ps h.small hp hq (by omega)
 rw [hsh]at hfs
 have hcut:=FCut hs hxn.1 (h.ps.rows hkl) h.small
 have hlen:(xs.map (PV.cut k)).length=n:=by rw [List.length_map,hxn.1]
 have hL: ∀(M:Heaplet) (a:Option Addr) (c:Nat),Row M 110 2 a (xs.map (PV.cut k)).length c (cellsP (xs.map (PV.cut k)))→PsL (M::Ns) f (cutR k l) (xs.map (PV.cut k)) a (xs.map (PV.cut k)).length c:=fun M a c hr J hJ=>by
  have h3:=hP J fun N hN=>hJ N (List.mem_cons_of_mem _ hN)
  exact⟨hr.rsl.le (hJ M (List.mem_cons_self ..)),h3.ps.take_cut hkl,hk▸h3.ris.cuts,h3.fit.cut (Nat.le_of_eq hk.symm) (by omega),by rw [hlen];exact hsmall⟩
 change At _ _ E [R] _
 refine At.seq fun _ s_1=>At.region (bO (bA rfl) ze68 rfl (fun N2 b2 B2=>?_))
 change Blk N2 b2 _ [.bool false,.slice none 0 0,.slice none 0 0]at B2
 refine aA (aB (s_1 (At.seq fun _ s_2=>At.seq fun _ s_3=>At.region (aC (aD rfl) rfl rfl (aU (aD rfl) se80 rfl rfl (op_eql (aD rfl) rfl rfl rfl (aA (aB (s_3 (aK rfl (fun c12=>?_) (fun c12=>?_)))))))))))
 ·omega
 refine At.skip (aB (s_2 (At.seq fun _ s_4=>At.seq fun _ s_5=>At.region (aC (aD rfl) rfl rfl (aU (aD rfl) se80 rfl rfl (op_eql (aD rfl) rfl rfl rfl (aA (aB (s_5 (aK rfl (fun c16=>?_) (fun c16=>?_)))))))))))
 ·omega
 refine At.skip (aB (s_4 (At.seq fun _ s_6=>At.seq fun _ s_7=>At.region (aC (aD rfl) rfl rfl (aJ (bA rfl) (.cons rfl .nil) (hfs) Tryz.func66 rfl rfl (by simp) rfl ?_)))))
 rintro v35 L35 ⟨rfl,rfl⟩
 change At _ _ _ [N2,R] _
 refine aE (aD rfl) rfl rfl (aA (aB (s_7 (At.seq fun _ s_8=>At.region (aC (aD rfl) rfl rfl (op_gtr (aD rfl) rfl rfl rfl (aA (aB (s_8 (aK rfl (fun c37=>?_) (fun c37=>?_)))))))))))
 rotate_left
 ·omega
 refine At.seq fun _ s_9=>At.region (aC (aD rfl) rfl rfl (op_idxE (aD rfl) se80 rfl rfl hs (show _=(((0:Nat)):Int)from by omega) (by omega) rfl ?_))
 refine bQ (aD rfl) fl110_0 rfl (by first|rfl|assumption) rfl ?_
 refine aT (aD rfl) sc23 rfl hs (by first|exact get8 (by omega)|exact bT (by omega)|exact bU (by omega)|exact cellsP_row hx) (by first|exact aL|exact aZ|exact bB|exact bF|exact bG|exact bH|exact bL|exact bK|exact bJ|exact bM) rfl ?_
 refine aC (aD rfl) rfl rfl (op_slice0 (aD rfl) se23 rfl (.some rfl (show _=(((k:Nat)):Int)from by omega)) .none (by omega) (by omega) (by simp) rfl ?_)
 refine aJ (bA rfl) (.cons rfl (.cons rfl .nil)) (FCompact_ok (srow.take8 (hi:=k) (m:=x.rc) (by omega) (Nat.le_refl _) (by omega)) (by omega) false ((h.fit.nib p hpm).take k)) Tryz.func92 rfl rfl (by simp) rfl ?_
 rintro v45 L45 ⟨M45,a45,c45,rfl,rfl,r45⟩
 change At _ _ _ [M45,N2,R] _
 refine aC (aD rfl) rfl rfl (aS (aD rfl) rfl rfl rfl (aS (aD rfl) rfl rfl rfl (aE (aD rfl) rfl rfl (aE (aD rfl) rfl rfl (aA (aB (s_9 (At.seq fun _ s_10=>At.region (aC (aD rfl) rfl rfl (aJ (bA rfl) (.cons rfl .nil) (FText_t) Tryz.func91 rfl rfl (by simp) rfl ?_))))))))))
 rintro v49 L49 ⟨rfl,rfl⟩
 change At _ _ _ [M45,N2,R] _
 refine aC (aD rfl) rfl rfl (aC (aD rfl) rfl rfl (aJ (bA rfl) (.cons rfl (.cons rfl .nil)) (hcut) Tryz.func68 rfl rfl (by simp) rfl ?_))
 rintro v52 L52 ⟨M52,a52,c52,rfl,rfl,r52⟩
 change At _ _ _ [M52,M45,N2,R] _
 refine aJ (bA rfl) (.cons rfl .nil) ((hF _ _ _ _ _ _ (hL M52 a52 c52 r52)).liftM hR) Tryz.func94 rfl rfl (by simp) rfl ?_
 rintro v53 L53 ⟨M53,x53,rfl,rfl,hx53⟩
 change At _ _ _ [M53,M52,M45,N2,R] _
 refine op_lit (bA rfl) Tryz.underlying66 ze68 sz68 (.cons rfl (.cons rfl .nil)) rfl rfl (by simp [Value.cells]) rfl rfl rfl (fun N54 a54 r54=>?_)
 simp only [flatV,List.flatMap_cons,List.flatMap_nil,Value.cells,List.append_nil,List.cons_append,List.nil_append]at r54
 have s54:=r54.rsl
 change Row N54 _ 3 a54 2 2 (cellsI [ivS a45 (cpt (p.1.take k) false).length c45,x53])at r54
 have s54:=r54.rsl
 refine aJ (bA rfl) (.cons rfl .nil) (FList_t) Tryz.func93 rfl rfl (by simp) rfl ?_
 rintro v55 L55 ⟨rfl,rfl⟩
 change At _ _ _ [N54,M53,M52,M45,N2,R] _
 refine aO (nxl rfl) sz68 rfl rfl rfl rfl rfl B2 (by simp) sel4 (fun N2 B2=>?_)
 simp only [setL,List.set]at B2
 refine aA (aB (s_10 (At.ret (aM ((At.perm sel5 (At.perm sel4 (At.perm sel4 (At.perm sel3 (At.perm sel5 (At.perm sel5 (At.mergeN (fun Q Q1 Q2=>At.perm sel4 (At.perm sel4 (At.perm sel3 (At.perm sel4 (At.perm sel4 (At.mergeN (fun P P1 P2=>At.perm sel3 (At.perm sel2 (At.perm sel3 (At.perm sel3 (At.mergeN (fun Z Z1 Z2=>?_))))))))))))))))))))))))
 refine At.perm sel2 (At.perm sel1 (At.perm sel2 (aW (L1:= [Z]) rfl (.cell rfl (res_agg (ds:= [_,_,_]) ag68 B2 rfl rfl aL) .nil) (.cons _ (.refl _)) (.refl _) (⟨Z,ivL a54 2 2,rfl,rfl,fun J h1 h2=>ItN_L (s54.le (Heaplet.le_trans Q1 (Heaplet.le_trans P1 (Heaplet.le_trans Z1 h1)))) (ItsN_cons (ItN_S (r45.rsl.le (Heaplet.le_trans Q2 (Heaplet.le_trans P1 (Heaplet.le_trans Z1 h1))))) (ItsN_cons (hx53 J (Heaplet.le_trans P2 (Heaplet.le_trans Z1 h1)) fun N hN=>?_) ItsN_nil))⟩))))
 rcases List.mem_cons.1 hN with rfl|hN
 ·exact Heaplet.le_trans Z2 h1
 ·exact h2 N hN
theorem last_ris {p:PR} {l:List PR} (h:Ris (p::l)):lastV (p::l)=if p.1.length=0 then p.2 else []:=by
 split
 ·rename_i e
  exact lastV_of h.dis (List.mem_cons_self ..) (List.eq_nil_of_length_eq_zero e)
 ·rename_i e
  refine lastV_no fun q hq e2=>?_
  rcases List.mem_cons.1 hq with rfl|hq
  ·exact e (by rw [e2];rfl)
  ·have:=(List.pairwise_cons.1 h).1 q hq
   rw [e2]at this
   exact absurd this (List.not_lt_nil _)
def zIV:IV:=⟨false,none,0,0,none,0,0⟩
theorem made51:(madeCells (Value.agg #[.bool false,.slice none 0 0,.slice none 0 0]).cells (17*3)).toList=cellsI []++cellsI (List.replicate 17 zIV):=by kernel_rfl
theorem parts_set {ys:List IV} {i j:Nat} {x:IV} (h:ys.length=i) (hj:0<j):setL (cellsI ys++cellsI (List.replicate j zIV)) (i*3) [.bool x.l,.slice x.ab x.nb x.cb,.slice x.ai x.ni x.ci]=cellsI (ys++ [x])++cellsI (List.replicate (j- 1) zIV):=by
 obtain⟨k,rfl⟩: ∃k,j=k+1:=⟨j- 1,by omega⟩
 have e:cellsI (List.replicate (k+1) zIV)=zIV.cells++cellsI (List.replicate k zIV):=by simp [cellsI,List.replicate_succ]
 have e2:i*3=(cellsI ys).length:=by rw [length_cellsI,h]
 have e3:cellsI (ys++ [x])=cellsI ys++x.cells:=by simp [cellsI]
 rw [e,e2,e3, ←List.append_assoc,Nat.add_sub_cancel]
 exact setL_append x.cells (cellsI ys) zIV.cells _ rfl
theorem cellsI_oneT (xs:List IV): ∀u∈cellsI xs,u.oneCell'=true:=fun u hu=>by
 obtain⟨x,_,hx⟩:=List.mem_flatMap.1 hu
 simp only [IV.cells,List.mem_cons,List.not_mem_nil,or_false]at hx
 rcases hx with rfl|rfl|rfl<;>rfl
set_option maxHeartbeats 2000000 in
theorem FNode_bra {f:Nat} (hF:LinkF f) (Ns:List Heaplet) (l:List PR) (xs:List PV) (ao:Option Addr) (n cap:Nat) (h:PsL Ns (f+1) l xs ao n cap) (h2:2≤l.length) (hs0: ¬0<shar l):Fn Tryz.prog 65 #[.slice ao n cap] [] Ns (NodeP Ns (nodeF (f+1) l)):=by
 obtain⟨p,q,hp,hq,hh,hl⟩:=head_last h2
 have hne:l≠ []:=fun e=>by rw [e]at h2;simp at h2
 have hpm:p∈l:=List.mem_of_getElem? hp
 rw [node_bra h2 hs0]
 refine Fn.enter (vs:= [.slice ao n cap]) Tryz.func65 rfl rfl rfl ?_
 intro E R hR
 have hP:=h
 have h:=h R hR
 have hxn:=h.xn
 obtain⟨p',x,hp',hx,hpx⟩:=h.ps.at (i:=0) (by omega)
 obtain rfl:p=p':=Option.some.inj (hp.symm.trans hp')
 have hs:=h.row
 have hsmall:=h.small
 have hsm:ao.isSome=true:=hs.isSome (by omega)
 have hcap:=hs.cap63
 have hrn:=hpx.rn
 have hvn:=hpx.vn
 have hrc:=hpx.row.cap63
 have hvl: ∀J:Heaplet,(∀N∈Ns,N.le J)→RSl J 1 x.va p.2.length x.vc (u8s p.2):=fun J hJ=>by
  have:=(hP J hJ).ps.each 0 p x hp hx
  rw [←this.vn];exact this.val
 have hsml:=h.fit.sml p hpm
 have hlast:lastV l=if p.1.length=0 then p.2 else []:=by
  cases l with
  |nil=>exact absurd rfl hne
  |cons y r=>
   obtain rfl:y=p:=by simpa using hp
   exact last_ris h.ris
 have hfs:=FShared hs h.ps h.small hp hq (by omega)
 rw [show lcp p.1 q.1=0 from by rw [←shar_ends h.ris p q hh hl];omega]at hfs
 have hL: ∀(c:UInt8) (M:Heaplet) (ys:List PV) (a:Option Addr) (cp:Nat),Row M 110 2 a ys.length cp (cellsP ys)→PsN R (cutR 1 (undR c l)) ys→(∀J:Heaplet,(∀N∈Ns,N.le J)→PsN J (cutR 1 (undR c l)) ys)→PsL (M::Ns) f (cutR 1 (undR c l)) ys a ys.length cp:=fun c M ys a cp hr hp0 hps J hJ=>by
  have h3:=hP J fun N hN=>hJ N (List.mem_cons_of_mem _ hN)
  have hle:ys.length≤n:=by
   rw [hp0.len,cutR,List.length_map, ←hxn.2];exact List.length_filter_le _ _
  exact⟨hr.rsl.le (hJ M (List.mem_cons_self ..)),hps J fun N hN=>hJ N (List.mem_cons_of_mem _ hN),h3.ris.und c,h3.fit.und c,by omega⟩
 change At _ _ E [R] _
 refine At.seq fun _ s_1=>At.region (bO (bA rfl) ze68 rfl (fun N2 b2 B2=>?_))
 change Blk N2 b2 _ [.bool false,.slice none 0 0,.slice none 0 0]at B2
 refine aA (aB (s_1 (At.seq fun _ s_2=>At.seq fun _ s_3=>At.region (aC (aD rfl) rfl rfl (aU (aD rfl) se80 rfl rfl (op_eql (aD rfl) rfl rfl rfl (aA (aB (s_3 (aK rfl (fun c12=>?_) (fun c12=>?_)))))))))))
 ·omega
 refine At.skip (aB (s_2 (At.seq fun _ s_4=>At.seq fun _ s_5=>At.region (aC (aD rfl) rfl rfl (aU (aD rfl) se80 rfl rfl (op_eql (aD rfl) rfl rfl rfl (aA (aB (s_5 (aK rfl (fun c16=>?_) (fun c16=>?_)))))))))))
 ·omega
 refine At.skip (aB (s_4 (At.seq fun _ s_6=>At.seq fun _ s_7=>At.region (aC (aD rfl) rfl rfl (aJ (bA rfl) (.cons rfl .nil) (hfs) Tryz.func66 rfl rfl (by simp) rfl ?_)))))
 rintro v35 L35 ⟨rfl,rfl⟩
 change At _ _ _ [N2,R] _
 refine aE (aD rfl) rfl rfl (aA (aB (s_7 (At.seq fun _ s_8=>At.region (aC (aD rfl) rfl rfl (op_gtr (aD rfl) rfl rfl rfl (aA (aB (s_8 (aK rfl (fun c37=>?_) (fun c37=>?_)))))))))))
 ·omega
 refine At.skip (aB (s_6 (At.seq fun _ s_9=>At.region ?_)))
 refine op_make (bA rfl) Tryz.underlying66 te68 rfl rfl (show _=(((17:Nat)):Int)from by omega) (show _=(((17:Nat)):Int)from by omega) (by omega) (by unfold maxLen;omega) rfl (fun N56 a56 r56=>?_)
 skip
 have s56:=r56.rsl
 refine aE (aD rfl) rfl rfl (aA (aB (s_9 (At.seq fun _ s_10=>At.seq fun _ s_11=>At.region (aC (aD rfl) rfl rfl (aA (aB (s_11 (At.block ?_)))))))))
 rw [made51]at r56
 refine At.empty (At.perm sel3 (At.perm sel3 (At.perm sel2 (At.perm sel3 (At.loop (fun fr_ hp_ ms_=> ∃(i:Nat) (ys:List IV) (Na NJ:Heaplet),fr_= [(0,.slice ao n cap),(2,.pointer (some ⟨b2,0,none⟩)),(8,.slice a56 17 17),(57,.int .i64 (i:Int))]∧hp_= [Na,NJ,N2,R]∧16- i=ms_∧(i≤16)∧(ys.length=i)∧(Row Na 68 3 a56 17 17 (cellsI ys++cellsI (List.replicate (17- i) zIV)))∧(∀J:Heaplet,NJ.le J→(∀N∈Ns,N.le J)→ItsN J ((List.range i).map (fun c=>linkI (nodeF f (cutR 1 (undR (UInt8.ofNat c) l))))) ys)) ?_ (.refl _) ⟨0,[],N56,nilH,rfl,rfl,rfl,Nat.zero_le _,rfl,r56,fun J _ _=>ItsN_nil⟩ ?_)))))
 ·exact .cons (by first|exact aP rfl (by omega)|rfl) (.cons (by first|exact aP rfl (by omega)|rfl) (.cons (by first|exact aP rfl (by omega)|rfl) (.cons (by first|exact aP rfl (by omega)|rfl) .nil)))
 rintro _ _ _ ⟨i,ys,Na,NJ,rfl,rfl,rfl,hi,hyl,ra,hy⟩
 refine At.seq fun _ s_12=>At.region (op_lss (aD rfl) rfl rfl rfl (aA (aB (s_12 (At.seq fun _ s_13=>aK rfl (fun c58=>?_) (fun c58=>?_))))))
 ·have sa:=ra.rsl
  have hcl:=ra.1
  refine At.skip (aB (s_13 (At.seq fun _ s_14=>At.block (At.seq fun _ s_15=>At.region (aC (aD rfl) rfl rfl (aE (aD rfl) rfl rfl (aA (aB (s_15 (At.region (aC (aD rfl) rfl rfl (aC (aD rfl) rfl rfl (aC (aD rfl) rfl rfl (aC (aD rfl) rfl rfl (op_conv8 (aD rfl) (und_some Tryz.underlying3) Tryz.underlying5 rfl (by first|rfl|exact(Int.toNat_of_nonneg (by omega)).symm) rfl ?_)))))))))))))))
  refine aJ (bA rfl) (.cons rfl (.cons rfl .nil)) (FUnder hs h.ps hsmall (UInt8.ofNat i)) Tryz.func69 rfl rfl (by simp) rfl ?_
  rintro v65 L65 ⟨ys65,⟨M65,a65,c65,rfl,rfl,r65⟩,hp65⟩
  change At _ _ _ [M65,Na,NJ,N2,R] _
  refine aJ (bA rfl) (.cons rfl .nil) ((hF _ _ _ _ _ _ (hL (UInt8.ofNat i) M65 ys65 a65 c65 r65 (hp65 R h.ps) (fun J hJ=>hp65 J (hP J hJ).ps))).liftM hR) Tryz.func94 rfl rfl (by simp) rfl ?_
  rintro v66 L66 ⟨M66,x66,rfl,rfl,hx66⟩
  change At _ _ _ [M66,M65,Na,NJ,N2,R] _
  refine op_idxE (aD rfl) se66 rfl rfl sa (show _=(((i:Nat)):Int)from by omega) (by omega) rfl ?_
  refine op_storeE (nxl rfl) sz68 rfl rfl rfl rfl rfl ra (by rw [hcl];show i*3+3≤17*3;omega) (by simp) sel2 (fun Na ra=>?_)
  rw [parts_set hyl (by omega)]at ra
  have sa:=ra.rsl
  refine aA (aR (aB (s_14 (At.region (aV (aD rfl) rfl rfl (by omega) (by omega) rfl (aC (aD rfl) rfl rfl (aA (aB (At.perm sel5 (At.perm sel5 (At.perm sel4 (At.perm sel3 (At.perm sel4 (At.perm sel5 (At.mergeN (fun P P1 P2=>At.perm sel4 (At.perm sel4 (At.perm sel3 (At.perm sel4 (At.perm sel4 (At.mergeN (fun J J1 J2=>?_))))))))))))))))))))))
  refine At.perm sel3 (At.perm sel3 (At.perm sel2 (At.perm sel3 ?_)))
  refine bD ?_ (.refl _) ⟨i+1,ys++ [x66],Na,J,rfl,rfl,rfl,by omega,by simp [hyl],by rw [show 17- (i+1)=17- i- 1 by omega];exact ra,fun J' h1 h2=>by rw [List.range_succ,List.map_append];exact(hy J' (Heaplet.le_trans P1 (Heaplet.le_trans J1 h1)) h2).snoc (hx66 J' (Heaplet.le_trans P2 (Heaplet.le_trans J1 h1)) fun N hN=>by rcases List.mem_cons.1 hN with rfl|hN;exact Heaplet.le_trans J2 h1;exact h2 N hN)⟩ ?_
  ·exact .cons (by first|exact aP rfl (by omega)|rfl) (.cons (by first|exact aP rfl (by omega)|rfl) (.cons (by first|exact aP rfl (by omega)|rfl) (.cons (by first|exact aP rfl (by omega)|rfl) .nil)))
  ·omega
 have hi16:i=16:=by omega
 have sa:=ra.rsl
 rw [hi16]at hyl hy ra
 have hcl:=ra.1
 refine At.exit (aG (aG (bC (aB (s_10 (At.seq fun _ s_16=>At.meet (fun fr_ hp_=> ∃(z:IV) (Na:Heaplet),fr_= [(2,.pointer (some ⟨b2,0,none⟩)),(8,.slice a56 17 17)]∧hp_= [Na,NJ,N2,R]∧(Row Na 68 3 a56 17 17 (cellsI (ys++ [z])))∧(∀J:Heaplet,(∀N∈Ns,N.le J)→ItN J (itS (lastV l)) z)) ?_ (fun K16_ jk_16=>?_)))))))
 rotate_left
 ·skip
  refine At.seq fun _ s_17=>At.region (aC (aD rfl) rfl rfl (op_idxE (aD rfl) se80 rfl rfl hs (show _=(((0:Nat)):Int)from by omega) (by omega) rfl ?_))
  refine bQ (aD rfl) fl110_0 rfl (by first|rfl|assumption) rfl ?_
  refine aT (aD rfl) sc23 rfl hs (by first|exact get8 (by omega)|exact bT (by omega)|exact bU (by omega)|exact cellsP_row hx) (by first|exact aL|exact aZ|exact bB|exact bF|exact bG|exact bH|exact bL|exact bK|exact bJ|exact bM) rfl ?_
  refine aU (aD rfl) se23 rfl rfl (op_eql (aD rfl) rfl rfl rfl (aA (aB (s_17 (aK rfl (fun c74=>?_) (fun c74=>?_))))))
  ·refine At.region (aC (aD rfl) rfl rfl (aC (aD rfl) rfl rfl (op_idxE (aD rfl) se80 rfl rfl hs (show _=(((0:Nat)):Int)from by omega) (by omega) rfl ?_)))
   refine bQ (aD rfl) fl110_1 rfl (by first|rfl|assumption) rfl ?_
   refine aT (aD rfl) sc23 rfl hs (by first|exact get8 (by omega)|exact bT (by omega)|exact bU (by omega)|exact cellsP_val hx) (by first|exact aL|exact aZ|exact bB|exact bF|exact bG|exact bH|exact bL|exact bK|exact bJ|exact bM) rfl ?_
   refine aJ (bA rfl) (.cons rfl .nil) (FText_t) Tryz.func91 rfl rfl (by simp) rfl ?_
   rintro v80 L80 ⟨rfl,rfl⟩
   change At _ _ _ [Na,NJ,N2,R] _
   refine op_idxE (aD rfl) se66 rfl rfl sa (show _=(((16:Nat)):Int)from by omega) (by omega) rfl ?_
   refine op_storeE (nxl rfl) sz68 rfl rfl rfl rfl rfl ra (by rw [hcl];exact show 16*3+3≤17*3 by decide) (by simp) sel0 (fun Na ra=>?_)
   rw [parts_set (x:=⟨false,x.va,x.vn,x.vc,none,0,0⟩) hyl (by omega)]at ra
   have sa:=ra.rsl
   refine aA ?_
   refine aB (jk_16 ?_ (.refl _) ⟨⟨false,x.va,x.vn,x.vc,none,0,0⟩,Na,rfl,rfl,by simpa [cellsI]using ra,fun J hJ=>by rw [hlast,if_pos (by omega)];rw [hvn];exact ItN_S (hvl J hJ)⟩)
   exact .cons (by first|exact aP rfl (by omega)|rfl) (.cons (by first|exact aP rfl (by omega)|rfl) .nil)
  refine At.skip ?_
  refine aB (jk_16 ?_ (.refl _) ⟨zIV,Na,rfl,rfl,by simpa [cellsI]using ra,fun J hJ=>by rw [hlast,if_neg (by omega)];exact ItN_S (RSl.nil _ _)⟩)
  exact .cons (by first|exact aP rfl (by omega)|rfl) (.cons (by first|exact aP rfl (by omega)|rfl) .nil)
 rintro _ _ ⟨z,Na,rfl,rfl,ra,hz⟩
 refine s_16 (At.seq fun _ s_18=>At.region (aC (aD rfl) rfl rfl (aJ (bA rfl) (.cons rfl .nil) (FList_t) Tryz.func93 rfl rfl (by simp) rfl ?_)))
 rintro v83 L83 ⟨rfl,rfl⟩
 change At _ _ _ [Na,NJ,N2,R] _
 refine aO (nxl rfl) sz68 rfl rfl rfl rfl rfl B2 (by simp) sel2 (fun N2 B2=>?_)
 simp only [setL,List.set]at B2
 refine aA (aB (s_18 (At.ret ((At.perm sel3 (At.perm sel1 (At.perm sel3 (At.perm sel3 (At.mergeN (fun Q Q1 Q2=>At.perm sel2 (At.perm sel1 (At.perm sel2 (aW (L1:= [Q]) rfl (.cell rfl (res_agg (ds:= [_,_,_]) ag68 B2 rfl rfl aL) .nil) (.cons _ (.refl _)) (.refl _) ?_)))))))))))))
 exact⟨Q,ivL a56 17 17,rfl,rfl,fun J h1 h2=>ItN_L (ra.rsl.le (Heaplet.le_trans Q1 h1)) ((hy J (Heaplet.le_trans Q2 h1) h2).snoc (hz J h2))⟩
end Go.Proofs.YtdpjbefeabokgaaGreat
/- Layer 12, the reference: links and nodes of pairs in any order. No condition but bounds. -/
namespace Go.Proofs.YtdpjbefeabokgaaGreat
open Go Go.RowKit
set_option maxRecDepth 100000
set_option maxHeartbeats 1000000 in
theorem rLink {Ns:List Heaplet} {t:It} {x:IV} (hx: ∀J:Heaplet,(∀N∈Ns,N.le J)→ItN J t x) (hsm:t.form.length≤2000000):Fn Tryz.prog 73 #[.agg #[.bool x.l,.slice x.ab x.nb x.cb,.slice x.ai x.ni x.ci]] [] Ns (NodeP Ns (linkI t)):=by
 refine Fn.enter (vs:= [.agg #[.bool x.l,.slice x.ab x.nb x.cb,.slice x.ai x.ni x.ci]]) Tryz.func73 rfl rfl rfl ?_
 intro E R hR
 have hxR:=hx R hR
 obtain⟨kz,hkz⟩: ∃kz,kec t.form=kz:=⟨_,rfl⟩
 have hkl:kz.length=32:=by rw [←hkz,kec_len]
 have hku:(u8s kz).length=32:=by rw [u8s,List.length_map,hkl]
 change At _ _ E [R] _
 refine At.seq fun _ s_1=>At.region (op_box (bA rfl) rfl rfl rfl (fun N1 b1 B1=>bO (bA rfl) ze68 rfl (fun N2 b2 B2=>?_)))
 change Blk N2 b2 _ [.bool false,.slice none 0 0,.slice none 0 0]at B2
 refine aA (aB (s_1 (At.seq fun _ s_2=>At.region (op_loadAggB (ds:= [_,_,_]) (aD rfl) ag68 rfl B1 rfl rfl aZ rfl (aJ (bA rfl) (.cons rfl .nil) (rForm_b hxR (by omega)) Tryz.func35 rfl rfl (by simp) rfl ?_)))))
 rintro v6 L6 ⟨M6,a6,c6,rfl,rfl,r6⟩
 change At _ _ _ [M6,N2,N1,R] _
 refine aE (aD rfl) rfl rfl (aA (aB (s_2 (At.seq fun _ s_3=>At.seq fun _ s_4=>At.region (aC (aD rfl) rfl rfl (aU (aD rfl) se23 rfl rfl (op_lss (aD rfl) rfl rfl rfl (aA (aB (s_4 (aK rfl (fun c9=>?_) (fun c9=>?_))))))))))))
 ·refine At.seq fun _ s_5=>At.region (op_loadAggB (ds:= [_,_,_]) (aD rfl) ag68 rfl B1 rfl rfl bB rfl (aO (nxl rfl) sz68 rfl rfl rfl rfl rfl B2 (by simp) sel1 (fun N2 B2=>?_)))
  simp only [setL,List.set]at B2
  refine aA (aB (s_5 (At.ret (aM ((At.empty (At.sub (L':= [nilH,N2,R]) (.cons_cons _ (.cons_cons _ (.cons _ (.cons _ (.cons_cons _ (.slnil)))))) (At.perm sel2 (At.perm sel1 (At.perm sel2 (aW (L1:= [nilH]) rfl (.cell rfl (res_agg (ds:= [_,_,_]) ag68 B2 rfl rfl aL) .nil) (.cons _ (.refl _)) (.refl _) ?_)))))))))))
  exact⟨nilH,x,rfl,rfl,fun J h1 h2=>by rw [linkI,if_pos (by omega)];exact hx J h2⟩
 refine At.skip (aB (s_3 (At.seq fun _ s_6=>At.region (aC (aD rfl) rfl rfl (aJ (bA rfl) (.cons rfl .nil) (rKeccak_f r6.rsl (by omega)) Tryz.func21 rfl rfl (by simp) rfl ?_)))))
 rintro v12 L12 ⟨rfl,rfl⟩
 change At _ _ _ [M6,N2,N1,R] _
 rw [hkz]
 refine bO (bA rfl) ze25 rfl (fun N4 b4 B4=>?_)
 change Blk N4 b4 _ [.int .u8 0,.int .u8 0,.int .u8 0,.int .u8 0,.int .u8 0,.int .u8 0,.int .u8 0,.int .u8 0,.int .u8 0,.int .u8 0,.int .u8 0,.int .u8 0,.int .u8 0,.int .u8 0,.int .u8 0,.int .u8 0,.int .u8 0,.int .u8 0,.int .u8 0,.int .u8 0,.int .u8 0,.int .u8 0,.int .u8 0,.int .u8 0,.int .u8 0,.int .u8 0,.int .u8 0,.int .u8 0,.int .u8 0,.int .u8 0,.int .u8 0,.int .u8 0]at B4
 refine aO (nxl rfl) sz25 rfl rfl rfl hku (all8x2 _) B4 (by rw [hku];exact Nat.le_refl 32) sel0 (fun N4 B4=>?_)
 rw [setL_whole (by rw [hku];rfl)]at B4
 refine aA (aB (s_6 (At.seq fun _ s_7=>At.region (op_sliceA (aD rfl) ae25 rfl .none .none .none (by omega) (by omega) (by omega) (by simp) rfl (aJ (bA rfl) (.cons rfl .nil) (rStr_b (blk8 B4 hkl (by decide)) (by decide)) Tryz.func71 rfl rfl (by simp) rfl ?_)))))
 rintro v14 L14 ⟨M14,a14,c14,rfl,rfl,s14⟩
 change At _ _ _ [M14,N4,M6,N2,N1,R] _
 refine aO (nxl rfl) sz68 rfl rfl rfl rfl rfl B2 (by simp) sel3 (fun N2 B2=>?_)
 simp only [setL,List.set]at B2
 refine aA (aB (s_7 (At.ret ((At.sub (L':= [N2,M14,R]) (.cons_cons _ (.cons_cons _ (.cons _ (.cons _ (.cons _ (.cons_cons _ (.slnil))))))) (aW (L1:= [M14]) rfl (.cell rfl (res_agg (ds:= [_,_,_]) ag68 B2 rfl rfl aL) .nil) (.cons _ (.refl _)) (.refl _) ?_))))))
 exact⟨M14,ivS a14 kz.length c14,rfl,rfl,fun J h1 _=>by rw [linkI,if_neg (by omega),hkz];exact ItN_S (s14.le h1)⟩
/-- Pairs where they lie, in any order. -/
structure PsD (N:Heaplet) (f:Nat) (l:List PR) (xs:List PV) (ao:Option Addr) (n cap:Nat):Prop where
 row:RSl N 2 ao n cap (cellsP xs)
 ps:PsN N l xs
 dis:Dis l
 fit:Fit f l
 small:n≤1099511627776
theorem PsD.xn {N:Heaplet} {f:Nat} {l:List PR} {xs:List PV} {ao:Option Addr} {n cap:Nat} (h:PsD N f l xs ao n cap):xs.length=n∧l.length=n:=by
 have h1:=h.row.1
 rw [cellsP_len]at h1
 have h2:=h.ps.len
 omega
def PsM (Ns:List Heaplet) (f:Nat) (l:List PR) (xs:List PV) (ao:Option Addr) (n cap:Nat):Prop:= ∀J:Heaplet,(∀N∈Ns,N.le J)→PsD J f l xs ao n cap
def NodeR (f:Nat):Prop:= ∀(Ns:List Heaplet) (l:List PR) (xs:List PV) (ao:Option Addr) (n cap:Nat),PsM Ns f l xs ao n cap→Fn Tryz.prog 46 #[.slice ao n cap] [] Ns (NodeP Ns (nodeF f l))
theorem rNode_nil (Ns:List Heaplet) (f:Nat) (xs:List PV) (ao:Option Addr) (n cap:Nat) (h:PsM Ns f [] xs ao n cap):Fn Tryz.prog 46 #[.slice ao n cap] [] Ns (NodeP Ns (itS [])):=by
 refine Fn.enter (vs:= [.slice ao n cap]) Tryz.func46 rfl rfl rfl ?_
 intro E R hR
 have h:=h R hR
 have hn:n=0:=h.xn.2.symm
 change At _ _ E [R] _
 refine At.seq fun _ s_1=>At.region (bO (bA rfl) ze68 rfl (fun N2 b2 B2=>?_))
 change Blk N2 b2 _ [.bool false,.slice none 0 0,.slice none 0 0]at B2
 refine aA (aB (s_1 (At.seq fun _ s_2=>At.seq fun _ s_3=>At.region (aC (aD rfl) rfl rfl (aU (aD rfl) se85 rfl rfl (op_eql (aD rfl) rfl rfl rfl (aA (aB (s_3 (aK rfl (fun c10=>?_) (fun c10=>?_)))))))))))
 rotate_left
 ·exact absurd (by omega) c10
 refine At.seq fun _ s_4=>At.region (op_build (out:= [.bool false,.slice none 0 0,.slice none 0 0]) (aD rfl) ze68 pl68 .nil rfl rfl (aO (nxl rfl) sz68 rfl rfl rfl rfl rfl B2 (by simp) sel0 (fun N2 B2=>?_)))
 simp only [setL,List.set]at B2
 refine aA (aB (s_4 (At.ret (aM ((At.empty (At.perm sel2 (At.perm sel1 (At.perm sel2 (aW (L1:= [nilH]) rfl (.cell rfl (res_agg (ds:= [_,_,_]) ag68 B2 rfl rfl aL) .nil) (.cons _ (.refl _)) (.refl _) ?_))))))))))
 exact⟨nilH,ivS none 0 0,rfl,rfl,fun J _ _=>ItN_S (RSl.nil _ _)⟩
set_option maxHeartbeats 1000000 in
theorem rNode_one (Ns:List Heaplet) (f:Nat) (p:PR) (xs:List PV) (ao:Option Addr) (n cap:Nat) (h:PsM Ns f [p] xs ao n cap):Fn Tryz.prog 46 #[.slice ao n cap] [] Ns (NodeP Ns (itL [itS (cpt p.1 true),itS p.2])):=by
 refine Fn.enter (vs:= [.slice ao n cap]) Tryz.func46 rfl rfl rfl ?_
 intro E R hR
 have h:=h R hR
 have hn:n=1:=h.xn.2.symm
 obtain⟨p',x,hp',hx,hpx⟩:=h.ps.at (i:=0) (by simp)
 obtain rfl:p=p':=by simpa using hp'
 have hs:=h.row
 have hsm:ao.isSome=true:=hs.isSome (by omega)
 have hcap:=hs.cap63
 have srow:=hpx.row
 have sval:=hpx.val
 have hrn:=hpx.rn
 have hvn:=hpx.vn
 have hsml:=h.fit.sml p (by simp)
 change At _ _ E [R] _
 refine At.seq fun _ s_1=>At.region (bO (bA rfl) ze68 rfl (fun N2 b2 B2=>?_))
 change Blk N2 b2 _ [.bool false,.slice none 0 0,.slice none 0 0]at B2
 refine aA (aB (s_1 (At.seq fun _ s_2=>At.seq fun _ s_3=>At.region (aC (aD rfl) rfl rfl (aU (aD rfl) se85 rfl rfl (op_eql (aD rfl) rfl rfl rfl (aA (aB (s_3 (aK rfl (fun c10=>?_) (fun c10=>?_)))))))))))
 ·omega
 refine At.skip (aB (s_2 (At.seq fun _ s_4=>At.seq fun _ s_5=>At.region (aC (aD rfl) rfl rfl (aU (aD rfl) se85 rfl rfl (op_eql (aD rfl) rfl rfl rfl (aA (aB (s_5 (aK rfl (fun c14=>?_) (fun c14=>?_)))))))))))
 rotate_left
 ·omega
 refine At.seq fun _ s_6=>At.drawnS [R] [10,11,12,13] [6] [0,1,2,3,6,7,8,9,4,5,10,11,12,13] (by kernel_rfl) (by kernel_rfl) (.cons _ (.refl _)) (aC (aX rfl rfl rfl) rfl rfl (op_idxE (aX rfl rfl rfl) se85 rfl rfl hs (show _=(((0:Nat)):Int)from by omega) (by omega) rfl ?_))
 refine bQ (aX rfl rfl rfl) fl92_0 rfl (by first|rfl|assumption) rfl ?_
 refine aT (aX rfl rfl rfl) sc23 rfl hs (by first|exact get8 (by omega)|exact bT (by omega)|exact bU (by omega)|exact cellsP_row hx) (by first|exact aL|exact aZ|exact bB|exact bF|exact bG|exact bH|exact bL|exact bK|exact bJ|exact bM) rfl ?_
 refine aC (aX rfl rfl rfl) rfl rfl (op_idxE (aX rfl rfl rfl) se85 rfl rfl hs (show _=(((0:Nat)):Int)from by omega) (by omega) rfl ?_)
 refine bQ (aX rfl rfl rfl) fl92_1 rfl (by first|rfl|assumption) rfl ?_
 refine aT (aX rfl rfl rfl) sc23 rfl hs (by first|exact get8 (by omega)|exact bT (by omega)|exact bU (by omega)|exact cellsP_val hx) (by first|exact aL|exact aZ|exact bB|exact bF|exact bG|exact bH|exact bL|exact bK|exact bJ|exact bM) rfl ?_
 refine aJ (Nx.agree (nxsm rfl rfl rfl)) (.cons rfl (.cons rfl .nil)) (rCompact srow (by omega) true (h.fit.nib p (by simp))) Tryz.func72 rfl rfl (by simp) rfl ?_
 rintro v19 L19 ⟨M19,a19,c19,rfl,rfl,r19⟩
 change At _ _ _ [M19,N2,R] _
 refine At.perm sel2 (At.perm sel1 (At.perm sel2 (At.moreS (Lst:= [R]) (Lst':= [M19,R]) (.cons _ (.refl _)) (.cons _ (.refl _)) ?_)))
 refine aJ (Nx.agree (nxsm rfl rfl rfl)) (.cons rfl .nil) (rStr_b r19.rsl (by rw [cpt_len];omega)) Tryz.func71 rfl rfl (by simp) rfl ?_
 rintro v20 L20 ⟨M20,a20,c20,rfl,rfl,s20⟩
 change At _ _ _ [M20,N2,M19,R] _
 refine At.perm sel3 (At.perm sel3 (At.perm sel2 (At.perm sel3 (At.moreS (Lst:= [M19,R]) (Lst':= [M20,M19,R]) (.cons _ (.refl _)) (.cons _ (.refl _)) (aJ (Nx.agree (nxss rfl rfl rfl rfl)) (.cons rfl .nil) (rStr_b sval (by omega)) Tryz.func71 rfl rfl (by simp) rfl ?_)))))
 rintro v25 L25 ⟨M25,a25,c25,rfl,rfl,s25⟩
 change At _ _ _ [M25,N2,M20,M19,R] _
 refine At.anyS (.refl _) (op_lit (Nx.agree (nxss rfl rfl rfl rfl)) Tryz.underlying66 ze68 sz68 (.cons rfl (.cons rfl .nil)) rfl rfl (by simp [Value.cells]) rfl rfl rfl (fun N26 a26 r26=>?_))
 simp only [flatV,List.flatMap_cons,List.flatMap_nil,Value.cells,List.append_nil,List.cons_append,List.nil_append]at r26
 have s26:=r26.rsl
 refine At.anyS (.refl _) ?_
 change Row N26 _ 3 a26 2 2 (cellsI [ivS a20 (cpt p.1 true).length c20,ivS a25 p.2.length c25])at r26
 have s26:=r26.rsl
 refine aJ (Nx.agree (nxss rfl rfl rfl rfl)) (.cons rfl .nil) (rList_b) Tryz.func70 rfl rfl (by simp) rfl ?_
 rintro v27 L27 ⟨rfl,rfl⟩
 change At _ _ _ [N26,M25,N2,M20,M19,R] _
 refine At.anyS (.refl _) (aO (nxsl rfl rfl rfl rfl) sz68 rfl rfl rfl rfl rfl B2 (by simp) sel2 (fun N2 B2=>?_))
 simp only [setL,List.set]at B2
 refine At.sNil (aB (s_6 (At.ret (aM ((At.perm sel5 (At.perm sel5 (At.perm sel4 (At.perm sel3 (At.perm sel5 (At.perm sel5 (At.mergeN (fun P P1 P2=>At.perm sel4 (At.perm sel4 (At.perm sel3 (At.perm sel4 (At.perm sel4 (At.mergeN (fun Q Q1 Q2=>At.sub (L':= [Q,N2,R]) (.cons_cons _ (.cons_cons _ (.cons _ (.cons_cons _ (.slnil))))) (At.perm sel2 (At.perm sel1 (At.perm sel2 (aW (L1:= [Q]) rfl (.cell rfl (res_agg (ds:= [_,_,_]) ag68 B2 rfl rfl aL) .nil) (.cons _ (.refl _)) (.refl _) ?_)))))))))))))))))))))))
 exact⟨Q,ivL a26 2 2,rfl,rfl,fun J h1 h2=>ItN_L (s26.le (Heaplet.le_trans P1 (Heaplet.le_trans Q1 h1))) (ItsN_cons (ItN_S (s20.le (Heaplet.le_trans P2 (Heaplet.le_trans Q1 h1)))) (ItsN_cons (ItN_S (s25.le (Heaplet.le_trans Q2 h1))) ItsN_nil))⟩
end Go.Proofs.YtdpjbefeabokgaaGreat
/- Layer 12, the reference: nodes of pairs that share nibbles and of those that part; the form of any node. No condition but bounds. -/
namespace Go.Proofs.YtdpjbefeabokgaaGreat
open Go Go.RowKit
set_option maxRecDepth 100000
theorem Fn.liftL {P:Program} {f:FuncId} {args:Array Value} {L0 Ms Ns:List Heaplet} {R:Heaplet} {Post:Value→List Heaplet→Prop} (h:Fn P f args L0 (Ms++Ns) Post) (hR: ∀N∈Ns,N.le R):Fn P f args L0 (Ms++ [R]) Post:=fun E w F hp hr=>
 h E w F hp fun N hN=>by
  rcases List.mem_append.1 hN with hN|hN
  ·exact hr _ (List.mem_append_left _ hN)
  ·exact Heaplet.le_trans (hR N hN) (hr R (by simp))
set_option maxHeartbeats 2000000 in
theorem rNode_ext {f:Nat} (hF:NodeR f) (Ns:List Heaplet) (p:PR) (t:List PR) (xs:List PV) (ao:Option Addr) (n cap:Nat) (h:PsM Ns (f+1) (p::t) xs ao n cap) (h2:2≤(p::t).length) (hs0:0<shar (p::t)):Fn Tryz.prog 46 #[.slice ao n cap] [] Ns (NodeP Ns (nodeF (f+1) (p::t))):=by
 rw [node_ext h2 hs0]
 show Fn Tryz.prog 46 #[.slice ao n cap] [] Ns (NodeP Ns (itL [itS (cpt (p.1.take (shar (p::t))) false),linkI (nodeF f (cutR (shar (p::t)) (p::t)))]))
 obtain⟨k,hk⟩: ∃k,shar (p::t)=k:=⟨_,rfl⟩
 rw [hk]
 refine Fn.enter (vs:= [.slice ao n cap]) Tryz.func46 rfl rfl rfl ?_
 intro E R hR
 have hP:=h
 have h:=h R hR
 have hxn:=h.xn
 obtain⟨p',x,hp',hx,hpx⟩:=h.ps.at (i:=0) (by simp)
 obtain rfl:p=p':=by simpa using hp'
 have hs:=h.row
 have hsmall:=h.small
 have hsm:ao.isSome=true:=hs.isSome (by omega)
 have hcap:=hs.cap63
 have srow:=hpx.row
 have hrn:=hpx.rn
 have hrc:=srow.cap63
 have hsml:=h.fit.sml p (by simp)
 have hkl: ∀y∈p::t,k≤y.1.length:=fun y hy=>(shar_take hy hy (Nat.le_of_eq hk.symm)).2
 have hkp:=hkl p (by simp)
 have hfs:=rShared hs h.ps h.small (by omega)
 rw [hk]at hfs
 have hcut:=rCut hs (h.ps.rows hkl) h.small
 have hlen:(xs.map (PV.cut k)).length=n:=by rw [List.length_map,hxn.1]
 have hfc:Fit f (cutR k (p::t)):=h.fit.cut (Nat.le_of_eq hk.symm) (by omega)
 have hns:=node_small f hfc.sml
 have hL: ∀(M:Heaplet) (a:Option Addr) (c:Nat),Row M 92 2 a (xs.map (PV.cut k)).length c (cellsP (xs.map (PV.cut k)))→PsM (M::Ns) f (cutR k (p::t)) (xs.map (PV.cut k)) a (xs.map (PV.cut k)).length c:=fun M a c hr J hJ=>by
  have h3:=hP J fun N hN=>hJ N (List.mem_cons_of_mem _ hN)
  exact⟨hr.rsl.le (hJ M (List.mem_cons_self ..)),h3.ps.take_cut hkl,h3.dis.cut (Nat.le_of_eq hk.symm),hfc,by rw [hlen];exact hsmall⟩
 change At _ _ E [R] _
 refine At.seq fun _ s_1=>At.region (bO (bA rfl) ze68 rfl (fun N2 b2 B2=>?_))
 change Blk N2 b2 _ [.bool false,.slice none 0 0,.slice none 0 0]at B2
 refine aA (aB (s_1 (At.seq fun _ s_2=>At.seq fun _ s_3=>At.region (aC (aD rfl) rfl rfl (aU (aD rfl) se85 rfl rfl (op_eql (aD rfl) rfl rfl rfl (aA (aB (s_3 (aK rfl (fun c10=>?_) (fun c10=>?_)))))))))))
 ·omega
 refine At.skip (aB (s_2 (At.seq fun _ s_4=>At.seq fun _ s_5=>At.region (aC (aD rfl) rfl rfl (aU (aD rfl) se85 rfl rfl (op_eql (aD rfl) rfl rfl rfl (aA (aB (s_5 (aK rfl (fun c14=>?_) (fun c14=>?_)))))))))))
 ·omega
 refine At.skip (aB (s_4 (At.seq fun _ s_6=>At.region (aC (aD rfl) rfl rfl (aJ (bA rfl) (.cons rfl .nil) (hfs) Tryz.func47 rfl rfl (by simp) rfl ?_)))))
 rintro v29 L29 ⟨rfl,rfl⟩
 change At _ _ _ [N2,R] _
 refine aE (aD rfl) rfl rfl (aA (aB (s_6 (At.seq fun _ s_7=>At.seq fun _ s_8=>At.region (aC (aD rfl) rfl rfl (op_gtr (aD rfl) rfl rfl rfl (aA (aB (s_8 (aK rfl (fun c31=>?_) (fun c31=>?_)))))))))))
 rotate_left
 ·omega
 refine At.seq fun _ s_9=>At.region (aC (aD rfl) rfl rfl (op_idxE (aD rfl) se85 rfl rfl hs (show _=(((0:Nat)):Int)from by omega) (by omega) rfl ?_))
 refine bQ (aD rfl) fl92_0 rfl (by first|rfl|assumption) rfl ?_
 refine aT (aD rfl) sc23 rfl hs (by first|exact get8 (by omega)|exact bT (by omega)|exact bU (by omega)|exact cellsP_row hx) (by first|exact aL|exact aZ|exact bB|exact bF|exact bG|exact bH|exact bL|exact bK|exact bJ|exact bM) rfl ?_
 refine aC (aD rfl) rfl rfl (op_slice0 (aD rfl) se23 rfl (.some rfl (show _=(((k:Nat)):Int)from by omega)) .none (by omega) (by omega) (by simp) rfl ?_)
 refine aJ (bA rfl) (.cons rfl (.cons rfl .nil)) (rCompact (srow.take8 (hi:=k) (m:=x.rc) (by omega) (Nat.le_refl _) (by omega)) (by omega) false ((h.fit.nib p (by simp)).take k)) Tryz.func72 rfl rfl (by simp) rfl ?_
 rintro v38 L38 ⟨M38,a38,c38,rfl,rfl,r38⟩
 change At _ _ _ [M38,N2,R] _
 refine aJ (bA rfl) (.cons rfl .nil) (rStr_b r38.rsl (by rw [cpt_len,List.length_take];omega)) Tryz.func71 rfl rfl (by simp) rfl ?_
 rintro v39 L39 ⟨M39,a39,c39,rfl,rfl,s39⟩
 change At _ _ _ [M39,M38,N2,R] _
 refine aC (aD rfl) rfl rfl (aC (aD rfl) rfl rfl (aJ (bA rfl) (.cons rfl (.cons rfl .nil)) (hcut) Tryz.func48 rfl rfl (by simp) rfl ?_))
 rintro v42 L42 ⟨M42,a42,c42,rfl,rfl,r42⟩
 change At _ _ _ [M42,M39,M38,N2,R] _
 refine aJ (bA rfl) (.cons rfl .nil) ((hF _ _ _ _ _ _ (hL M42 a42 c42 r42)).liftM hR) Tryz.func46 rfl rfl (by simp) rfl ?_
 rintro v43 L43 ⟨M43,x43,rfl,rfl,hx43⟩
 change At _ _ _ [M43,M42,M39,M38,N2,R] _
 refine aJ (bA rfl) (.cons rfl .nil) ((rLink (Ns:= [M43,M42]++Ns) (fun J hJ=>hx43 J (hJ _ (by simp)) fun N hN=>hJ N (List.mem_cons_of_mem _ hN)) hns).liftL hR) Tryz.func73 rfl rfl (by simp) rfl ?_
 rintro v44 L44 ⟨M44,x44,rfl,rfl,hx44⟩
 change At _ _ _ [M44,M43,M42,M39,M38,N2,R] _
 refine op_lit (bA rfl) Tryz.underlying66 ze68 sz68 (.cons rfl (.cons rfl .nil)) rfl rfl (by simp [Value.cells]) rfl rfl rfl (fun N45 a45 r45=>?_)
 simp only [flatV,List.flatMap_cons,List.flatMap_nil,Value.cells,List.append_nil,List.cons_append,List.nil_append]at r45
 have s45:=r45.rsl
 change Row N45 _ 3 a45 2 2 (cellsI [ivS a39 (cpt (p.1.take k) false).length c39,x44])at r45
 have s45:=r45.rsl
 refine aJ (bA rfl) (.cons rfl .nil) (rList_b) Tryz.func70 rfl rfl (by simp) rfl ?_
 rintro v46 L46 ⟨rfl,rfl⟩
 change At _ _ _ [N45,M44,M43,M42,M39,M38,N2,R] _
 refine aO (nxl rfl) sz68 rfl rfl rfl rfl rfl B2 (by simp) bV (fun N2 B2=>?_)
 simp only [setL,List.set]at B2
 refine aA (aB (s_9 (At.ret (aM ((At.perm sel7 (At.perm sel7 (At.perm bV (At.perm bV (At.perm bV (At.perm sel5 (At.perm sel7 (At.perm sel7 (At.mergeN (fun P P1 P2=>At.perm bV (At.perm bV (At.perm bV (At.perm bV (At.perm sel5 (At.perm bV (At.perm bV (At.mergeN (fun Q Q1 Q2=>At.perm sel5 ?_)))))))))))))))))))))))
 refine At.perm sel5 (At.perm sel5 (At.perm sel4 (At.perm sel5 (At.perm sel5 (At.mergeN (fun S S1 S2=>At.perm sel4 (At.perm sel4 (At.perm sel3 (At.perm sel4 (At.perm sel4 (At.mergeN (fun T T1 T2=>At.sub (L':= [T,N2,R]) (.cons_cons _ (.cons_cons _ (.cons _ (.cons_cons _ (.slnil))))) (At.perm sel2 (At.perm sel1 (At.perm sel2 (aW (L1:= [T]) rfl (.cell rfl (res_agg (ds:= [_,_,_]) ag68 B2 rfl rfl aL) .nil) (.cons _ (.refl _)) (.refl _) (⟨T,ivL a45 2 2,rfl,rfl,fun J h1 h2=>?_⟩)))))))))))))))))
 have g1:=Heaplet.le_trans T1 h1
 have g2:=Heaplet.le_trans S1 g1
 have g3:=Heaplet.le_trans Q1 g2
 refine ItN_L (s45.le (Heaplet.le_trans P1 g3)) (ItsN_cons (ItN_S (s39.le (Heaplet.le_trans P2 g3))) (ItsN_cons (hx44 J (Heaplet.le_trans Q2 g2) fun N hN=>?_) ItsN_nil))
 simp only [List.cons_append,List.nil_append,List.mem_cons]at hN
 rcases hN with rfl|rfl|hN
 ·exact Heaplet.le_trans S2 g1
 ·exact Heaplet.le_trans T2 h1
 ·exact h2 N hN
theorem ns_three {A B J:Heaplet} {Ns:List Heaplet} (h1:A.le J) (h2:B.le J) (h3: ∀N∈Ns,N.le J): ∀N∈ [A,B]++Ns,N.le J:=fun N hN=>by
 simp only [List.cons_append,List.nil_append,List.mem_cons]at hN
 rcases hN with rfl|rfl|hN
 ·exact h1
 ·exact h2
 ·exact h3 N hN
theorem last_snoc (l:List PR) (p:PR):lastV (l++ [p])=if p.1.length=0 then p.2 else lastV l:=by
 unfold lastV;rw [List.foldl_append];rfl
set_option maxHeartbeats 4000000 in
theorem rNode_bra {f:Nat} (hF:NodeR f) (Ns:List Heaplet) (p:PR) (t:List PR) (xs:List PV) (ao:Option Addr) (n cap:Nat) (h:PsM Ns (f+1) (p::t) xs ao n cap) (h2:2≤(p::t).length) (hs0: ¬0<shar (p::t)):Fn Tryz.prog 46 #[.slice ao n cap] [] Ns (NodeP Ns (nodeF (f+1) (p::t))):=by
 rw [node_bra h2 hs0]
 obtain⟨l,hl⟩: ∃l,p::t=l:=⟨_,rfl⟩
 refine Fn.enter (vs:= [.slice ao n cap]) Tryz.func46 rfl rfl rfl ?_
 intro E R hR
 have hP:=h
 have h:=h R hR
 have hxn:=h.xn
 have hs:=h.row
 have hsmall:=h.small
 have hsm:ao.isSome=true:=hs.isSome (by omega)
 have hcap:=hs.cap63
 have hsml:=h.fit.sml p (by simp)
 have hfs:=rShared hs h.ps h.small (by omega)
 rw [show shar (p::t)=0 by omega]at hfs
 rw [hl]at h hP hxn h2⊢
 have hsm2:=h.fit.sml
 have hL: ∀(c:UInt8) (M:Heaplet) (ys:List PV) (a:Option Addr) (cp:Nat),Row M 92 2 a (ys.map (PV.cut 1)).length cp (cellsP (ys.map (PV.cut 1)))→(∀J:Heaplet,(∀N∈Ns,N.le J)→PsN J (undR c l) ys)→PsM (M::Ns) f (cutR 1 (undR c l)) (ys.map (PV.cut 1)) a (ys.map (PV.cut 1)).length cp:=fun c M ys a cp hr hps J hJ=>by
  have h3:=hP J fun N hN=>hJ N (List.mem_cons_of_mem _ hN)
  have h4:=hps J fun N hN=>hJ N (List.mem_cons_of_mem _ hN)
  have hle:ys.length≤n:=by
   rw [h4.len, ←hxn.2];exact List.length_filter_le _ _
  exact⟨hr.rsl.le (hJ M (List.mem_cons_self ..)),h4.take_cut fun q hq=>by obtain⟨_,r,e⟩:=mem_und.1 hq;rw [e];simp,h3.dis.und c,h3.fit.und c,by rw [List.length_map];omega⟩
 change At _ _ E [R] _
 refine At.seq fun _ s_1=>At.region (bO (bA rfl) ze68 rfl (fun N2 b2 B2=>?_))
 change Blk N2 b2 _ [.bool false,.slice none 0 0,.slice none 0 0]at B2
 refine aA (aB (s_1 (At.seq fun _ s_2=>At.seq fun _ s_3=>At.region (aC (aD rfl) rfl rfl (aU (aD rfl) se85 rfl rfl (op_eql (aD rfl) rfl rfl rfl (aA (aB (s_3 (aK rfl (fun c10=>?_) (fun c10=>?_)))))))))))
 ·omega
 refine At.skip (aB (s_2 (At.seq fun _ s_4=>At.seq fun _ s_5=>At.region (aC (aD rfl) rfl rfl (aU (aD rfl) se85 rfl rfl (op_eql (aD rfl) rfl rfl rfl (aA (aB (s_5 (aK rfl (fun c14=>?_) (fun c14=>?_)))))))))))
 ·omega
 refine At.skip (aB (s_4 (At.seq fun _ s_6=>At.region (aC (aD rfl) rfl rfl (aJ (bA rfl) (.cons rfl .nil) (hfs) Tryz.func47 rfl rfl (by simp) rfl ?_)))))
 rintro v29 L29 ⟨rfl,rfl⟩
 change At _ _ _ [N2,R] _
 refine aE (aD rfl) rfl rfl (aA (aB (s_6 (At.seq fun _ s_7=>At.seq fun _ s_8=>At.region (aC (aD rfl) rfl rfl (op_gtr (aD rfl) rfl rfl rfl (aA (aB (s_8 (aK rfl (fun c31=>?_) (fun c31=>?_)))))))))))
 ·omega
 refine At.skip (aB (s_7 (At.seq fun _ s_9=>At.region (aE (aD rfl) rfl rfl (aA (aB (s_9 (At.seq fun _ s_10=>At.seq fun _ s_11=>At.region (aE (aD rfl) rfl rfl (aA (aB (s_11 (At.block (At.empty (At.empty (At.perm sel3 (At.perm sel3 (At.perm sel2 (At.perm sel3 (At.loop (fun fr_ hp_ ms_=> ∃(i m:Nat) (a:Option Addr) (cp:Nat) (ys:List IV) (Na NJ:Heaplet),fr_= [(0,.slice ao n cap),(2,.pointer (some ⟨b2,0,none⟩)),(4,.slice a m cp),(5,.int .i64 (i:Int))]∧hp_= [Na,NJ,N2,R]∧16- i=ms_∧(i≤16)∧(m=i)∧(ys.length=i)∧(Row Na 68 3 a m cp (cellsI ys))∧(∀J:Heaplet,NJ.le J→(∀N∈Ns,N.le J)→ItsN J ((List.range i).map (fun c=>linkI (nodeF f (cutR 1 (undR (UInt8.ofNat c) l))))) ys)) ?_ (.refl _) ⟨0,0,none,0,[],nilH,nilH,rfl,rfl,rfl,Nat.zero_le _,rfl,rfl,Row.nil _ _ _,fun J _ _=>ItsN_nil⟩ ?_))))))))))))))))))))
 ·exact .cons (by first|exact aP rfl (by omega)|rfl) (.cons (by first|exact aP rfl (by omega)|rfl) (.cons (by first|exact aP rfl (by omega)|rfl) (.cons (by first|exact aP rfl (by omega)|rfl) .nil)))
 rintro _ _ _ ⟨i,m,a,cp,ys,Na,NJ,rfl,rfl,rfl,hi,hmi,hyl,ra,hy⟩
 refine At.seq fun _ s_12=>At.seq fun _ s_13=>At.region (aC (aD rfl) rfl rfl (op_lss (aD rfl) rfl rfl rfl (aA (aB (s_13 (aK rfl (fun c48=>?_) (fun c48=>?_)))))))
 ·refine At.skip (aB (s_12 (At.seq fun _ s_14=>At.block (At.region (aC (aD rfl) rfl rfl (aC (aD rfl) rfl rfl (aC (aD rfl) rfl rfl (op_conv8 (aD rfl) (und_some Tryz.underlying3) Tryz.underlying5 rfl (by first|rfl|exact(Int.toNat_of_nonneg (by omega)).symm) rfl ?_))))))))
  refine aJ (bA rfl) (.cons rfl (.cons rfl .nil)) (rUnder hs h.ps hsmall (UInt8.ofNat i)) Tryz.func49 rfl rfl (by simp) rfl ?_
  rintro v55 L55 ⟨ys55,⟨M55,a55,c55,rfl,rfl,r55⟩,hp55⟩
  change At _ _ _ [M55,Na,NJ,N2,R] _
  have hp55':=fun J hJ=>hp55 J (hP J hJ).ps;have hund1: ∀q∈undR (UInt8.ofNat i) l,1≤q.1.length:=fun q hq=>by obtain⟨_,r,e⟩:=mem_und.1 hq;rw [e];simp
  have hl55:ys55.length≤n:=by
   rw [(hp55 R h.ps).len, ←hxn.2];exact List.length_filter_le _ _
  have hns:=node_small f (h.fit.und (UInt8.ofNat i)).sml
  refine aJ (bA rfl) (.cons rfl (.cons rfl .nil)) (rCut r55.rsl ((hp55 R h.ps).rows hund1) (by omega)) Tryz.func48 rfl rfl (by simp) rfl ?_
  rintro v56 L56 ⟨M56,a56,c56,rfl,rfl,r56⟩
  change At _ _ _ [M56,M55,Na,NJ,N2,R] _
  refine aJ (bA rfl) (.cons rfl .nil) ((hF _ _ _ _ _ _ (hL (UInt8.ofNat i) M56 ys55 a56 c56 r56 hp55')).liftM hR) Tryz.func46 rfl rfl (by simp) rfl ?_
  rintro v57 L57 ⟨M57,x57,rfl,rfl,hx57⟩
  change At _ _ _ [M57,M56,M55,Na,NJ,N2,R] _
  refine aJ (bA rfl) (.cons rfl .nil) ((rLink (Ns:= [M57,M56]++Ns) (fun J hJ=>hx57 J (hJ _ (by simp)) fun N hN=>hJ N (List.mem_cons_of_mem _ hN)) hns).liftL hR) Tryz.func73 rfl rfl (by simp) rfl ?_
  rintro v58 L58 ⟨M58,x58,rfl,rfl,hx58⟩
  change At _ _ _ [M58,M57,M56,M55,Na,NJ,N2,R] _
  refine op_lit (bA rfl) Tryz.underlying66 ze68 sz68 (.cons rfl .nil) rfl rfl (by simp [Value.cells]) rfl rfl rfl (fun N59 a59 r59=>?_)
  simp only [flatV,List.flatMap_cons,List.flatMap_nil,Value.cells,List.append_nil,List.cons_append,List.nil_append]at r59
  have s59:=r59.rsl
  change Row N59 _ 3 a59 1 1 (cellsI [x58])at r59
  have s59:=r59.rsl
  refine bE (nxl rfl) Tryz.underlying66 Tryz.underlying66 te68 rfl rfl ra s59 (by first|exact aL|exact aZ|exact bB|exact bF|exact bG|exact bH|exact bL|exact bK|exact bJ|exact bM) (cellsI_oneT _) (by omega) (by omega) sel5 rfl (fun N60 a60 p60 r60=>?_)
  have s60:=r60.rsl
  rw [show cellsI ys++cellsI [x58]=cellsI (ys++ [x58])from by simp [cellsI]]at r60
  refine aE (aD rfl) rfl rfl (aA (aR (aB (s_14 (At.region (aC (aD rfl) rfl rfl (aV (aD rfl) rfl rfl (by omega) (by omega) rfl (aE (aD rfl) rfl rfl (aA (aB (At.perm sel8 (At.perm sel8 (At.perm sel7 (At.perm sel7 (At.perm sel7 (At.perm bV (At.perm bV (At.perm sel7 (At.perm sel8 (At.mergeN (fun P P1 P2=>At.perm sel7 ?_)))))))))))))))))))))
  refine At.perm sel7 (At.perm sel7 (At.perm sel7 (At.perm bV (At.perm bV (At.perm sel7 (At.perm sel7 (At.mergeN (fun Q Q1 Q2=>At.perm bV (At.perm bV (At.perm bV (At.perm sel5 (At.perm sel5 (At.perm bV (At.perm bV (At.mergeN (fun S S1 S2=>At.sub (L':= [S,N60,N2,R]) (.cons_cons _ (.cons_cons _ (.cons _ (.cons _ (.cons_cons _ (.cons_cons _ (.slnil))))))) (At.perm sel3 (At.perm sel3 (At.perm sel2 (At.perm sel3 ?_))))))))))))))))))))
  refine bD ?_ (.refl _) ⟨i+1,m+1,a60,p60,ys++ [x58],N60,S,rfl,rfl,rfl,by omega,by omega,by simp [hyl],r60,fun J h1 h2=>by rw [List.range_succ,List.map_append];exact(hy J (Heaplet.le_trans P1 (Heaplet.le_trans Q1 (Heaplet.le_trans S1 h1))) h2).snoc (hx58 J (Heaplet.le_trans P2 (Heaplet.le_trans Q1 (Heaplet.le_trans S1 h1))) (ns_three (Heaplet.le_trans Q2 (Heaplet.le_trans S1 h1)) (Heaplet.le_trans S2 h1) h2))⟩ ?_
  ·exact .cons (by first|exact aP rfl (by omega)|rfl) (.cons (by first|exact aP rfl (by omega)|rfl) (.cons (by first|exact aP rfl (by omega)|rfl) (.cons (by first|exact aP rfl (by omega)|rfl) .nil)))
  ·omega
 have hi16:i=16:=by omega
 rw [hi16]at hyl hy
 refine At.exit (aG (aG (bC (aB (s_10 (At.seq fun _ s_15=>At.region (op_build (out:= [.bool false,.slice none 0 0,.slice none 0 0]) (aD rfl) ze68 pl68 .nil rfl rfl (bO (bA rfl) ze68 rfl (fun N6 b6 B6=>?_)))))))))
 change Blk N6 b6 _ [.bool false,.slice none 0 0,.slice none 0 0]at B6
 refine aO (nxl rfl) sz68 rfl rfl rfl rfl rfl B6 (by simp) sel0 (fun N6 B6=>?_)
 simp only [setL,List.set]at B6
 refine aA (aB (s_15 (At.seq fun _ s_16=>At.seq fun _ s_17=>At.region (aE (aD rfl) rfl rfl (aA (aB (s_17 (At.block (At.empty (At.perm sel5 (At.perm sel5 (At.perm sel5 (At.perm sel5 (At.perm sel4 (At.perm sel5 (At.loop (fun fr_ hp_ ms_=> ∃(j:Nat) (z:IV) (N6 NZ:Heaplet),fr_= [(0,.slice ao n cap),(2,.pointer (some ⟨b2,0,none⟩)),(4,.slice a m cp),(6,.pointer (some ⟨b6,0,none⟩)),(7,.int .i64 (j:Int))]∧hp_= [N6,NZ,Na,NJ,N2,R]∧n- j=ms_∧(j≤n)∧(Blk N6 b6 68 [.bool z.l,.slice z.ab z.nb z.cb,.slice z.ai z.ni z.ci])∧(∀J:Heaplet,NZ.le J→ItN J (itS (lastV (l.take j))) z)) ?_ (.refl _) ⟨0,ivS none 0 0,N6,nilH,rfl,rfl,rfl,Nat.zero_le _,B6,fun J _=>ItN_S (RSl.nil _ _)⟩ ?_))))))))))))))))
 ·exact .cons (by first|exact aP rfl (by omega)|rfl) (.cons (by first|exact aP rfl (by omega)|rfl) (.cons (by first|exact aP rfl (by omega)|rfl) (.cons (by first|exact aP rfl (by omega)|rfl) (.cons (by first|exact aP rfl (by omega)|rfl) .nil))))
 rintro _ _ _ ⟨j,z,N6,NZ,rfl,rfl,rfl,hj,B6,hz⟩
 refine At.seq fun _ s_18=>At.seq fun _ s_19=>At.region (aC (aD rfl) rfl rfl (aC (aD rfl) rfl rfl (aU (aD rfl) se85 rfl rfl (op_lss (aD rfl) rfl rfl rfl (aA (aB (s_19 (aK rfl (fun c65=>?_) (fun c65=>?_)))))))))
 ·obtain⟨q,y,hq,hyx,hqy⟩:=h.ps.at (i:=j) (by omega)
  have hqs:=hsm2 q (List.mem_of_getElem? hq)
  have hqn:=hqy.rn
  have hqv:=hqy.vn
  have sval:=hqy.val
  rw [hqv]at sval
  refine At.skip (aB (s_18 (At.seq fun _ s_20=>At.block (At.seq fun _ s_21=>At.region (aC (aD rfl) rfl rfl (aC (aD rfl) rfl rfl (op_idxE (aD rfl) se85 rfl rfl hs (show _=(((j:Nat)):Int)from by omega) (by omega) rfl ?_)))))))
  refine bQ (aD rfl) fl92_0 rfl (by first|rfl|assumption) rfl ?_
  refine aT (aD rfl) sc23 rfl hs (by first|exact get8 (by omega)|exact bT (by omega)|exact bU (by omega)|exact cellsP_row hyx) (by first|exact aL|exact aZ|exact bB|exact bF|exact bG|exact bH|exact bL|exact bK|exact bJ|exact bM) rfl ?_
  refine aU (aD rfl) se23 rfl rfl (op_eql (aD rfl) rfl rfl rfl (aA (aB (s_21 (aK rfl (fun c74=>?_) (fun c74=>?_))))))
  ·refine At.region (aC (aD rfl) rfl rfl (aC (aD rfl) rfl rfl (op_idxE (aD rfl) se85 rfl rfl hs (show _=(((j:Nat)):Int)from by omega) (by omega) rfl ?_)))
   refine bQ (aD rfl) fl92_1 rfl (by first|rfl|assumption) rfl ?_
   refine aT (aD rfl) sc23 rfl hs (by first|exact get8 (by omega)|exact bT (by omega)|exact bU (by omega)|exact cellsP_val hyx) (by first|exact aL|exact aZ|exact bB|exact bF|exact bG|exact bH|exact bL|exact bK|exact bJ|exact bM) rfl ?_
   rw [hqv]
   refine aJ (bA rfl) (.cons rfl .nil) (rStr_b sval (by omega)) Tryz.func71 rfl rfl (by simp) rfl ?_
   rintro v80 L80 ⟨M80,a80,c80,rfl,rfl,s80⟩
   change At _ _ _ [M80,N6,NZ,Na,NJ,N2,R] _
   refine aO (nxl rfl) sz68 rfl rfl rfl rfl rfl B6 (by simp) sel1 (fun N6 B6=>?_)
   simp only [setL,List.set]at B6
   refine aA (aR (aB (s_20 (At.region (aC (aD rfl) rfl rfl (aV (aD rfl) rfl rfl (by omega) (by omega) rfl (aE (aD rfl) rfl rfl (aA (aB (At.sub (L':= [N6,M80,Na,NJ,N2,R]) (.cons_cons _ (.cons_cons _ (.cons _ (.cons_cons _ (.cons_cons _ (.cons_cons _ (.cons_cons _ (.slnil)))))))) ?_))))))))))
   refine bD ?_ (.refl _) ⟨j+1,ivS a80 q.2.length c80,N6,M80,rfl,rfl,rfl,by omega,B6,fun J hJ=>by rw [take_next1 hq,last_snoc,if_pos (by omega)];exact ItN_S (s80.le hJ)⟩ ?_
   ·exact .cons (by first|exact aP rfl (by omega)|rfl) (.cons (by first|exact aP rfl (by omega)|rfl) (.cons (by first|exact aP rfl (by omega)|rfl) (.cons (by first|exact aP rfl (by omega)|rfl) (.cons (by first|exact aP rfl (by omega)|rfl) .nil))))
   ·omega
  refine At.skip (aR (aB (s_20 (At.region (aC (aD rfl) rfl rfl (aV (aD rfl) rfl rfl (by omega) (by omega) rfl (aE (aD rfl) rfl rfl (aA (aB ?_)))))))))
  refine bD ?_ (.refl _) ⟨j+1,z,N6,NZ,rfl,rfl,rfl,by omega,B6,fun J hJ=>by rw [take_next1 hq,last_snoc,if_neg (by omega)];exact hz J hJ⟩ ?_
  ·exact .cons (by first|exact aP rfl (by omega)|rfl) (.cons (by first|exact aP rfl (by omega)|rfl) (.cons (by first|exact aP rfl (by omega)|rfl) (.cons (by first|exact aP rfl (by omega)|rfl) (.cons (by first|exact aP rfl (by omega)|rfl) .nil))))
  ·omega
 rw [List.take_of_length_le (by omega)]at hz
 refine At.exit (aG (aG (bC (aB (s_16 (At.seq fun _ s_22=>At.region (aC (aD rfl) rfl rfl (op_loadAggB (ds:= [_,_,_]) (aD rfl) ag68 rfl B6 rfl rfl aL rfl (op_lit (bA rfl) Tryz.underlying66 ze68 sz68 (.cons rfl .nil) rfl rfl (by simp [Value.cells]) rfl rfl rfl (fun N83 a83 r83=>?_))))))))))
 simp only [flatV,List.flatMap_cons,List.flatMap_nil,Value.cells,List.append_nil,List.cons_append,List.nil_append]at r83
 have s83:=r83.rsl
 change Row N83 _ 3 a83 1 1 (cellsI [z])at r83
 have s83:=r83.rsl
 refine bE (nxl rfl) Tryz.underlying66 Tryz.underlying66 te68 rfl rfl ra s83 (by first|exact aL|exact aZ|exact bB|exact bF|exact bG|exact bH|exact bL|exact bK|exact bJ|exact bM) (cellsI_oneT _) (by omega) (by omega) sel3 rfl (fun N84 a84 p84 r84=>?_)
 have s84:=r84.rsl
 rw [show cellsI ys++cellsI [z]=cellsI (ys++ [z])from by simp [cellsI]]at r84
 refine aJ (bA rfl) (.cons rfl .nil) (rList_b) Tryz.func70 rfl rfl (by simp) rfl ?_
 rintro v85 L85 ⟨rfl,rfl⟩
 change At _ _ _ [N84,N83,N6,NZ,NJ,N2,R] _
 refine aO (nxl rfl) sz68 rfl rfl rfl rfl rfl B2 (by simp) sel5 (fun N2 B2=>?_)
 simp only [setL,List.set]at B2
 refine aA (aB (s_22 (At.ret ((At.perm bV (At.perm sel5 (At.perm sel5 (At.perm sel5 (At.perm sel4 (At.perm bV (At.perm bV (At.mergeN (fun P P1 P2=>At.perm sel5 (At.perm sel4 (At.perm sel4 (At.perm sel4 (At.perm sel5 (At.perm sel5 (At.mergeN (fun Q Q1 Q2=>At.sub (L':= [Q,N2,R]) (.cons_cons _ (.cons_cons _ (.cons _ (.cons _ (.cons_cons _ (.slnil)))))) (At.perm sel2 (At.perm sel1 ?_))))))))))))))))))))))
 refine At.perm sel2 (aW (L1:= [Q]) rfl (.cell rfl (res_agg (ds:= [_,_,_]) ag68 B2 rfl rfl aL) .nil) (.cons _ (.refl _)) (.refl _) ?_)
 exact⟨Q,ivL a84 (m+1) p84,rfl,rfl,fun J h1 h2=>ItN_L (r84.rsl.le (Heaplet.le_trans P1 (Heaplet.le_trans Q1 h1))) ((hy J (Heaplet.le_trans P2 (Heaplet.le_trans Q1 h1)) h2).snoc (hz J (Heaplet.le_trans Q2 h1)))⟩
end Go.Proofs.YtdpjbefeabokgaaGreat
