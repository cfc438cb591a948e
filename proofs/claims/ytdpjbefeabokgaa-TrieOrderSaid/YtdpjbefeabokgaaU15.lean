/- Several texts in one: see the remarks ahead of each part. No condition but those told there. -/
import Derived.Test.YtdpjbefeabokgaaU14
import Derived.Test.YtdpjbefeabokgaaU10
set_option linter.unusedSimpArgs false
set_option linter.unusedVariables false
/- quarrylaw12.TrieOrder answers true. No condition. -/
namespace Go.Proofs.Ytdpjbefeabokgaa
open Go Go.RowKit
set_option maxRecDepth 100000
structure OrdI (l:List Nat) (n i:Nat):Prop where
 len:l.length=n
 at': ∀j,j<i→l[j]? =some j
theorem OrdI.next {l:List Nat} {n i:Nat} (h:OrdI l n i) (hi:i<n):OrdI (l.set i i) n (i+1):=by
 refine⟨by rw [List.length_set];exact h.len,fun j hj=>?_⟩
 rw [List.getElem?_set]
 by_cases e:i=j
 ·subst e;rw [if_pos rfl,if_pos (by rw [h.len];exact hi)]
 ·rw [if_neg e];exact h.at' j (by omega)
theorem OrdI.perm {l:List Nat} {n i:Nat} (h:OrdI l n i) (hi:n≤i):l.Perm (List.range n):=by
 have e:l=List.range n:=by
  refine List.ext_getElem? fun j=>?_
  rcases Nat.lt_or_ge j n with q|q
  ·rw [h.at' j (by omega),List.getElem?_range q]
  ·rw [List.getElem?_eq_none (by rw [h.len];exact q),List.getElem?_eq_none (by simpa using q)]
 rw [e]
theorem swap_perm {l:List Nat} {n a b x y:Nat} (h:l.Perm (List.range n)) (ha:l[a]? =some x) (hb:l[b]? =some y):((l.set a y).set b x).Perm (List.range n):=by
 obtain⟨h1,rfl⟩:=List.getElem?_eq_some_iff.1 ha
 obtain⟨h2,rfl⟩:=List.getElem?_eq_some_iff.1 hb
 exact(List.set_set_perm h1 h2).trans h
theorem keysO_at {os:List (List UInt8)} {i:Nat} {x:List UInt8} (h:os[i]? =some x):(keysO os)[i]? =some (x.take 40):=by rw [keysO,List.getElem?_map,h];rfl
theorem keysO_no {os:List (List UInt8)} {i:Nat} (h:os.length≤i):(keysO os)[i]? =none:=by rw [keysO,List.getElem?_map,List.getElem?_eq_none h];rfl
def ordK (R:List PR) (l:List Nat):List (List UInt8):=l.map fun j=>(R.getD j ([],[])).1
theorem ordK_at {R:List PR} {l:List Nat} {i j:Nat} {p:PR} (h:l[i]? =some j) (hp:R[j]? =some p):(ordK R l)[i]? =some p.1:=by
 rw [ordK,List.getElem?_map,h]
 show some (R.getD j ([],[])).1=some p.1
 rw [List.getD_eq_getElem?_getD,hp];rfl
theorem ordK_1 {R:List PR} {l:List Nat} (hp:l.Perm (List.range R.length)) (hd:Dis R) (k:List UInt8) (h:hasM k R=true): ∃j:Nat,j<R.length∧(ordK R l)[j]? =some k:=by
 obtain⟨v,hv⟩:=Option.ne_none_iff_exists'.1 ((has_get hd).1 h)
 obtain⟨q,hq,e⟩:=List.mem_iff_getElem.1 ((get_iff hd).1 hv)
 have h1:q∈l:=hp.mem_iff.2 (List.mem_range.2 hq)
 obtain⟨j,hj,ej⟩:=List.mem_iff_getElem.1 h1
 refine⟨j,by have:=hp.length_eq;rw [List.length_range]at this;omega,?_⟩
 have h2:l[j]? =some q:=by rw [List.getElem?_eq_getElem hj,ej]
 have h3:R[q]? =some (k,v):=by rw [List.getElem?_eq_getElem hq,e]
 exact ordK_at h2 h3
theorem ordK_2 {R:List PR} {l:List Nat} (hp:l.Perm (List.range R.length)) (hd:Dis R) (j:Nat) (k:List UInt8) (h:(ordK R l)[j]? =some k):hasM k R=true:=by
 rw [ordK,List.getElem?_map]at h
 obtain⟨q,hq,e⟩:=Option.map_eq_some_iff.1 h
 have hl:q<R.length:=List.mem_range.1 (hp.mem_iff.1 (List.mem_of_getElem? hq))
 rw [List.getD_eq_getElem?_getD,List.getElem?_eq_getElem hl]at e
 have:(k,(R[q]).2)∈R:=by rw [←e];exact List.getElem_mem hl
 exact(has_get hd).2 (by rw [(get_iff hd).2 this];simp)
theorem getD_of_has {R:List PR} (h:Dis R) {k:List UInt8} (hk:hasM k R=true):getR R k=some ((getR R k).getD []):=by
 obtain⟨v,hv⟩:=Option.ne_none_iff_exists'.1 ((has_get h).1 hk)
 rw [hv];rfl
theorem get_of_no {R:List PR} (h:Dis R) {k:List UInt8} (hk:hasM k R=false):getR R k=none:=by
 cases hg:getR R k with
 |none=>rfl
 |some v=>have:=(has_get h).2 (by rw [hg];simp:getR R k≠none);rw [hk]at this;cases this
theorem getD_len {R:List PR} (h:Good R) (k:List UInt8):((getR R k).getD []).length≤1000000:=by
 cases hg:getR R k with
 |none=>exact Nat.zero_le _
 |some v=>exact(h.val _ ((get_iff h.dis).1 hg)).2
theorem again_ex {T U:List PR} {os:List (List UInt8)} {n i:Nat} {k:List UInt8} (h:Ord3 T U (keysO os) n i) (hi:i<n) (ho:(keysO os)[i]? =some k) (hd:hasM k U=false): ∃a,a<i∧(keysO os)[a]? =(keysO os)[i]? :=by
 obtain⟨a,h1,h2⟩:=h.again hi ho hd
 exact⟨a,h1,h2.trans ho.symm⟩
theorem TrieN.goodY {N:Heaplet} {b c:Nat} {R:List PR} (h:TrieN N b c R):Good R:=by
 obtain⟨_,_,_,_,_,hG⟩:=h;exact hG
section
variable {N M K : Heaplet} {ao bo oo : Option Addr} {n cap m cbp on oc : Nat} {xs : List OV} {tl : List Int} {us : List Value} {os : List (List UInt8)}
set_option maxHeartbeats 400000 in
theorem TrieOrder_f (h:RSl N 4 ao n cap (opsC xs)) (hg:OpsN N xs) (ht:RSl M 1 bo m cbp (intsV tl)) (htb: ∀q∈tl, -9223372036854775808≤q∧q≤9223372036854775807) (ho:RSl K 1 oo on oc us) (hb:Bags K us os):Fn Try.prog 4 #[.slice ao n cap,.slice bo m cbp,.slice oo on oc] [] [N,M,K] (fun v L=>v=.bool true∧L= []):=by
 have htl:tl.length=m:=by have:=ht.1;rw [intsV_len]at this;omega
 have hol:os.length=on:=by rw [←hb.len];have:=ho.1;omega
 have hmc:=ht.2.1
 have hmm:=ht.2.2.1
 have hoc:=ho.2.1
 have hom:=ho.2.2.1
 unfold maxLen at hmm hom
 refine Fn.enter (vs:= [.slice ao n cap,.slice bo m cbp,.slice oo on oc]) Try.func4 rfl rfl rfl ?_
 intro E R hR
 have h:=h.le (hR N (by simp))
 have hg:=hg.le (hR N (by simp))
 have ht:=ht.le (hR M (by simp))
 have ho:=ho.le (hR K (by simp))
 have hb:=hb.le (hR K (by simp))
 change At _ _ E [R] _
 refine At.seq fun _ s_1=>At.region (aE (aD rfl) rfl rfl (aB (aA (s_1 (At.seq fun _ s_2=>At.region (aC (aD rfl) rfl rfl (aH (aX rfl) (.cons rfl .nil) (FMade h hg) Try.func10 rfl rfl (by simp) rfl ?_)))))))
 rintro v24 L24 ⟨NP,NQ,x7,y8,rfl,rfl,hs1⟩
 change At _ _ _ [NP,NQ,R] _
 obtain⟨c1,R0,hT1,hF1,hc1,hl1⟩:=hs1
 have hr1:=hF1.s (Heaplet.le_refl NQ)
 obtain⟨fa,fc,ga,gc,ks,vs,BQ,rk,rv,bk,bv,hG⟩:=id hr1
 obtain⟨k0,hk0⟩: ∃k,R0.length=k:=⟨_,rfl⟩
 rw [hk0]at BQ rk hl1
 refine aC (aD rfl) rfl rfl (op_extract (aD rfl) rfl rfl rfl (op_extract (aD rfl) rfl rfl rfl (aE (aD rfl) rfl rfl (aE (aD rfl) rfl rfl (aB (aA (s_2 (At.seq fun _ s_3=>At.region (aH (aX rfl) .nil (FNew) Try.func7 rfl rfl (by simp) rfl ?_)))))))))
 rintro v27 L27 ⟨NU,u9,rfl,rfl,hU⟩
 change At _ _ _ [NU,NP,NQ,R] _
 refine aE (aD rfl) rfl rfl (aB (aA (s_3 (At.seq fun _ s_4=>At.seq fun _ s_5=>At.region (aC (aD rfl) rfl rfl (op_eqPt (aD rfl) Try.underlying23 rfl rfl (aC (aD rfl) rfl rfl (aC (nxgf rfl rfl rfl rfl) rfl rfl (op_eqPt (nxgf rfl rfl rfl rfl) Try.underlying23 rfl rfl (op_pickF (aD rfl) rfl rfl rfl (aC (aD rfl) rfl rfl (aH (nxga rfl rfl rfl rfl) .nil (TWakes) Try.func8 rfl rfl (by simp) rfl ?_))))))))))))
 rintro v35 L35 ⟨rfl,rfl⟩
 change At _ _ _ [NU,NP,NQ,R] _
 refine op_not (nxgf rfl rfl rfl rfl) rfl rfl (op_pickF (aD rfl) rfl rfl rfl (aB (aA (s_5 (At.condF rfl (At.skip (aA (s_4 (At.seq fun _ s_6=>At.region (aC (aD rfl) rfl rfl (bC (aD rfl) rfl rfl (aG (aD rfl) fl31_0 rfl rfl (aJ (aD rfl) sc29 rfl BQ (by first|rfl) aZ rfl ?_)))))))))))))
 refine aS (aD rfl) se29 rfl rfl (aE (aD rfl) rfl rfl (aB (aA (s_6 (At.seq fun _ s_7=>At.region (aC (aD rfl) rfl rfl ?_))))))
 refine op_make (aX rfl) Try.underlying38 te3 rfl rfl (show _=(((k0:Nat)):Int)from by omega) (show _=(((k0:Nat)):Int)from by omega) (by omega) (by unfold maxLen;omega) rfl (fun N44 a44 r44=>?_)
 rw [made_one _ _ rfl]at r44
 have s44:=r44.rsl
 refine aE (aD rfl) rfl rfl (aB (aA (s_7 (At.seq fun _ s_8=>At.seq fun _ s_9=>At.region (aE (aD rfl) rfl rfl (aB (aA (s_9 (At.block ?_)))))))))
 rw [show List.replicate k0 (Value.int .i64 0)=nums (List.replicate k0 0)from by simp [nums]]at r44
 refine At.loop (fun fr_ hp_ ms_=> ∃(i:Nat) (l:List Nat) (N44:Heaplet),fr_= [(0,.slice ao n cap),(1,.slice bo m cbp),(2,.slice oo on oc),(6,.bool false),(7,.pointer (some ⟨x7,0,none⟩)),(8,.pointer (some ⟨y8,0,none⟩)),(9,.pointer (some ⟨u9,0,none⟩)),(10,.int .i64 (k0:Int)),(11,.slice a44 k0 k0),(12,.int .i64 (i:Int))]∧hp_= [N44,NU,NP,NQ,R]∧k0- i=ms_∧(i≤k0)∧(OrdI l k0 i)∧(Row N44 3 1 a44 k0 k0 (nums l))) ?_ (.refl _) ⟨0,List.replicate k0 0,N44,rfl,rfl,rfl,Nat.zero_le _,⟨List.length_replicate,fun j hj=>absurd hj (Nat.not_lt_zero j)⟩,r44⟩ ?_
 ·exact .cons (by first|exact aK rfl (by omega)|rfl) (.cons (by first|exact aK rfl (by omega)|rfl) (.cons (by first|exact aK rfl (by omega)|rfl) (.cons (by first|exact aK rfl (by omega)|rfl) (.cons (by first|exact aK rfl (by omega)|rfl) (.cons (by first|exact aK rfl (by omega)|rfl) (.cons (by first|exact aK rfl (by omega)|rfl) (.cons (by first|exact aK rfl (by omega)|rfl) (.cons (by first|exact aK rfl (by omega)|rfl) (.cons (by first|exact aK rfl (by omega)|rfl) .nil)))))))))
 rintro _ _ _ ⟨i,l,N44,rfl,rfl,rfl,hi,hl,r44⟩
 refine At.seq fun _ s_10=>At.seq fun _ s_11=>At.region (aC (aD rfl) rfl rfl (aC (aD rfl) rfl rfl (op_lss (aD rfl) rfl rfl rfl (aB (aA (s_11 (aL rfl (fun c47=>?_) (fun c47=>?_))))))))
 ·have s44:=r44.rsl
  have hal:=s44.isSome (by omega)
  refine At.skip (aA (s_10 (At.seq fun _ s_12=>At.block (At.region (aC (aD rfl) rfl rfl (aC (aD rfl) rfl rfl (aC (aD rfl) rfl rfl (op_idx1 (aD rfl) se38 rfl rfl s44 (show _=(((i:Nat)):Int)from by omega) (by omega) rfl ?_))))))))
  refine op_storeE (nxl rfl) sz3 rfl rfl rfl rfl rfl r44 (by rw [nums_len,hl.len];show i+1≤k0;omega) (by simp) sel0 (fun N44 r44=>?_)
  rw [nums_set]at r44
  have s44:=r44.rsl
  refine aB (aP (aA (s_12 (At.region (aC (aD rfl) rfl rfl (aO (aD rfl) rfl rfl (by omega) (by omega) rfl (aE (aD rfl) rfl rfl (aB (aA (bB ?_ (.refl _) ⟨i+1,l.set i i,N44,rfl,rfl,rfl,by omega,hl.next (by omega),r44⟩ ?_))))))))))
  ·exact .cons (by first|exact aK rfl (by omega)|rfl) (.cons (by first|exact aK rfl (by omega)|rfl) (.cons (by first|exact aK rfl (by omega)|rfl) (.cons (by first|exact aK rfl (by omega)|rfl) (.cons (by first|exact aK rfl (by omega)|rfl) (.cons (by first|exact aK rfl (by omega)|rfl) (.cons (by first|exact aK rfl (by omega)|rfl) (.cons (by first|exact aK rfl (by omega)|rfl) (.cons (by first|exact aK rfl (by omega)|rfl) (.cons (by first|exact aK rfl (by omega)|rfl) .nil)))))))))
  ·omega
 refine At.exit (aF (aF (aU (aA (s_8 (At.seq fun _ s_13=>At.meet (fun fr_ hp_=> ∃(l:List Nat) (N44:Heaplet),fr_= [(0,.slice ao n cap),(1,.slice bo m cbp),(2,.slice oo on oc),(6,.bool false),(7,.pointer (some ⟨x7,0,none⟩)),(8,.pointer (some ⟨y8,0,none⟩)),(9,.pointer (some ⟨u9,0,none⟩)),(10,.int .i64 (k0:Int)),(11,.slice a44 k0 k0)]∧hp_= [N44,NU,NP,NQ,R]∧(l.Perm (List.range k0))∧(Row N44 3 1 a44 k0 k0 (nums l))) ?_ (fun K13_ jk_13=>?_)))))))
 rotate_left
 ·skip
  refine At.seq fun _ s_14=>?_
  have hp:=hl.perm (by omega)
  refine At.region (aE (aD rfl) rfl rfl (aB (aA (s_14 (At.block (At.loop (fun fr_ hp_ ms_=> ∃(i:Nat) (l:List Nat) (N44:Heaplet),fr_= [(0,.slice ao n cap),(1,.slice bo m cbp),(2,.slice oo on oc),(6,.bool false),(7,.pointer (some ⟨x7,0,none⟩)),(8,.pointer (some ⟨y8,0,none⟩)),(9,.pointer (some ⟨u9,0,none⟩)),(10,.int .i64 (k0:Int)),(11,.slice a44 k0 k0),(13,.int .i64 (i:Int))]∧hp_= [N44,NU,NP,NQ,R]∧m+1- i=ms_∧(i≤302)∧(l.Perm (List.range k0))∧(Row N44 3 1 a44 k0 k0 (nums l))) ?_ (.refl _) ⟨0,l,N44,rfl,rfl,rfl,by omega,hp,r44⟩ ?_))))))
  ·exact .cons (by first|exact aK rfl (by omega)|rfl) (.cons (by first|exact aK rfl (by omega)|rfl) (.cons (by first|exact aK rfl (by omega)|rfl) (.cons (by first|exact aK rfl (by omega)|rfl) (.cons (by first|exact aK rfl (by omega)|rfl) (.cons (by first|exact aK rfl (by omega)|rfl) (.cons (by first|exact aK rfl (by omega)|rfl) (.cons (by first|exact aK rfl (by omega)|rfl) (.cons (by first|exact aK rfl (by omega)|rfl) (.cons (by first|exact aK rfl (by omega)|rfl) .nil)))))))))
  rintro _ _ _ ⟨i,l,N44,rfl,rfl,rfl,hi,hp,r44⟩
  refine At.seq fun _ s_15=>At.seq fun _ s_16=>At.region (aC (aD rfl) rfl rfl (aO (aD rfl) rfl rfl (by omega) (by omega) rfl (aC (aD rfl) rfl rfl (aS (aD rfl) se38 rfl rfl (op_lss (aD rfl) rfl rfl rfl (aC (aD rfl) rfl rfl (At.partP (d:=59) rfl (fun g59=>?_) (fun g59=>?_))))))))
  ·refine aC (nxgf rfl rfl rfl rfl) rfl rfl (op_gtr (nxgf rfl rfl rfl rfl) rfl rfl rfl (op_pickT (aD rfl) rfl rfl rfl (aC (aD rfl) rfl rfl (At.partP (d:=63) rfl (fun g63=>?_) (fun g63=>?_)))))
   ·refine aC (nxgf rfl rfl rfl rfl) rfl rfl (op_lss (nxgf rfl rfl rfl rfl) rfl rfl rfl (op_pickT (aD rfl) rfl rfl rfl (aB (aA (s_16 (aL rfl (fun c66=>?_) (fun c66=>?_)))))))
    ·have hk:0<k0:=by omega
     have s44:=r44.rsl
     have hal:=s44.isSome hk
     have hbs:=ht.isSome (by omega)
     obtain⟨q1,hq1⟩: ∃q,tl[i]? =some q:=⟨_,List.getElem?_eq_getElem (by omega)⟩
     obtain⟨q2,hq2⟩: ∃q,tl[i+1]? =some q:=⟨_,List.getElem?_eq_getElem (by omega)⟩
     have hb1:=htb q1 (List.mem_of_getElem? hq1)
     have hb2:=htb q2 (List.mem_of_getElem? hq2)
     have hr1:=tmod_rng q1 hk
     have hr2:=tmod_rng q2 hk
     obtain⟨a,ea,ha⟩:=tmod_pos (q:=Int.tmod q1 k0+k0) hk (by omega)
     obtain⟨b,eb,hb9⟩:=tmod_pos (q:=Int.tmod q2 k0+k0) hk (by omega)
     have hll:l.length=k0:=by rw [hp.length_eq,List.length_range]
     obtain⟨x,hx⟩: ∃q,l[a]? =some q:=⟨_,List.getElem?_eq_getElem (by omega)⟩
     obtain⟨y,hy⟩: ∃q,l[b]? =some q:=⟨_,List.getElem?_eq_getElem (by omega)⟩
     refine At.skip (aA (s_15 (At.seq fun _ s_17=>At.block (At.seq fun _ s_18=>At.drawn [] [0,1,2,3,4,5,6,7,8,9,10,11,12,13,14,15,16,17,18,19,20,21,22] (by kernel_rfl) (by kernel_rfl) (aC (aI rfl rfl rfl (by kernel_rfl)) rfl rfl (aC (aI rfl rfl rfl (by kernel_rfl)) rfl rfl (op_idx1 (aI rfl rfl rfl (by kernel_rfl)) se38 rfl rfl ht (show _=(((i:Nat)):Int)from by omega) (by omega) rfl ?_)))))))
     refine aR (aI rfl rfl rfl (by kernel_rfl)) sc3 rfl ht (by first|exact get8 (by omega)|exact get64 (by omega)|exact get32 (by omega)|exact intsV_at hq1) (by first|exact aN|exact aV|exact aZ|exact mem3|exact mem4|exact mem5|exact mem6|exact mem7|exact mem8|exact mem9) rfl ?_
     refine aC (aI rfl rfl rfl (by kernel_rfl)) rfl rfl (op_remT (aI rfl rfl rfl (by kernel_rfl)) rfl rfl (by omega) rfl (aC (aI rfl rfl rfl (by kernel_rfl)) rfl rfl (aO (aI rfl rfl rfl (by kernel_rfl)) rfl rfl (by omega) (by omega) rfl (aC (aI rfl rfl rfl (by kernel_rfl)) rfl rfl (op_remT (aI rfl rfl rfl (by kernel_rfl)) rfl rfl (by omega) rfl (aC (aI rfl rfl rfl (by kernel_rfl)) rfl rfl (aC (aI rfl rfl rfl (by kernel_rfl)) rfl rfl (aO (aI rfl rfl rfl (by kernel_rfl)) rfl rfl (by omega) (by omega) rfl (op_idx1 (aI rfl rfl rfl (by kernel_rfl)) se38 rfl rfl ht (show _=(((i+1:Nat)):Int)from by omega) (by omega) rfl ?_)))))))))
     refine aR (aI rfl rfl rfl (by kernel_rfl)) sc3 rfl ht (by first|exact get8 (by omega)|exact get64 (by omega)|exact get32 (by omega)|exact intsV_at hq2) (by first|exact aN|exact aV|exact aZ|exact mem3|exact mem4|exact mem5|exact mem6|exact mem7|exact mem8|exact mem9) rfl ?_
     refine aC (aI rfl rfl rfl (by kernel_rfl)) rfl rfl (op_remT (aI rfl rfl rfl (by kernel_rfl)) rfl rfl (by omega) rfl (aC (aI rfl rfl rfl (by kernel_rfl)) rfl rfl (aO (aI rfl rfl rfl (by kernel_rfl)) rfl rfl (by omega) (by omega) rfl (aC (aI rfl rfl rfl (by kernel_rfl)) rfl rfl (op_remT (aI rfl rfl rfl (by kernel_rfl)) rfl rfl (by omega) rfl (aE (aI rfl rfl rfl (by kernel_rfl)) rfl rfl (aE (aI rfl rfl rfl (by kernel_rfl)) rfl rfl (At.oneNil (aA (s_18 (At.drawnS [N44,NU,NP,NQ,R] [13,15] [2,3] [0,1,2,3,4,5,6,7,8,9,10,11,12,13,14,15] (by kernel_rfl) (by kernel_rfl) (.refl _) (aC (aM rfl rfl rfl) rfl rfl (aC (aM rfl rfl rfl) rfl rfl (aC (aM rfl rfl rfl) rfl rfl (aC (aM rfl rfl rfl) rfl rfl (aC (aM rfl rfl rfl) rfl rfl (aC (aM rfl rfl rfl) rfl rfl (op_idx1 (aM rfl rfl rfl) se38 rfl rfl s44 (show _=(((b:Nat)):Int)from by omega) (by omega) rfl ?_))))))))))))))))))
     refine aR (aM rfl rfl rfl) sc3 rfl s44 (by first|exact get8 (by omega)|exact get64 (by omega)|exact get32 (by omega)|exact nums_at hy) (by first|exact aN|exact aV|exact aZ|exact mem3|exact mem4|exact mem5|exact mem6|exact mem7|exact mem8|exact mem9) rfl ?_
     refine aC (aM rfl rfl rfl) rfl rfl (aC (aM rfl rfl rfl) rfl rfl (op_idx1 (aM rfl rfl rfl) se38 rfl rfl s44 (show _=(((a:Nat)):Int)from by omega) (by omega) rfl ?_))
     refine aR (aM rfl rfl rfl) sc3 rfl s44 (by first|exact get8 (by omega)|exact get64 (by omega)|exact get32 (by omega)|exact nums_at hx) (by first|exact aN|exact aV|exact aZ|exact mem3|exact mem4|exact mem5|exact mem6|exact mem7|exact mem8|exact mem9) rfl ?_
     refine op_idx1 (aM rfl rfl rfl) se38 rfl rfl s44 (show _=(((a:Nat)):Int)from by omega) (by omega) rfl ?_
     refine op_storeE (nxss rfl rfl rfl rfl) sz3 rfl rfl rfl rfl rfl r44 (by rw [nums_len,hll];show a+1≤k0;omega) (by simp) sel0 (fun N44 r44=>?_)
     rw [nums_set]at r44
     have s44:=r44.rsl
     refine At.anyS (.refl _) (op_idx1 (aM rfl rfl rfl) se38 rfl rfl s44 (show _=(((b:Nat)):Int)from by omega) (by omega) rfl ?_)
     refine op_storeE (nxsl rfl rfl rfl rfl) sz3 rfl rfl rfl rfl rfl r44 (by rw [nums_len,List.length_set,hll];show b+1≤k0;omega) (by simp) sel0 (fun N44 r44=>?_)
     rw [nums_set]at r44
     have s44:=r44.rsl
     refine At.sNil (aP (aA (s_17 (At.region (aC (aD rfl) rfl rfl (aO (aD rfl) rfl rfl (by omega) (by omega) rfl (aE (aD rfl) rfl rfl (aB (aA (bB ?_ (.refl _) ⟨i+2,(l.set a y).set b x,N44,rfl,rfl,rfl,by omega,swap_perm hp hx hy,r44⟩ ?_))))))))))
     ·exact .cons (by first|exact aK rfl (by omega)|rfl) (.cons (by first|exact aK rfl (by omega)|rfl) (.cons (by first|exact aK rfl (by omega)|rfl) (.cons (by first|exact aK rfl (by omega)|rfl) (.cons (by first|exact aK rfl (by omega)|rfl) (.cons (by first|exact aK rfl (by omega)|rfl) (.cons (by first|exact aK rfl (by omega)|rfl) (.cons (by first|exact aK rfl (by omega)|rfl) (.cons (by first|exact aK rfl (by omega)|rfl) (.cons (by first|exact aK rfl (by omega)|rfl) .nil)))))))))
     ·omega
    refine At.exit (aF (aF (aU (aA (jk_13 ?_ (.refl _) ⟨l,N44,rfl,rfl,hp,r44⟩)))))
    exact .cons (by first|exact aK rfl (by omega)|rfl) (.cons (by first|exact aK rfl (by omega)|rfl) (.cons (by first|exact aK rfl (by omega)|rfl) (.cons (by first|exact aK rfl (by omega)|rfl) (.cons (by first|exact aK rfl (by omega)|rfl) (.cons (by first|exact aK rfl (by omega)|rfl) (.cons (by first|exact aK rfl (by omega)|rfl) (.cons (by first|exact aK rfl (by omega)|rfl) (.cons (by first|exact aK rfl (by omega)|rfl) .nil))))))))
   refine aY rfl rfl rfl rfl rfl rfl rfl (aY rfl rfl rfl rfl rfl rfl rfl (op_pickF (aD rfl) rfl rfl rfl (aB (aA (s_16 (At.condF rfl (At.exit (aF (aF (aU (aA (jk_13 ?_ (.refl _) ⟨l,N44,rfl,rfl,hp,r44⟩))))))))))))
   exact .cons (by first|exact aK rfl (by omega)|rfl) (.cons (by first|exact aK rfl (by omega)|rfl) (.cons (by first|exact aK rfl (by omega)|rfl) (.cons (by first|exact aK rfl (by omega)|rfl) (.cons (by first|exact aK rfl (by omega)|rfl) (.cons (by first|exact aK rfl (by omega)|rfl) (.cons (by first|exact aK rfl (by omega)|rfl) (.cons (by first|exact aK rfl (by omega)|rfl) (.cons (by first|exact aK rfl (by omega)|rfl) .nil))))))))
  refine aY rfl rfl rfl rfl rfl rfl rfl (aY rfl rfl rfl rfl rfl rfl rfl (op_pickF (aD rfl) rfl rfl rfl (aC (aD rfl) rfl rfl (aY rfl rfl rfl rfl rfl rfl rfl (aY rfl rfl rfl rfl rfl rfl rfl (op_pickF (aD rfl) rfl rfl rfl (aB (aA (s_16 (At.condF rfl (At.exit (aF (aF (aU (aA (jk_13 ?_ (.refl _) ⟨l,N44,rfl,rfl,hp,r44⟩))))))))))))))))
  exact .cons (by first|exact aK rfl (by omega)|rfl) (.cons (by first|exact aK rfl (by omega)|rfl) (.cons (by first|exact aK rfl (by omega)|rfl) (.cons (by first|exact aK rfl (by omega)|rfl) (.cons (by first|exact aK rfl (by omega)|rfl) (.cons (by first|exact aK rfl (by omega)|rfl) (.cons (by first|exact aK rfl (by omega)|rfl) (.cons (by first|exact aK rfl (by omega)|rfl) (.cons (by first|exact aK rfl (by omega)|rfl) .nil))))))))
 rintro _ _ ⟨l,N44,rfl,rfl,hp,r44⟩
 refine s_13 (At.seq fun _ s_19=>At.seq fun _ s_20=>?_)
 have s44:=r44.rsl
 refine At.region (aE (aD rfl) rfl rfl (aB (aA (s_20 (At.block (At.perm sel4 (At.perm sel4 (At.perm sel4 (At.perm sel3 (At.perm sel4 (At.loop (fun fr_ hp_ ms_=> ∃(i cU:Nat) (U:List PR) (NU:Heaplet),fr_= [(0,.slice ao n cap),(1,.slice bo m cbp),(2,.slice oo on oc),(6,.bool false),(7,.pointer (some ⟨x7,0,none⟩)),(8,.pointer (some ⟨y8,0,none⟩)),(9,.pointer (some ⟨u9,0,none⟩)),(10,.int .i64 (k0:Int)),(11,.slice a44 k0 k0),(16,.int .i64 (i:Int))]∧hp_= [NU,N44,NP,NQ,R]∧k0- i=ms_∧(i≤k0)∧(cU≤2*i)∧(TrieN NU u9 cU U)∧(Ord2 R0 U (keysO os) (ordK R0 l) i)) ?_ (.refl _) ⟨0,0,[],NU,rfl,rfl,rfl,Nat.zero_le _,Nat.zero_le _,hU,Ord2.start _ _ _⟩ ?_)))))))))))
 ·exact .cons (by first|exact aK rfl (by omega)|rfl) (.cons (by first|exact aK rfl (by omega)|rfl) (.cons (by first|exact aK rfl (by omega)|rfl) (.cons (by first|exact aK rfl (by omega)|rfl) (.cons (by first|exact aK rfl (by omega)|rfl) (.cons (by first|exact aK rfl (by omega)|rfl) (.cons (by first|exact aK rfl (by omega)|rfl) (.cons (by first|exact aK rfl (by omega)|rfl) (.cons (by first|exact aK rfl (by omega)|rfl) (.cons (by first|exact aK rfl (by omega)|rfl) .nil)))))))))
 rintro _ _ _ ⟨i,cU,U,NU,rfl,rfl,rfl,hi,hcU,hU,hO⟩
 refine At.seq fun _ s_21=>At.seq fun _ s_22=>At.region (aC (aD rfl) rfl rfl (aC (aD rfl) rfl rfl (op_lss (aD rfl) rfl rfl rfl (aB (aA (s_22 (aL rfl (fun c106=>?_) (fun c106=>?_))))))))
 ·have hll:l.length=k0:=by rw [hp.length_eq,List.length_range]
  have hal:=s44.isSome (by omega)
  obtain⟨j,hj⟩: ∃q,l[i]? =some q:=⟨_,List.getElem?_eq_getElem (by omega)⟩
  have hjk:j<k0:=List.mem_range.1 (hp.mem_iff.1 (List.mem_of_getElem? hj))
  obtain⟨p,hp1⟩: ∃q,R0[j]? =some q:=⟨_,List.getElem?_eq_getElem (by omega)⟩
  obtain⟨pa,pc,hk1,hk2⟩:=bags_at bk hp1
  have hpm:=List.mem_of_getElem? hp1
  have hgp:getR R0 p.1=some p.2:=(get_iff hG.dis).2 hpm
  have hhas:hasM p.1 R0=true:=(has_get hG.dis).2 (by rw [hgp];simp)
  have hget:(getR R0 p.1).getD []=p.2:=by rw [hgp];rfl
  have hk40:=hG.key p hpm
  have hv40:=(hG.val p hpm).2
  have hfas:=rk.isSome (by omega)
  refine At.skip (aA (s_21 (At.seq fun _ s_23=>At.block (At.seq fun _ s_24=>At.meet (fun fr_ hp_=> ∃(V:List PR) (cV:Nat) (NU:Heaplet),fr_= [(0,.slice ao n cap),(1,.slice bo m cbp),(2,.slice oo on oc),(6,.bool false),(7,.pointer (some ⟨x7,0,none⟩)),(8,.pointer (some ⟨y8,0,none⟩)),(9,.pointer (some ⟨u9,0,none⟩)),(10,.int .i64 (k0:Int)),(11,.slice a44 k0 k0),(16,.int .i64 (i:Int))]∧hp_= [NU,N44,NP,NQ,R]∧(TrieN NU u9 cV V)∧(cV≤2*i+1)∧((∃o,(keysO os)[i]? =some o∧o.length≤40∧V=putM o [120] U)∨((keysO os)[i]? =none∧V=U))) ?_ (fun K24_ jk_24=>?_)))))
  rotate_left
  ·skip
   refine At.seq fun _ s_25=>At.region (aC (aD rfl) rfl rfl (aC (aD rfl) rfl rfl (aS (aD rfl) se29 rfl rfl (op_lss (aD rfl) rfl rfl rfl (aB (aA (s_25 (aL rfl (fun c112=>?_) (fun c112=>?_)))))))))
   ·obtain⟨x,hx⟩: ∃y,os[i]? =some y:=⟨_,List.getElem?_eq_getElem (by omega)⟩
    obtain⟨xa,xc,hu1,hxr⟩:=hb.rsl i x hx
    have hos:=ho.isSome (by omega)
    refine At.region (aC (aD rfl) rfl rfl (aC (aD rfl) rfl rfl (aC (aD rfl) rfl rfl (op_idx1 (aD rfl) se29 rfl rfl ho (show _=(((i:Nat)):Int)from by omega) (by omega) rfl ?_))))
    refine aR (aD rfl) sc33 rfl ho (by first|exact get8 (by omega)|exact get64 (by omega)|exact get32 (by omega)|exact hu1) (by first|exact aN|exact aV|exact aZ|exact mem3|exact mem4|exact mem5|exact mem6|exact mem7|exact mem8|exact mem9) rfl ?_
    refine aH (aX rfl) (.cons rfl .nil) (FKey hxr) Try.func12 rfl rfl (by simp) rfl ?_
    rintro v118 L118 ⟨N118,a118,c118,rfl,rfl,r118⟩
    change At _ _ _ [N118,NU,N44,NP,NQ,R] _
    refine op_lit (aX rfl) Try.underlying33 ze5 sz5 (.cons rfl .nil) rfl rfl (by simp [Value.cells]) rfl rfl rfl (fun N119 a119 r119=>?_)
    simp only [flatV,List.flatMap_cons,List.flatMap_nil,Value.cells,List.append_nil,List.cons_append,List.nil_append]at r119
    have s119:=r119.rsl
    refine op_convB (nxl rfl) Try.underlying33 Try.underlying5 rfl r119 (by omega) sel0 rfl (fun N119 s119=>At.perm sel6 (At.perm sel6 (At.perm sel6 (At.perm sel6 (At.perm sel5 (At.perm sel5 (At.perm sel6 (op_call (nxl rfl) (.cons rfl (.cons rfl (.cons rfl .nil))) (FPut hU (k:=x.take 40) (v:= [120]) r118.rsl s119 (List.length_take_le _ _) (by decide) (by omega)) (F:= [N119,N118,N44,NP,NQ,R]) Try.func11 rfl rfl (.refl _) (by simp) rfl ?_))))))))
    rintro v121 L121 ⟨NU,rfl,rfl,hU⟩
    change At _ _ _ [NU,N119,N118,N44,NP,NQ,R] _
    refine aB (At.sub (L':= [NU,N44,NP,NQ,R]) (.cons_cons _ (.cons _ (.cons _ (.cons_cons _ (.cons_cons _ (.cons_cons _ (.cons_cons _ (.slnil)))))))) (aA (jk_24 ?_ (.refl _) ⟨putM (x.take 40) [120] U,cU+1,NU,rfl,rfl,hU,by omega,.inl ⟨x.take 40,keysO_at hx,List.length_take_le _ _,rfl⟩⟩)))
    exact .cons (by first|exact aK rfl (by omega)|rfl) (.cons (by first|exact aK rfl (by omega)|rfl) (.cons (by first|exact aK rfl (by omega)|rfl) (.cons (by first|exact aK rfl (by omega)|rfl) (.cons (by first|exact aK rfl (by omega)|rfl) (.cons (by first|exact aK rfl (by omega)|rfl) (.cons (by first|exact aK rfl (by omega)|rfl) (.cons (by first|exact aK rfl (by omega)|rfl) (.cons (by first|exact aK rfl (by omega)|rfl) (.cons (by first|exact aK rfl (by omega)|rfl) .nil)))))))))
   refine At.skip (aA (jk_24 ?_ (.refl _) ⟨U,cU,NU,rfl,rfl,hU,by omega,.inr ⟨keysO_no (by omega),rfl⟩⟩))
   exact .cons (by first|exact aK rfl (by omega)|rfl) (.cons (by first|exact aK rfl (by omega)|rfl) (.cons (by first|exact aK rfl (by omega)|rfl) (.cons (by first|exact aK rfl (by omega)|rfl) (.cons (by first|exact aK rfl (by omega)|rfl) (.cons (by first|exact aK rfl (by omega)|rfl) (.cons (by first|exact aK rfl (by omega)|rfl) (.cons (by first|exact aK rfl (by omega)|rfl) (.cons (by first|exact aK rfl (by omega)|rfl) (.cons (by first|exact aK rfl (by omega)|rfl) .nil)))))))))
  rintro _ _ ⟨V,cV,NU,rfl,rfl,hU,hcV,hV⟩
  refine s_24 (At.seq fun _ s_26=>At.drawnS [NU,N44,NP,NQ,R] [11] [] [0,1,2,3,4,5,6,7,8,9,10,11,12,13,14,15,16] (by kernel_rfl) (by kernel_rfl) (.refl _) (aC (aM rfl rfl rfl) rfl rfl (aC (aM rfl rfl rfl) rfl rfl (bC (aM rfl rfl rfl) rfl rfl (aG (aM rfl rfl rfl) fl31_0 rfl rfl (aJ (aM rfl rfl rfl) sc29 rfl BQ (by first|rfl) mem3 rfl ?_))))))
  refine aC (aM rfl rfl rfl) rfl rfl (aC (aM rfl rfl rfl) rfl rfl (op_idx1 (aM rfl rfl rfl) se38 rfl rfl s44 (show _=(((i:Nat)):Int)from by omega) (by omega) rfl ?_))
  refine aR (aM rfl rfl rfl) sc3 rfl s44 (by first|exact get8 (by omega)|exact get64 (by omega)|exact get32 (by omega)|exact nums_at hj) (by first|exact aN|exact aV|exact aZ|exact mem3|exact mem4|exact mem5|exact mem6|exact mem7|exact mem8|exact mem9) rfl ?_
  refine op_idx1 (aM rfl rfl rfl) se29 rfl rfl rk (show _=(((j:Nat)):Int)from by omega) (by omega) rfl ?_
  refine aR (aM rfl rfl rfl) sc33 rfl rk (by first|exact get8 (by omega)|exact get64 (by omega)|exact get32 (by omega)|exact hk1) (by first|exact aN|exact aV|exact aZ|exact mem3|exact mem4|exact mem5|exact mem6|exact mem7|exact mem8|exact mem9) rfl ?_
  refine aH (Nx.agree (nxss rfl rfl rfl rfl)) (.cons rfl (.cons rfl .nil)) (FGet hT1 hk2 (by omega)) Try.func13 rfl rfl (by simp) rfl ?_
  rintro v134 L134 ⟨N134,a134,c134,rfl,rfl,r134⟩
  change At _ _ _ [N134,NU,N44,NP,NQ,R] _
  rw [hget]at r134;rw [hget,hhas];have s134:=r134.rsl
  refine At.anyS (.refl _) (aC (aM rfl rfl rfl) rfl rfl (op_extract (aM rfl rfl rfl) rfl rfl rfl (op_extract (aM rfl rfl rfl) rfl rfl rfl (aE (aM rfl rfl rfl) rfl rfl (aE (aM rfl rfl rfl) rfl rfl (At.sNil (aA (s_26 (At.seq fun _ s_27=>At.seq fun _ s_28=>At.region (aC (aD rfl) rfl rfl (op_not (aD rfl) rfl rfl (aB (aA (s_28 (At.condB rfl (fun c138=>?_) (fun c138=>?_))))))))))))))))
  ·simp at c138
  refine At.skip (aA (s_27 (At.perm sel5 (At.perm sel5 (At.perm sel5 (At.perm sel5 (At.perm sel4 (At.perm sel5 (At.drawnS [N134,N44,NP,NQ,R] [12,14] [0,2,6,7,13] [0,2,3,4,5,6,7,8,9,10,11,13,1,12,14] (by kernel_rfl) (by kernel_rfl) (.cons _ (.refl _)) (aC (aM rfl rfl rfl) rfl rfl (aC (aM rfl rfl rfl) rfl rfl (bC (aM rfl rfl rfl) rfl rfl (aG (aM rfl rfl rfl) fl31_0 rfl rfl (aJ (aM rfl rfl rfl) sc29 rfl BQ (by first|rfl) mem3 rfl ?_))))))))))))))
  refine aC (aM rfl rfl rfl) rfl rfl (aC (aM rfl rfl rfl) rfl rfl (op_idx1 (aM rfl rfl rfl) se38 rfl rfl s44 (show _=(((i:Nat)):Int)from by omega) (by omega) rfl ?_))
  refine aR (aM rfl rfl rfl) sc3 rfl s44 (by first|exact get8 (by omega)|exact get64 (by omega)|exact get32 (by omega)|exact nums_at hj) (by first|exact aN|exact aV|exact aZ|exact mem3|exact mem4|exact mem5|exact mem6|exact mem7|exact mem8|exact mem9) rfl ?_
  refine op_idx1 (aM rfl rfl rfl) se29 rfl rfl rk (show _=(((j:Nat)):Int)from by omega) (by omega) rfl ?_
  refine aR (aM rfl rfl rfl) sc33 rfl rk (by first|exact get8 (by omega)|exact get64 (by omega)|exact get32 (by omega)|exact hk1) (by first|exact aN|exact aV|exact aZ|exact mem3|exact mem4|exact mem5|exact mem6|exact mem7|exact mem8|exact mem9) rfl ?_
  refine aC (aM rfl rfl rfl) rfl rfl (op_lit (Nx.agree (nxsm rfl rfl rfl)) Try.underlying33 ze5 sz5 .nil rfl rfl (by simp [Value.cells]) rfl rfl rfl (fun N140 a140 r140=>?_))
  simp only [flatV,List.flatMap_cons,List.flatMap_nil,Value.cells,List.append_nil,List.cons_append,List.nil_append]at r140
  have s140:=r140.rsl
  refine At.moreS (Lst:= [N134,N44,NP,NQ,R]) (Lst':= [N134,N44,NP,NQ,R]) (.refl _) (.cons _ (.cons _ (.refl _))) ?_
  refine bD (nxss rfl rfl rfl rfl) Try.underlying33 Try.underlying33 te5 rfl rfl r140 hk2 (by first|exact aN|exact aV|exact aZ|exact mem3|exact mem4|exact mem5|exact mem6|exact mem7|exact mem8|exact mem9) (by first|exact one_u8s _|exact one_u64s _|exact one_u32s _|(intro u hu;simp at hu;subst hu;rfl)) (by omega) (by omega) sel0 rfl (fun N151 a151 p151 r151=>?_)
  have s151:=r151.rsl
  refine At.anyS (.refl _) (At.perm sel6 (At.perm sel6 (At.perm sel6 (At.perm sel6 (At.perm sel6 (At.perm sel5 (At.perm sel6 (op_call (nxsl rfl rfl rfl rfl) (.cons rfl (.cons rfl (.cons rfl .nil))) (FPut hU (k:=p.1) (v:=p.2) r151.rsl s134 (by omega) (by omega) (by omega)) (F:= [N151,N134,N44,NP,NQ,R]) Try.func11 rfl rfl (.refl _) (by simp) rfl ?_))))))))
  rintro v153 L153 ⟨NU,rfl,rfl,hU⟩
  change At _ _ _ [NU,N151,N134,N44,NP,NQ,R] _
  refine At.sNil (aP (aA (s_23 (At.region (aC (aD rfl) rfl rfl (aO (aD rfl) rfl rfl (by omega) (by omega) rfl (aE (aD rfl) rfl rfl (aB (aA (At.sub (L':= [NU,N44,NP,NQ,R]) (.cons_cons _ (.cons _ (.cons _ (.cons_cons _ (.cons_cons _ (.cons_cons _ (.cons_cons _ (.slnil)))))))) (bB ?_ (.refl _) ⟨i+1,cV+1,putM p.1 p.2 V,NU,rfl,rfl,rfl,by omega,by omega,hU,hO.step hG (ordK_at hj hp1) hgp hV⟩ ?_)))))))))))
  ·exact .cons (by first|exact aK rfl (by omega)|rfl) (.cons (by first|exact aK rfl (by omega)|rfl) (.cons (by first|exact aK rfl (by omega)|rfl) (.cons (by first|exact aK rfl (by omega)|rfl) (.cons (by first|exact aK rfl (by omega)|rfl) (.cons (by first|exact aK rfl (by omega)|rfl) (.cons (by first|exact aK rfl (by omega)|rfl) (.cons (by first|exact aK rfl (by omega)|rfl) (.cons (by first|exact aK rfl (by omega)|rfl) (.cons (by first|exact aK rfl (by omega)|rfl) .nil)))))))))
  ·omega
 refine At.exit (aF (aF (aU (aA (s_19 (At.seq fun _ s_29=>At.meet (fun fr_ hp_=> ∃(cU:Nat) (U:List PR) (NU:Heaplet),fr_= [(6,.bool false),(7,.pointer (some ⟨x7,0,none⟩)),(9,.pointer (some ⟨u9,0,none⟩))]∧hp_= [NU,NP,R]∧(TrieN NU u9 cU U)∧(U.Perm R0)) ?_ (fun K29_ jk_29=>?_)))))))
 rotate_left
 ·skip
  refine At.seq fun _ s_30=>?_
  have hik:i=k0:=by omega
  rw [hik]at hO hcU
  have hO3:Ord3 R0 U (keysO os) k0 0:=hO.ends hG.dis (fun k h=>by have:=ordK_1 (l:=l) (by rw [hk0];exact hp) hG.dis k h;rwa [hk0]at this) (ordK_2 (by rw [hk0];exact hp) hG.dis)
  refine At.region (aE (aD rfl) rfl rfl (aB (aA (s_30 (At.block (At.loop (fun fr_ hp_ ms_=> ∃(i cU:Nat) (U:List PR) (NU:Heaplet),fr_= [(0,.slice ao n cap),(1,.slice bo m cbp),(2,.slice oo on oc),(6,.bool false),(7,.pointer (some ⟨x7,0,none⟩)),(8,.pointer (some ⟨y8,0,none⟩)),(9,.pointer (some ⟨u9,0,none⟩)),(10,.int .i64 (k0:Int)),(11,.slice a44 k0 k0),(19,.int .i64 (i:Int))]∧hp_= [NU,N44,NP,NQ,R]∧k0- i=ms_∧(i≤k0)∧(cU≤2*k0+i)∧(TrieN NU u9 cU U)∧(Ord3 R0 U (keysO os) k0 i)) ?_ (.refl _) ⟨0,cU,U,NU,rfl,rfl,rfl,Nat.zero_le _,by omega,hU,hO3⟩ ?_))))))
  ·exact .cons (by first|exact aK rfl (by omega)|rfl) (.cons (by first|exact aK rfl (by omega)|rfl) (.cons (by first|exact aK rfl (by omega)|rfl) (.cons (by first|exact aK rfl (by omega)|rfl) (.cons (by first|exact aK rfl (by omega)|rfl) (.cons (by first|exact aK rfl (by omega)|rfl) (.cons (by first|exact aK rfl (by omega)|rfl) (.cons (by first|exact aK rfl (by omega)|rfl) (.cons (by first|exact aK rfl (by omega)|rfl) (.cons (by first|exact aK rfl (by omega)|rfl) .nil)))))))))
  rintro _ _ _ ⟨i,cU,U,NU,rfl,rfl,rfl,hi,hcU,hU,hO3⟩
  refine At.seq fun _ s_31=>At.seq fun _ s_32=>At.region (aC (aD rfl) rfl rfl (aC (aD rfl) rfl rfl (aS (aD rfl) se29 rfl rfl (op_lss (aD rfl) rfl rfl rfl (aC (aD rfl) rfl rfl (At.partP (d:=158) rfl (fun g158=>?_) (fun g158=>?_)))))))
  ·refine aC (nxgf rfl rfl rfl rfl) rfl rfl (aC (nxgf rfl rfl rfl rfl) rfl rfl (op_lss (nxgf rfl rfl rfl rfl) rfl rfl rfl (op_pickT (aD rfl) rfl rfl rfl (aB (aA (s_32 (aL rfl (fun c162=>?_) (fun c162=>?_))))))))
   ·obtain⟨x,hx⟩: ∃y,os[i]? =some y:=⟨_,List.getElem?_eq_getElem (by omega)⟩
    obtain⟨xa,xc,hu1,hxr⟩:=hb.rsl i x hx
    have hos:=ho.isSome (by omega)
    have hx40:(x.take 40).length≤40:=List.length_take_le _ _
    have hvl:=getD_len hG (x.take 40)
    refine At.skip (aA (s_31 (At.seq fun _ s_33=>At.block (At.seq fun _ s_34=>At.region (aC (aD rfl) rfl rfl (aC (aD rfl) rfl rfl (aC (aD rfl) rfl rfl (op_idx1 (aD rfl) se29 rfl rfl ho (show _=(((i:Nat)):Int)from by omega) (by omega) rfl ?_))))))))
    refine aR (aD rfl) sc33 rfl ho (by first|exact get8 (by omega)|exact get64 (by omega)|exact get32 (by omega)|exact hu1) (by first|exact aN|exact aV|exact aZ|exact mem3|exact mem4|exact mem5|exact mem6|exact mem7|exact mem8|exact mem9) rfl ?_
    refine aH (aX rfl) (.cons rfl .nil) (FKey hxr) Try.func12 rfl rfl (by simp) rfl ?_
    rintro v171 L171 ⟨N171,a171,c171,rfl,rfl,r171⟩
    change At _ _ _ [N171,NU,N44,NP,NQ,R] _
    refine aH (aX rfl) (.cons rfl (.cons rfl .nil)) (FGet hT1 (k:=x.take 40) r171.rsl (by omega)) Try.func13 rfl rfl (by simp) rfl ?_
    rintro v172 L172 ⟨N172,a172,c172,rfl,rfl,r172⟩
    change At _ _ _ [N172,N171,NU,N44,NP,NQ,R] _
    have s172:=r172.rsl
    refine aC (aD rfl) rfl rfl (op_extract (aD rfl) rfl rfl rfl (op_extract (aD rfl) rfl rfl rfl (aE (aD rfl) rfl rfl (aE (aD rfl) rfl rfl (aB (aA (s_34 (At.seq fun _ s_35=>At.region (aC (aD rfl) rfl rfl (aB (aA (s_35 (At.condB rfl (fun c175=>?_) (fun c175=>?_))))))))))))))
    ·refine At.region (aC (aD rfl) rfl rfl (aC (aD rfl) rfl rfl (aC (aD rfl) rfl rfl (op_idx1 (aD rfl) se29 rfl rfl ho (show _=(((i:Nat)):Int)from by omega) (by omega) rfl ?_))))
     refine aR (aD rfl) sc33 rfl ho (by first|exact get8 (by omega)|exact get64 (by omega)|exact get32 (by omega)|exact hu1) (by first|exact aN|exact aV|exact aZ|exact mem3|exact mem4|exact mem5|exact mem6|exact mem7|exact mem8|exact mem9) rfl ?_
     refine aH (aX rfl) (.cons rfl .nil) (FKey hxr) Try.func12 rfl rfl (by simp) rfl ?_
     rintro v181 L181 ⟨N181,a181,c181,rfl,rfl,r181⟩
     change At _ _ _ [N181,N172,N171,NU,N44,NP,NQ,R] _
     refine aC (aD rfl) rfl rfl (At.perm sel7 (At.perm sel7 (At.perm sel7 (At.perm sel7 (At.perm sel6 (At.perm sel6 (At.perm sel6 (At.perm sel7 (op_call (nxl rfl) (.cons rfl (.cons rfl (.cons rfl .nil))) (FPut hU (k:=x.take 40) (v:=(getR R0 (x.take 40)).getD []) r181.rsl s172 hx40 hvl (by omega)) (F:= [N181,N172,N171,N44,NP,NQ,R]) Try.func11 rfl rfl (.refl _) (by simp) rfl ?_)))))))))
     rintro v183 L183 ⟨NU,rfl,rfl,hU⟩
     change At _ _ _ [NU,N181,N172,N171,N44,NP,NQ,R] _
     refine aB (aP (aA (s_33 (At.region (aC (aD rfl) rfl rfl (aO (aD rfl) rfl rfl (by omega) (by omega) rfl (aE (aD rfl) rfl rfl (aB (aA (At.sub (L':= [NU,N44,NP,NQ,R]) (.cons_cons _ (.cons _ (.cons _ (.cons _ (.cons_cons _ (.cons_cons _ (.cons_cons _ (.cons_cons _ (.slnil))))))))) (bB ?_ (.refl _) ⟨i+1,cU+1,_,NU,rfl,rfl,rfl,by omega,by omega,hU,hO3.put hG (keysO_at hx) (getD_of_has hG.dis c175)⟩ ?_)))))))))))
     ·exact .cons (by first|exact aK rfl (by omega)|rfl) (.cons (by first|exact aK rfl (by omega)|rfl) (.cons (by first|exact aK rfl (by omega)|rfl) (.cons (by first|exact aK rfl (by omega)|rfl) (.cons (by first|exact aK rfl (by omega)|rfl) (.cons (by first|exact aK rfl (by omega)|rfl) (.cons (by first|exact aK rfl (by omega)|rfl) (.cons (by first|exact aK rfl (by omega)|rfl) (.cons (by first|exact aK rfl (by omega)|rfl) (.cons (by first|exact aK rfl (by omega)|rfl) .nil)))))))))
     ·omega
    refine At.seq fun _ s_36=>At.region (aC (aD rfl) rfl rfl (aC (aD rfl) rfl rfl (aC (aD rfl) rfl rfl (op_idx1 (aD rfl) se29 rfl rfl ho (show _=(((i:Nat)):Int)from by omega) (by omega) rfl ?_))))
    refine aR (aD rfl) sc33 rfl ho (by first|exact get8 (by omega)|exact get64 (by omega)|exact get32 (by omega)|exact hu1) (by first|exact aN|exact aV|exact aZ|exact mem3|exact mem4|exact mem5|exact mem6|exact mem7|exact mem8|exact mem9) rfl ?_
    refine aH (aX rfl) (.cons rfl .nil) (FKey hxr) Try.func12 rfl rfl (by simp) rfl ?_
    rintro v189 L189 ⟨N189,a189,c189,rfl,rfl,r189⟩
    change At _ _ _ [N189,N172,N171,NU,N44,NP,NQ,R] _
    refine At.perm sel7 (At.perm sel7 (At.perm sel7 (At.perm sel7 (At.perm sel6 (At.perm sel6 (At.perm sel6 (At.perm sel7 (op_call (nxl rfl) (.cons rfl (.cons rfl .nil)) (FDelete hU (k:=x.take 40) r189.rsl (by omega)) (F:= [N189,N172,N171,N44,NP,NQ,R]) Try.func14 rfl rfl (.refl _) (by simp) rfl ?_))))))))
    rintro v190 L190 ⟨NU,rfl,rfl,hU⟩
    change At _ _ _ [NU,N189,N172,N171,N44,NP,NQ,R] _
    refine op_not (aD rfl) rfl rfl (aC (aD rfl) rfl rfl (At.part (d:=192) rfl (fun g192=>?_) (fun g192=>?_)))
    ·refine aC (nxgf rfl rfl rfl rfl) rfl rfl (aC (nxgf rfl rfl rfl rfl) rfl rfl (aH (nxga rfl rfl rfl rfl) (.cons rfl (.cons rfl .nil)) (FAgain ho hb (by omega) (again_ex hO3 (by omega) (keysO_at hx) (by simpa using g192))) Try.func15 rfl rfl (by simp) rfl ?_))
     rintro v195 L195 ⟨rfl,rfl⟩
     change At _ _ _ [NU,N189,N172,N171,N44,NP,NQ,R] _
     refine op_not (nxgf rfl rfl rfl rfl) rfl rfl (op_pickT (aD rfl) rfl rfl rfl (aB (aA (s_36 (At.condF rfl (At.skip (aP (aA (s_33 (At.region (aC (aD rfl) rfl rfl (aO (aD rfl) rfl rfl (by omega) (by omega) rfl (aE (aD rfl) rfl rfl (aB (aA (At.sub (L':= [NU,N44,NP,NQ,R]) (.cons_cons _ (.cons _ (.cons _ (.cons _ (.cons_cons _ (.cons_cons _ (.cons_cons _ (.cons_cons _ (.slnil))))))))) (bB ?_ (.refl _) ⟨i+1,cU,_,NU,rfl,rfl,rfl,by omega,by omega,hU,hO3.del (keysO_at hx) (get_of_no hG.dis c175)⟩ ?_)))))))))))))))))
     ·exact .cons (by first|exact aK rfl (by omega)|rfl) (.cons (by first|exact aK rfl (by omega)|rfl) (.cons (by first|exact aK rfl (by omega)|rfl) (.cons (by first|exact aK rfl (by omega)|rfl) (.cons (by first|exact aK rfl (by omega)|rfl) (.cons (by first|exact aK rfl (by omega)|rfl) (.cons (by first|exact aK rfl (by omega)|rfl) (.cons (by first|exact aK rfl (by omega)|rfl) (.cons (by first|exact aK rfl (by omega)|rfl) (.cons (by first|exact aK rfl (by omega)|rfl) .nil)))))))))
     ·omega
    refine aY rfl rfl rfl rfl rfl rfl rfl (aY rfl rfl rfl rfl rfl rfl rfl (aY rfl rfl rfl rfl rfl rfl rfl (aY rfl rfl rfl rfl rfl rfl rfl (op_pickF (aD rfl) rfl rfl rfl (aB (aA (s_36 (At.condF rfl (At.skip (aP (aA (s_33 (At.region (aC (aD rfl) rfl rfl (aO (aD rfl) rfl rfl (by omega) (by omega) rfl (aE (aD rfl) rfl rfl (aB (aA (At.sub (L':= [NU,N44,NP,NQ,R]) (.cons_cons _ (.cons _ (.cons _ (.cons _ (.cons_cons _ (.cons_cons _ (.cons_cons _ (.cons_cons _ (.slnil))))))))) (bB ?_ (.refl _) ⟨i+1,cU,_,NU,rfl,rfl,rfl,by omega,by omega,hU,hO3.del (keysO_at hx) (get_of_no hG.dis c175)⟩ ?_))))))))))))))))))))
    ·exact .cons (by first|exact aK rfl (by omega)|rfl) (.cons (by first|exact aK rfl (by omega)|rfl) (.cons (by first|exact aK rfl (by omega)|rfl) (.cons (by first|exact aK rfl (by omega)|rfl) (.cons (by first|exact aK rfl (by omega)|rfl) (.cons (by first|exact aK rfl (by omega)|rfl) (.cons (by first|exact aK rfl (by omega)|rfl) (.cons (by first|exact aK rfl (by omega)|rfl) (.cons (by first|exact aK rfl (by omega)|rfl) (.cons (by first|exact aK rfl (by omega)|rfl) .nil)))))))))
    ·omega
   refine At.exit (aF (aF (aU (At.sub (L':= [NU,NP,R]) (.cons_cons _ (.cons _ (.cons_cons _ (.cons _ (.cons_cons _ (.slnil)))))) (aA (jk_29 ?_ (.refl _) ⟨cU,U,NU,rfl,rfl,hU,hO3.perm hG.dis fun j h1 h2=>keysO_no (by omega)⟩))))))
   exact .cons (by first|exact aK rfl (by omega)|rfl) (.cons (by first|exact aK rfl (by omega)|rfl) (.cons (by first|exact aK rfl (by omega)|rfl) .nil))
  refine aY rfl rfl rfl rfl rfl rfl rfl (aY rfl rfl rfl rfl rfl rfl rfl (aY rfl rfl rfl rfl rfl rfl rfl (op_pickF (aD rfl) rfl rfl rfl (aB (aA (s_32 (At.condF rfl (At.exit (aF (aF (aU (At.sub (L':= [NU,NP,R]) (.cons_cons _ (.cons _ (.cons_cons _ (.cons _ (.cons_cons _ (.slnil)))))) (aA (jk_29 ?_ (.refl _) ⟨cU,U,NU,rfl,rfl,hU,hO3.perm hG.dis fun j h1 h2=>keysO_no (by omega)⟩))))))))))))))
  exact .cons (by first|exact aK rfl (by omega)|rfl) (.cons (by first|exact aK rfl (by omega)|rfl) (.cons (by first|exact aK rfl (by omega)|rfl) .nil))
 rintro _ _ ⟨cU,U,NU,rfl,rfl,hU,hpm⟩
 obtain⟨z,hz⟩: ∃z,rootM R0=z:=⟨_,rfl⟩;have hz2:rootM U=z:=(root_perm hU.goodY.dis hpm).trans hz;have lz:z.length=32:=by rw [←hz,rootM,kec_len]
 refine s_29 (At.seq fun _ s_37=>At.region (aC (aD rfl) rfl rfl (aH (aX rfl) (.cons rfl .nil) (FRoot hT1 (by omega)) Try.func16 rfl rfl (by simp) rfl ?_)))
 rintro v199 L199 ⟨rfl,rfl⟩
 change At _ _ _ [NU,NP,R] _
 rw [hz]
 refine aC (aD rfl) rfl rfl ?_
 refine aH (aX rfl) (.cons rfl .nil) (FRoot hU (by rw [hpm.length_eq];omega)) Try.func16 rfl rfl (by simp) rfl ?_
 rintro v201 L201 ⟨rfl,rfl⟩
 change At _ _ _ [NU,NP,R] _
 rw [hz2]
 refine op_eqW8 (a:=z) (b:=z) (aD rfl) ae48 Try.underlying5 (by kernel_rfl) rfl rfl lz lz rfl (aC (aD rfl) rfl rfl (At.partP (d:=203) rfl (fun g203=>?_) (fun g203=>?_)))
 rotate_left
 ·exact absurd rfl g203
 refine aC (nxgf rfl rfl rfl rfl) rfl rfl (aH (nxga rfl rfl rfl rfl) (.cons rfl .nil) (FLen hT1) Try.func17 rfl rfl (by simp) rfl ?_)
 rintro v205 L205 ⟨rfl,rfl⟩
 change At _ _ _ [NU,NP,R] _
 refine aC (nxgf rfl rfl rfl rfl) rfl rfl (aH (nxga rfl rfl rfl rfl) (.cons rfl .nil) (FLen hU) Try.func17 rfl rfl (by simp) rfl ?_)
 rintro v207 L207 ⟨rfl,rfl⟩
 change At _ _ _ [NU,NP,R] _
 refine op_eql (nxgf rfl rfl rfl rfl) rfl rfl rfl (op_pickT (aD rfl) rfl rfl rfl (aE (aD rfl) rfl rfl (aB (aA (s_37 (At.ret ((At.sub (L':= [R]) (.cons _ (.cons _ (.cons_cons _ (.slnil)))) (aQ (L1:= []) rfl (.tmp rfl .nil) (.refl _) (.refl _) ?_)))))))))
 exact⟨by simp [hpm.length_eq],rfl⟩
end
end Go.Proofs.Ytdpjbefeabokgaa
/- Numbers, byte strings as arguments. No condition. -/
namespace Go.Proofs.Ytdpjbefeabokgaa
open Go Go.RowKit Go.ChangeShapes Go.WideShapes Go.Deep
set_option maxRecDepth 100000
section
variable {H : Type} {enc : TypeId × Value → H} {w : World} {spare : Nat → Bool} {held : Bool}
theorem open_ints {r:Reach} {b0:Nat} {v:Value} {d:DataW H} {ps:List MemPlace} (hval:Value.okWide Try.prog w r b0 38 v) (hd:DataW.Trod enc Try.prog w 0 spare held 38 v d ps):
 ∃ao n cap tl,v=.slice ao n cap∧RSl (whole w) 1 ao n cap (intsV tl)∧ ∀q∈tl, -9223372036854775808≤q∧q≤9223372036854775807:=by
 obtain⟨ao',n',cap',rfl⟩:=okWide_slice Try.underlying38 hval
 obtain⟨fuel,hf⟩:=hd
 have hc:Try.prog.cellsOf 3=1:=by kernel_rfl
 obtain⟨ao,n,cap,C,m,e,hr,_,hC⟩:=open_rsl Try.underlying38 (by rw [hc];decide) hf
 rw [hc]at hr
 obtain⟨tl,h1,h2⟩:=each_open (f:=fun q:Int=> [Value.int .i64 q]) (Q:=fun q=> -9223372036854775808≤q∧q≤9223372036854775807) (n:=n) (C:=C) fun i hi=>by
  obtain⟨_,y,hy⟩:=hC i hi
  exact open_iC Try.underlying3 hy
 rw [h1, ←List.map_eq_flatMap]at hr
 exact⟨ao,n,cap,tl,(List.cons.inj e).1,hr,h2⟩
theorem open_bags {r:Reach} {b0:Nat} {v:Value} {d:DataW H} {ps:List MemPlace} (hval:Value.okWide Try.prog w r b0 29 v) (hd:DataW.Trod enc Try.prog w 0 spare held 29 v d ps):
 ∃ao n cap, ∃x:List Value×List (List UInt8),v=.slice ao n cap∧RSl (whole w) 1 ao n cap x.1∧Bags (whole w) x.1 x.2:=by
 obtain⟨ao',n',cap',rfl⟩:=okWide_slice Try.underlying29 hval
 obtain⟨fuel,hf⟩:=hd
 have hc:Try.prog.cellsOf 33=1:=by kernel_rfl
 obtain⟨ao,n,cap,C,m,e,hr,_,hC⟩:=open_rsl Try.underlying29 (by rw [hc];decide) hf
 rw [hc]at hr
 obtain⟨xs,h1,h2⟩:=each_open (f:=fun q:Option Addr×Nat×List UInt8=> [Value.slice q.1 q.2.2.length q.2.1]) (Q:=fun q=>RSl (whole w) 1 q.1 q.2.2.length q.2.1 (u8s q.2.2)) (n:=n) (C:=C) fun i hi=>by
  obtain⟨_,y,hy⟩:=hC i hi
  obtain⟨a,k,c,bs,e1,h1⟩:=open_u8 Try.underlying33 Try.underlying5 (by kernel_rfl) hy
  obtain rfl:=h1.len8
  exact⟨(a,c,bs),e1,h1⟩
 rw [h1, ←List.map_eq_flatMap]at hr
 refine⟨ao,n,cap,(_,xs.map fun q=>q.2.2),(List.cons.inj e).1,hr,⟨by simp,fun i x hx=>?_⟩⟩
 rw [List.getElem?_map]at hx
 obtain⟨q,hq,rfl⟩:=Option.map_eq_some_iff.1 hx
 exact⟨q.1,q.2.1,by show(xs.map _)[i]? =_;rw [List.getElem?_map,hq];rfl,h2 q (List.mem_of_getElem? hq)⟩
end
end Go.Proofs.Ytdpjbefeabokgaa
