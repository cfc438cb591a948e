/- Several texts in one: see the remarks ahead of each part. No condition but those told there. -/
import Derived.Test.YtjfagifjajielaaGreatX1
import Derived.Test.YtjfagifjajielaaGreatX18
import Derived.Test.YtjfagifjajielaaGreatX13
import Derived.Test.YtjfagifjajielaaGreatX15
import Derived.Test.YtjfagifjajielaaGreatX16
import Derived.Test.YtjfagifjajielaaGreatX7
import Derived.Test.YtjfagifjajielaaGreatX5
set_option linter.unusedSimpArgs false
set_option linter.unusedVariables false
namespace Go.Proofs.YtjfagifjajielaaGreat
open Go Go.RowKit
set_option maxRecDepth 100000
def vE (ki:Int) (ch:Nat) (t:It):Except Nat (Nat×Bool):=match wordE t with
 |.error e=>.error e
 |.ok n=>if ki=0∧36<n then (if (n- 35)/2<2^64 then .ok ((n- 35)/2,decide ((n- 35) % 2=1))else .error 3)
  else if ki=0 then (if n=27∨n=28 then .ok (ch,decide (n=28))else .error 3)
  else if n≤1 then .ok (ch,decide (n=1))else .error 3
theorem wl_low {x:Nat} (h:x<2^64):((wl x).getD 0 0).toNat=x:=small_val h
theorem part_put {ps:List (List Value)} {ls:List Nat} {j o:Nat} {u:Value} (hl:ps.map List.length=ls) (hp:ps[j]? =some [u]) (ho:(ls.take j).sum=o) (v:Value):setL ps.flatten o [v]=(ps.set j [v]).flatten:=part_set hl hp ho rfl
theorem le_of_cmp {n:Nat} (h: ¬0<cmpN n (UInt64.toNat 1)):n≤1:=by
 rcases Nat.lt_or_ge 1 n with k|k
 ·exact absurd (by rw [show UInt64.toNat 1=1 from rfl,cmpN_gt k];decide) h
 ·exact k
theorem lt_of_cmp {n k:Nat} (h:0<cmpN n k):k<n:=by
 unfold cmpN at h
 split at h
 ·omega
 ·split at h
  ·assumption
  ·omega
theorem vE_C {ki:Int} {ch n:Nat} {t:It} (he:wordE t=.ok n) (hki:ki≠0) (h:n≤1):vE ki ch t=.ok (ch,decide (n=1)):=by
 simp only [vE,he]
 rw [if_neg (fun k=>hki k.1),if_neg hki,if_pos h]
theorem vE_C3 {ki:Int} {ch n:Nat} {t:It} (he:wordE t=.ok n) (hki:ki≠0) (h:0<cmpN n (UInt64.toNat 1)):vE ki ch t=.error 3:=by
 have h:1<n:=lt_of_cmp h
 simp only [vE,he]
 rw [if_neg (fun k=>hki k.1),if_neg hki,if_neg (by omega)]
theorem sub27 {n m:Nat} (h:(n+WW- UInt64.toNat 27) % WW=m) (hn:n≤36):m<WW∧(m≤1↔n=27∨n=28)∧(m=1↔n=28):=by
 have e:UInt64.toNat 27=27:=rfl
 rw [e]at h
 have hW:1000<WW:=by decide
 have h0:m<WW:=by rw [←h];exact Nat.mod_lt _ (by omega)
 rcases Nat.lt_or_ge n 27 with k|k
 ·rw [Nat.mod_eq_of_lt (by omega)]at h
  omega
 ·rw [show n+WW- 27=(n- 27)+WW by omega,Nat.add_mod_right,Nat.mod_eq_of_lt (by omega)]at h
  omega
theorem vE_B {ki:Int} {ch n:Nat} {t:It} (he:wordE t=.ok n) (hki:ki=0) (h:n≤36) (k:n=27∨n=28):vE ki ch t=.ok (ch,decide (n=28)):=by
 simp only [vE,he]
 rw [if_neg (by omega),if_pos hki,if_pos k]
theorem vE_B3 {ki:Int} {ch n m:Nat} {t:It} (he:wordE t=.ok n) (hki:ki=0) (h36:n≤36) (hm:m≤1↔n=27∨n=28) (h:0<cmpN m (UInt64.toNat 1)):vE ki ch t=.error 3:=by
 have h:1<m:=lt_of_cmp h
 simp only [vE,he]
 rw [if_neg (by omega),if_pos hki,if_neg (fun k=>by have:=hm.2 k;omega)]
theorem sub35 {n:Nat} (h:36<n):wo (n+WW- UInt64.toNat 35)=wo (n- 35):=by
 rw [show UInt64.toNat 35=35 from rfl,show n+WW- 35=(n- 35)+WW by omega]
 exact wo_congr (by rw [Nat.add_mod_right])
theorem odd_is (m:Nat):decide (((UInt64.ofNat (m/2^(64*0))&&&1).toNat:Int)=1)=decide (m % 2=1):=by
 have h:(UInt64.ofNat (m/2^(64*0))&&&1).toNat=m % 2:=by
  rw [UInt64.toNat_and,UInt64.toNat_ofNat',show UInt64.toNat 1=1 from rfl,Nat.and_one_is_mod,Nat.mul_zero,Nat.pow_zero,Nat.div_one]
  omega
 rw [h];exact decide_eq_decide.2 (by omega)
theorem amt1 {m:Nat} :m/2^amt (UInt64.toNat 1)=m/2:=by rw [show amt (UInt64.toNat 1)=1 from rfl,Nat.pow_one]
theorem vE_A3 {ki:Int} {ch n:Nat} {t:It} (he:wordE t=.ok n) (hki:ki=0) (h:36<n) (k: ¬(n- 35)/2<2^64):vE ki ch t=.error 3:=by
 simp only [vE,he]
 rw [if_pos ⟨hki,h⟩,if_neg k]
theorem vE_A {ki:Int} {ch n:Nat} {t:It} (he:wordE t=.ok n) (hki:ki=0) (h:36<n) (k:(n- 35)/2<2^64):vE ki ch t=.ok ((n- 35)/2,decide ((n- 35) % 2=1)):=by
 simp only [vE,he]
 rw [if_pos ⟨hki,h⟩,if_pos k]
section
variable {Np NI Nt : Heaplet} {bp bt n : Nat} {t : It} {ts : List It} {z : IV} {zs : List IV} {ki : Int} {ch nn pr tp ga va bf r s : Nat} {mk od : Bool} {to : List UInt8} {d a b : Value}
set_option maxHeartbeats 2000000 in
theorem FV_C (h:PartsN Np NI bp (z::zs) (t::ts)) (ht:to.length=20) (hki:ki≠0) (B:Blk Nt bt 32 (txP ki ch nn pr tp ga mk to va d a bf b od r s).flatten):
 FnE Tryz.prog 93 #[.pointer (some ⟨bp,0,none⟩),.pointer (some ⟨bt,0,none⟩)] [Np,Nt] [NI] (fun v L=> ∃Np Nt c o,v=.tuple #[]∧L= [Np,Nt]∧vE ki ch t=.ok (c,o)∧PartsN Np NI bp zs ts∧Blk Nt bt 32 (txP ki c nn pr tp ga mk to va d a bf b o r s).flatten) (fun v L=> ∃(e:Nat) (Nt:Heaplet) (cs:List Value),v=gaveV e∧L= [Nt]∧vE ki ch t=.error e∧Blk Nt bt 32 cs∧cs.length=53):=by
 have h1:=FWord_p h
 have hls:=txP_lens (ki:=ki) (ch:=ch) (nn:=nn) (pr:=pr) (tp:=tp) (ga:=ga) (mk:=mk) (va:=va) (d:=d) (a:=a) (bf:=bf) (b:=b) (od:=od) (r:=r) (s:=s) ht
 have hln:=aX (ki:=ki) (ch:=ch) (nn:=nn) (pr:=pr) (tp:=tp) (ga:=ga) (mk:=mk) (va:=va) (d:=d) (a:=a) (bf:=bf) (b:=b) (od:=od) (r:=r) (s:=s) ht
 refine FnE.enter (vs:= [.pointer (some ⟨bp,0,none⟩),.pointer (some ⟨bt,0,none⟩)]) Tryz.func93 U U U ?_
 intro E R hR
 have hNR:=hR NI (by simp)
 have h1:=h1.liftB hNR
 have Bt:=B
 change At _ _ E [Np,Nt,R] _
 refine aC fun _ s_1=>aA (aH U U (bM (.cons U .nil) (h1) (F:= [Nt,R]) Tryz.func88 U U (.refl _) (by simp) U ?_ ?_))
 ·rintro _ _ ⟨e,rfl,rfl,he⟩
  show At _ _ _ [Nt,R] _
  refine aY ((cP (L1:= [Nt]) (.refl _) aJ ?_))
  exact⟨e,Nt,_,rfl,rfl,by simp only [vE,he],Bt,hln⟩
 rintro _ _ ⟨Mp,n,rfl,rfl,he,hn,hp⟩
 show At _ _ _ [Mp,Nt,R] _
 refine bK bU ze26 U (fun N4 b4 B4=>?_)
 change Blk N4 b4 _ [.int .u64 0,.int .u64 0,.int .u64 0,.int .u64 0]at B4
 refine aF cL sz26 U U U U U B4 (by simp) dB (fun N4 B4=>?_)
 rw [bG (by simp)]at B4
 refine aB (s_1 (aC fun _ s_2=>aC fun _ s_3=>aN (aN (aM (aN (At.drawnS [N4,Nt,R] [8] [] [0,1,2,3,4,5,6,7,8,9,10] (by kernel_rfl) (by kernel_rfl) (.cons _ (.refl _)) (aP (cD U U U) U U (aW (cD U U U) U U (aD (cD U U U) fl32_0 U U (aK (cD U U U) sc3 U Bt U mem1 U ?_))))))))))
 refine dF (cD U U U) U U U (aP (cD U U U) U U (cB (d:=14) U (fun g14=>?_) (fun g14=>?_)))
 ·exact absurd g14 hki
 refine bS U U U U U U U U (bS U U U U U U U U (bS U U U U U U U U (bS U U U U U U U U (cE (cD U U U) U U U (At.sNil (aI (s_3 (dA U (aT (aI (s_2 (aC fun _ s_4=>aC fun _ s_5=>aA (aH U U (aW aE U U (aD aE fl32_0 U U (aK aE sc3 U Bt U mem2 U ?_))))))))))))))))
 refine dF aE U U U (aB (s_5 (aQ U (fun c48=>?_) (fun c48=>?_))))
 ·exact absurd c48 hki
 refine cT (d:=48) U c48 (aT (aI (s_4 (aC fun _ s_6=>aC fun _ s_7=>At.drawn [2] [0,1,2,3] (by kernel_rfl) (by kernel_rfl) ?_))))
 refine aV (ds:=u64s (wl n)) (bP U U U (by kernel_rfl)) ag26 U B4 (by first|(rw [List.drop_zero,List.take_of_length_le (by first|(simp;done)|(simp;omega))];done)|rfl) (by first|(simp;done)|(simp;omega)) mem1 U ?_
 refine bD (nxoa U U U) (.cons U .nil) (WOf_f 1) Tryz.func145 U U (by simp) U ?_
 rintro _ _ ⟨rfl,rfl⟩
 show At _ _ _ [Mp,N4,Nt,R] _
 refine bD (nxosa U U U U) (.cons U (.cons U .nil)) (WCmp_f hn (show(1:UInt64).toNat<WW by decide)) Tryz.func144 U U (by simp) U ?_
 rintro _ _ ⟨rfl,rfl⟩
 show At _ _ _ [Mp,N4,Nt,R] _
 refine op_gtr (bP U U U (by kernel_rfl)) U U U (dK (aI (s_7 (aQ U (fun c55=>?_) (fun c55=>?_)))))
 ·refine c4 (d:=55) U c55 (aA (bM (.cons U .nil) (FCheck_e (by decide)) (F:= [Mp,N4,Nt,R]) Tryz.func30 U U (.refl _) (by simp) U ?_ ?_))
  ·rintro _ _ ⟨rfl,rfl⟩
   show At _ _ _ [Mp,N4,Nt,R] _
   refine aY ((bH (cK (cP (L1:= [Nt]) (.refl _) aJ ?_))))
   exact⟨3,Nt,_,rfl,rfl,vE_C3 he hki c55,Bt,hln⟩
  intro _ _ h_;exact h_.elim
 refine cT (d:=55) U c55 (aT (aI (s_6 (aA (aH U U (dD aE ae26 U U (show _=((0:Nat):Int)from U) (by omega) U (aK aE sc24 U B4 (by first|exact get64A (by omega)|rfl) mem1 U ?_)))))))
 refine dF aE U U U (aW aE U U (aD aE fl32_13 U U ?_))
 refine aF cL sz4 U U U U U Bt (by rw [hln];exact show 0+44+1≤53 by decide) sel2 (fun Nt Bt=>?_)
 rw [part_put hls (j:=13) (o:=0+44) rfl rfl]at Bt;change Blk Nt bt 32 (txP ki ch nn pr tp ga mk to va d a bf b (decide (((((wl n).getD 0 0).toNat:Nat):Int)=1)) r s).flatten at Bt
 refine cX (At.norX (bJ (aM (bO (aM (At.retNE (L1:= [Mp,Nt]) U .nil U (.refl _) aJ ?_))))))
 have h1:=le_of_cmp c55
 rw [wl_low (x:=n) (by omega),show decide (((n:Nat):Int)=1)=decide (n=1)from decide_eq_decide.2 (by omega)]at Bt
 exact⟨Mp,Nt,ch,_,rfl,rfl,vE_C he hki h1,hp,Bt⟩
set_option maxHeartbeats 2000000 in
theorem FV_B (h:PartsN Np NI bp (z::zs) (t::ts)) (ht:to.length=20) (hki:ki=0) (hw:wordE t=.ok n) (h36:n≤36) (B:Blk Nt bt 32 (txP ki ch nn pr tp ga mk to va d a bf b od r s).flatten):
 FnE Tryz.prog 93 #[.pointer (some ⟨bp,0,none⟩),.pointer (some ⟨bt,0,none⟩)] [Np,Nt] [NI] (fun v L=> ∃Np Nt c o,v=.tuple #[]∧L= [Np,Nt]∧vE ki ch t=.ok (c,o)∧PartsN Np NI bp zs ts∧Blk Nt bt 32 (txP ki c nn pr tp ga mk to va d a bf b o r s).flatten) (fun v L=> ∃(e:Nat) (Nt:Heaplet) (cs:List Value),v=gaveV e∧L= [Nt]∧vE ki ch t=.error e∧Blk Nt bt 32 cs∧cs.length=53):=by
 have h1:=FWord_p h
 have hls:=txP_lens (ki:=ki) (ch:=ch) (nn:=nn) (pr:=pr) (tp:=tp) (ga:=ga) (mk:=mk) (va:=va) (d:=d) (a:=a) (bf:=bf) (b:=b) (od:=od) (r:=r) (s:=s) ht
 have hln:=aX (ki:=ki) (ch:=ch) (nn:=nn) (pr:=pr) (tp:=tp) (ga:=ga) (mk:=mk) (va:=va) (d:=d) (a:=a) (bf:=bf) (b:=b) (od:=od) (r:=r) (s:=s) ht
 refine FnE.enter (vs:= [.pointer (some ⟨bp,0,none⟩),.pointer (some ⟨bt,0,none⟩)]) Tryz.func93 U U U ?_
 intro E R hR
 have hNR:=hR NI (by simp)
 have h1:=h1.liftB hNR
 have Bt:=B
 change At _ _ E [Np,Nt,R] _
 refine aC fun _ s_1=>aA (aH U U (bM (.cons U .nil) (h1) (F:= [Nt,R]) Tryz.func88 U U (.refl _) (by simp) U ?_ ?_))
 ·rintro _ _ ⟨e,rfl,rfl,he⟩
  show At _ _ _ [Nt,R] _
  refine aY ((cP (L1:= [Nt]) (.refl _) aJ ?_))
  exact⟨e,Nt,_,rfl,rfl,by simp only [vE,he],Bt,hln⟩
 rintro _ _ ⟨Mp,n',rfl,rfl,he,hn,hp⟩
 show At _ _ _ [Mp,Nt,R] _
 obtain rfl:n=n':=Except.ok.inj (hw.symm.trans he)
 refine bK bU ze26 U (fun N4 b4 B4=>?_)
 change Blk N4 b4 _ [.int .u64 0,.int .u64 0,.int .u64 0,.int .u64 0]at B4
 refine aF cL sz26 U U U U U B4 (by simp) dB (fun N4 B4=>?_)
 rw [bG (by simp)]at B4
 refine aB (s_1 (aC fun _ s_2=>aC fun _ s_3=>aN (aN (aM (aN (At.drawnS [N4,Nt,R] [8] [] [0,1,2,3,4,5,6,7,8,9,10] (by kernel_rfl) (by kernel_rfl) (.cons _ (.refl _)) (aP (cD U U U) U U (aW (cD U U U) U U (aD (cD U U U) fl32_0 U U (aK (cD U U U) sc3 U Bt U mem1 U ?_))))))))))
 refine dF (cD U U U) U U U (aP (cD U U U) U U (cB (d:=14) U (fun g14=>?_) (fun g14=>?_)))
 rotate_left
 ·exact absurd hki g14
 refine aV (ds:=u64s (wl n)) (cR U U U U U U) ag26 U B4 (by first|(rw [List.drop_zero,List.take_of_length_le (by first|(simp;done)|(simp;omega))];done)|rfl) (by first|(simp;done)|(simp;omega)) bI U ?_
 refine bD (Nx.agree (nxsgm U U U U U U)) (.cons U .nil) (WOf_f 36) Tryz.func145 U U (by simp) U ?_
 rintro _ _ ⟨rfl,rfl⟩
 show At _ _ _ [Mp,N4,Nt,R] _
 refine At.moreS (Lst:= [N4,Nt,R]) (Lst':= [N4,Nt,R]) (.refl _) (.cons _ (.refl _)) (bD (Nx.agree (nxsgs U U U U U U U)) (.cons U (.cons U .nil)) (WCmp_f hn (show(36:UInt64).toNat<WW by decide)) Tryz.func144 U U (by simp) U ?_)
 rintro _ _ ⟨rfl,rfl⟩
 show At _ _ _ [Mp,N4,Nt,R] _
 refine At.anyS (.refl _) (op_gtr (cR U U U U U U) U U U (cH (cD U U U) U U U (At.sNil (aI (s_3 (aQ U (fun c19=>?_) (fun c19=>?_)))))))
 ·exact absurd (show 36<n from lt_of_cmp c19) (by omega)
 refine cT (d:=19) U c19 (aT (aI (s_2 (aC fun _ s_4=>aC fun _ s_5=>aA (aH U U (aW aE U U (aD aE fl32_0 U U (aK aE sc3 U Bt U mem2 U ?_))))))))
 refine dF aE U U U (aB (s_5 (aQ U (fun c48=>?_) (fun c48=>?_))))
 rotate_left
 ·exact absurd hki c48
 refine c4 (d:=48) U c48 (At.drawn [2,3] [0,1,2,3] (by kernel_rfl) (by kernel_rfl) ?_)
 refine aV (ds:=u64s (wl n)) (bP U U U (by kernel_rfl)) ag26 U B4 (by first|(rw [List.drop_zero,List.take_of_length_le (by first|(simp;done)|(simp;omega))];done)|rfl) (by first|(simp;done)|(simp;omega)) mem1 U ?_
 refine bD (nxoa U U U) (.cons U .nil) (WOf_f 27) Tryz.func145 U U (by simp) U ?_
 rintro _ _ ⟨rfl,rfl⟩
 show At _ _ _ [Mp,N4,Nt,R] _
 refine bD (nxosa U U U U) (.cons U (.cons U .nil)) (WSub_f hn (show(27:UInt64).toNat<WW by decide)) Tryz.func146 U U (by simp) U ?_
 rintro _ _ ⟨rfl,rfl⟩
 show At _ _ _ [Mp,N4,Nt,R] _
 rw [←wo_mod];obtain⟨m,hm⟩: ∃m,(n+WW- UInt64.toNat 27) % WW=m:=⟨_,rfl⟩;rw [hm];have hmW:=sub27 hm h36
 refine aF (nxos U U U U) sz26 U U U U U B4 (by simp) sel1 (fun N4 B4=>?_)
 rw [bG (by simp)]at B4
 refine dK (aI (s_4 (aC fun _ s_6=>aC fun _ s_7=>At.drawn [2] [0,1,2,3] (by kernel_rfl) (by kernel_rfl) ?_)))
 refine aV (ds:=u64s (wl m)) (bP U U U (by kernel_rfl)) ag26 U B4 (by first|(rw [List.drop_zero,List.take_of_length_le (by first|(simp;done)|(simp;omega))];done)|rfl) (by first|(simp;done)|(simp;omega)) bI U ?_
 refine bD (nxoa U U U) (.cons U .nil) (WOf_f 1) Tryz.func145 U U (by simp) U ?_
 rintro _ _ ⟨rfl,rfl⟩
 show At _ _ _ [N4,Mp,Nt,R] _
 refine bD (nxosa U U U U) (.cons U (.cons U .nil)) (WCmp_f hmW.1 (show(1:UInt64).toNat<WW by decide)) Tryz.func144 U U (by simp) U ?_
 rintro _ _ ⟨rfl,rfl⟩
 show At _ _ _ [N4,Mp,Nt,R] _
 refine op_gtr (bP U U U (by kernel_rfl)) U U U (dK (aI (s_7 (aQ U (fun c55=>?_) (fun c55=>?_)))))
 ·refine c4 (d:=55) U c55 (aA (bM (.cons U .nil) (FCheck_e (by decide)) (F:= [N4,Mp,Nt,R]) Tryz.func30 U U (.refl _) (by simp) U ?_ ?_))
  ·rintro _ _ ⟨rfl,rfl⟩
   show At _ _ _ [N4,Mp,Nt,R] _
   refine aY ((bH (cK (cP (L1:= [Nt]) (.refl _) aJ ?_))))
   exact⟨3,Nt,_,rfl,rfl,vE_B3 he hki h36 hmW.2.1 c55,Bt,hln⟩
  intro _ _ h_;exact h_.elim
 refine cT (d:=55) U c55 (aT (aI (s_6 (aA (aH U U (dD aE ae26 U U (show _=((0:Nat):Int)from U) (by omega) U (aK aE sc24 U B4 (by first|exact get64A (by omega)|rfl) bI U ?_)))))))
 refine dF aE U U U (aW aE U U (aD aE fl32_13 U U ?_))
 refine aF cL sz4 U U U U U Bt (by rw [hln];exact show 0+44+1≤53 by decide) sel2 (fun Nt Bt=>?_)
 rw [part_put hls (j:=13) (o:=0+44) rfl rfl]at Bt;change Blk Nt bt 32 (txP ki ch nn pr tp ga mk to va d a bf b (decide (((((wl m).getD 0 0).toNat:Nat):Int)=1)) r s).flatten at Bt
 refine cX (At.norX (bH (aM (bO (aM (At.retNE (L1:= [Mp,Nt]) U .nil U (.refl _) aJ ?_))))))
 have h1:=le_of_cmp c55
 rw [wl_low (x:=m) (by omega),show decide (((m:Nat):Int)=1)=decide (n=28)from decide_eq_decide.2 (by have:=hmW.2.2;omega)]at Bt
 exact⟨Mp,Nt,ch,_,rfl,rfl,vE_B he hki h36 (hmW.2.1.1 h1),hp,Bt⟩
set_option maxHeartbeats 2000000 in
theorem FV_A (h:PartsN Np NI bp (z::zs) (t::ts)) (ht:to.length=20) (hki:ki=0) (hw:wordE t=.ok n) (h36:36<n) (B:Blk Nt bt 32 (txP ki ch nn pr tp ga mk to va d a bf b od r s).flatten):
 FnE Tryz.prog 93 #[.pointer (some ⟨bp,0,none⟩),.pointer (some ⟨bt,0,none⟩)] [Np,Nt] [NI] (fun v L=> ∃Np Nt c o,v=.tuple #[]∧L= [Np,Nt]∧vE ki ch t=.ok (c,o)∧PartsN Np NI bp zs ts∧Blk Nt bt 32 (txP ki c nn pr tp ga mk to va d a bf b o r s).flatten) (fun v L=> ∃(e:Nat) (Nt:Heaplet) (cs:List Value),v=gaveV e∧L= [Nt]∧vE ki ch t=.error e∧Blk Nt bt 32 cs∧cs.length=53):=by
 have h1:=FWord_p h
 have hls:=txP_lens (ki:=ki) (ch:=ch) (nn:=nn) (pr:=pr) (tp:=tp) (ga:=ga) (mk:=mk) (va:=va) (d:=d) (a:=a) (bf:=bf) (b:=b) (od:=od) (r:=r) (s:=s) ht
 have hln:=aX (ki:=ki) (ch:=ch) (nn:=nn) (pr:=pr) (tp:=tp) (ga:=ga) (mk:=mk) (va:=va) (d:=d) (a:=a) (bf:=bf) (b:=b) (od:=od) (r:=r) (s:=s) ht
 have hlsO:=fun(od:Bool)=>txP_lens (ki:=ki) (ch:=ch) (nn:=nn) (pr:=pr) (tp:=tp) (ga:=ga) (mk:=mk) (va:=va) (d:=d) (a:=a) (bf:=bf) (b:=b) (od:=od) (r:=r) (s:=s) ht
 have hlnO:=fun(od:Bool)=>aX (ki:=ki) (ch:=ch) (nn:=nn) (pr:=pr) (tp:=tp) (ga:=ga) (mk:=mk) (va:=va) (d:=d) (a:=a) (bf:=bf) (b:=b) (od:=od) (r:=r) (s:=s) ht
 refine FnE.enter (vs:= [.pointer (some ⟨bp,0,none⟩),.pointer (some ⟨bt,0,none⟩)]) Tryz.func93 U U U ?_
 intro E R hR
 have hNR:=hR NI (by simp)
 have h1:=h1.liftB hNR
 have Bt:=B
 change At _ _ E [Np,Nt,R] _
 refine aC fun _ s_1=>aA (aH U U (bM (.cons U .nil) (h1) (F:= [Nt,R]) Tryz.func88 U U (.refl _) (by simp) U ?_ ?_))
 ·rintro _ _ ⟨e,rfl,rfl,he⟩
  show At _ _ _ [Nt,R] _
  refine aY ((cP (L1:= [Nt]) (.refl _) aJ ?_))
  exact⟨e,Nt,_,rfl,rfl,by simp only [vE,he],Bt,hln⟩
 rintro _ _ ⟨Mp,n',rfl,rfl,he,hn,hp⟩
 show At _ _ _ [Mp,Nt,R] _
 obtain rfl:n=n':=Except.ok.inj (hw.symm.trans he)
 refine bK bU ze26 U (fun N4 b4 B4=>?_)
 change Blk N4 b4 _ [.int .u64 0,.int .u64 0,.int .u64 0,.int .u64 0]at B4
 refine aF cL sz26 U U U U U B4 (by simp) dB (fun N4 B4=>?_)
 rw [bG (by simp)]at B4
 refine aB (s_1 (aC fun _ s_2=>aC fun _ s_3=>aN (aN (aM (aN (At.drawnS [N4,Nt,R] [8] [] [0,1,2,3,4,5,6,7,8,9,10] (by kernel_rfl) (by kernel_rfl) (.cons _ (.refl _)) (aP (cD U U U) U U (aW (cD U U U) U U (aD (cD U U U) fl32_0 U U (aK (cD U U U) sc3 U Bt U mem1 U ?_))))))))))
 refine dF (cD U U U) U U U (aP (cD U U U) U U (cB (d:=14) U (fun g14=>?_) (fun g14=>?_)))
 rotate_left
 ·exact absurd hki g14
 refine aV (ds:=u64s (wl n)) (cR U U U U U U) ag26 U B4 (by first|(rw [List.drop_zero,List.take_of_length_le (by first|(simp;done)|(simp;omega))];done)|rfl) (by first|(simp;done)|(simp;omega)) bI U ?_
 refine bD (Nx.agree (nxsgm U U U U U U)) (.cons U .nil) (WOf_f 36) Tryz.func145 U U (by simp) U ?_
 rintro _ _ ⟨rfl,rfl⟩
 show At _ _ _ [Mp,N4,Nt,R] _
 refine At.moreS (Lst:= [N4,Nt,R]) (Lst':= [N4,Nt,R]) (.refl _) (.cons _ (.refl _)) (bD (Nx.agree (nxsgs U U U U U U U)) (.cons U (.cons U .nil)) (WCmp_f hn (show(36:UInt64).toNat<WW by decide)) Tryz.func144 U U (by simp) U ?_)
 rintro _ _ ⟨rfl,rfl⟩
 show At _ _ _ [Mp,N4,Nt,R] _
 refine At.anyS (.refl _) (op_gtr (cR U U U U U U) U U U (cH (cD U U U) U U U (At.sNil (aI (s_3 (aQ U (fun c19=>?_) (fun c19=>?_)))))))
 rotate_left
 ·exact absurd (show 0<cmpN n (UInt64.toNat 36) by rw [show UInt64.toNat 36=36 from rfl,cmpN_gt h36];decide) c19
 refine c4 (d:=19) U c19 (aC fun _ s_4=>At.drawn [2,3] [0,1,2,3] (by kernel_rfl) (by kernel_rfl) ?_)
 refine aV (ds:=u64s (wl n)) (bP U U U (by kernel_rfl)) ag26 U B4 (by first|(rw [List.drop_zero,List.take_of_length_le (by first|(simp;done)|(simp;omega))];done)|rfl) (by first|(simp;done)|(simp;omega)) mem1 U ?_
 refine bD (nxoa U U U) (.cons U .nil) (WOf_f 35) Tryz.func145 U U (by simp) U ?_
 rintro _ _ ⟨rfl,rfl⟩
 show At _ _ _ [Mp,N4,Nt,R] _
 refine bD (nxosa U U U U) (.cons U (.cons U .nil)) (WSub_f hn (show(35:UInt64).toNat<WW by decide)) Tryz.func146 U U (by simp) U ?_
 rintro _ _ ⟨rfl,rfl⟩
 show At _ _ _ [Mp,N4,Nt,R] _
 rw [sub35 h36];obtain⟨m,hm⟩: ∃m,n- 35=m:=⟨_,rfl⟩;rw [hm];have hmW:m<WW:=by omega
 refine aF (nxos U U U U) sz26 U U U U U B4 (by simp) sel1 (fun N4 B4=>?_)
 rw [bG (by simp)]at B4
 refine dK (aI (s_4 (aC fun _ s_5=>aA (aH U U (dD aE ae26 U U (show _=((0:Nat):Int)from U) (by omega) U (aK aE sc24 U B4 (by first|exact get64A (by omega)|rfl) bI U ?_))))))
 refine op_andU (b:=1) aE U U U (dF aE U U U (aW aE U U (aD aE fl32_13 U U ?_)))
 refine aF cL sz4 U U U U U Bt (by rw [hln];exact show 0+44+1≤53 by decide) sel2 (fun Nt Bt=>?_)
 rw [part_put hls (j:=13) (o:=0+44) rfl rfl]at Bt;change Blk Nt bt 32 (txP ki ch nn pr tp ga mk to va d a bf b (decide (_=_)) r s).flatten at Bt
 refine aB (s_5 (aC fun _ s_6=>At.drawn [2,3] [1,0,2,3,4,5,6,7,8] (by kernel_rfl) (by kernel_rfl) ?_))
 refine aV (ds:=u64s (wl m)) (bP U U U (by kernel_rfl)) ag26 U B4 (by first|(rw [List.drop_zero,List.take_of_length_le (by first|(simp;done)|(simp;omega))];done)|rfl) (by first|(simp;done)|(simp;omega)) mem1 U ?_
 refine bD (nxoa U U U) (.cons U .nil) (WOf_f 1) Tryz.func145 U U (by simp) U ?_
 rintro _ _ ⟨rfl,rfl⟩
 show At _ _ _ [Nt,N4,Mp,R] _
 refine bD (nxosa U U U U) (.cons U (.cons U .nil)) (WShr_f (show(1:UInt64).toNat<WW by decide) hmW) Tryz.func147 U U (by simp) U ?_
 rintro _ _ ⟨rfl,rfl⟩
 show At _ _ _ [Nt,N4,Mp,R] _
 refine bD (nxosa U U U U) (.cons U .nil) (WSmall_b (Nat.lt_of_le_of_lt (Nat.div_le_self _ _) hmW)) Tryz.func108 U U (by simp) U ?_
 rintro _ _ ⟨rfl,rfl⟩
 show At _ _ _ [Nt,N4,Mp,R] _
 refine aP (bP U U U (by kernel_rfl)) U U (aO (bP U U U (by kernel_rfl)) U U U (aO (bP U U U (by kernel_rfl)) U U U (cJ (bP U U U (by kernel_rfl)) U U (cJ (bP U U U (by kernel_rfl)) U U (dK (aI (s_6 (aC fun _ s_7=>aC fun _ s_8=>aA (aH U U (op_notP aE U U (aB (s_8 (aQ U (fun c38=>?_) (fun c38=>?_))))))))))))))
 ·refine c4 (d:=38) U c38 (aA (bM (.cons U .nil) (FCheck_e (by decide)) (F:= [Nt,N4,Mp,R]) Tryz.func30 U U (.refl _) (by simp) U ?_ ?_))
  ·rintro _ _ ⟨rfl,rfl⟩
   show At _ _ _ [Nt,N4,Mp,R] _
   refine aY (aY ((bJ (bH (cP (L1:= [Nt]) (.refl _) aJ ?_)))))
   rw [amt1, ←hm]at c38
   exact⟨3,Nt,_,rfl,rfl,vE_A3 he hki h36 c38,Bt,hlnO _⟩
  intro _ _ h_;exact h_.elim
 refine cT (d:=38) U c38 (aT (aI (s_7 (aC fun _ s_9=>aA (aH U U (aH U U (aW aE U U (aD aE fl32_1 U U ?_))))))))
 refine aF cL sz24 U U U U U Bt (by rw [hlnO];exact show 0+1+1≤53 by decide) dB (fun Nt Bt=>?_)
 rw [part_put (hlsO _) (j:=1) (o:=0+1) rfl rfl]at Bt;change Blk Nt bt 32 (txP ki _ nn pr tp ga mk to va d a bf b (decide (_=_)) r s).flatten at Bt
 refine aB (s_9 (a0 (aS ((At.retX (bH (aM (bO (aM (bE (L1:= [Mp,Nt]) U .nil U (.refl _) aJ ?_))))))))))
 have k:=Decidable.not_not.1 c38
 rw [amt1]at k
 rw [amt1,if_pos k]at Bt
 have e:=odd_is m
 subst hm
 exact⟨Mp,Nt,(n- 35)/2,_,rfl,rfl,vE_A he hki h36 k,hp,e▸Bt⟩
theorem FV_E (h:PartsN Np NI bp (z::zs) (t::ts)) (ht:to.length=20) {e0:Nat} (hw:wordE t=.error e0) (B:Blk Nt bt 32 (txP ki ch nn pr tp ga mk to va d a bf b od r s).flatten):
 FnE Tryz.prog 93 #[.pointer (some ⟨bp,0,none⟩),.pointer (some ⟨bt,0,none⟩)] [Np,Nt] [NI] (fun v L=> ∃Np Nt c o,v=.tuple #[]∧L= [Np,Nt]∧vE ki ch t=.ok (c,o)∧PartsN Np NI bp zs ts∧Blk Nt bt 32 (txP ki c nn pr tp ga mk to va d a bf b o r s).flatten) (fun v L=> ∃(e:Nat) (Nt:Heaplet) (cs:List Value),v=gaveV e∧L= [Nt]∧vE ki ch t=.error e∧Blk Nt bt 32 cs∧cs.length=53):=by
 have hln:=aX (ki:=ki) (ch:=ch) (nn:=nn) (pr:=pr) (tp:=tp) (ga:=ga) (mk:=mk) (va:=va) (d:=d) (a:=a) (bf:=bf) (b:=b) (od:=od) (r:=r) (s:=s) ht
 have h1:FnE Tryz.prog 88 #[.pointer (some ⟨bp,0,none⟩)] [Np] [NI] (fun _ _=>False) (fun v L=> ∃e:Nat,v=gaveV e∧L= []∧wordE t=.error e):=(FWord_p h).mono (fun v L ⟨_,_,_,_,he,_⟩=>by rw [hw]at he;cases he) (fun _ _ hp=>hp)
 refine FnE.enter (vs:= [.pointer (some ⟨bp,0,none⟩),.pointer (some ⟨bt,0,none⟩)]) Tryz.func93 U U U ?_
 intro E R hR
 have h1:=h1.liftB (hR NI (by simp))
 have Bt:=B
 change At _ _ E [Np,Nt,R] _
 refine aC fun _ s_1=>aA (aH U U (bM (.cons U .nil) (h1) (F:= [Nt,R]) Tryz.func88 U U (.refl _) (by simp) U ?_ ?_))
 ·rintro _ _ ⟨e,rfl,rfl,he⟩
  show At _ _ _ [Nt,R] _
  refine aY ((cP (L1:= [Nt]) (.refl _) aJ ?_))
  exact⟨e,Nt,_,rfl,rfl,by simp only [vE,he],Bt,hln⟩
 intro _ _ h_;exact h_.elim
theorem FV_p (h:PartsN Np NI bp (z::zs) (t::ts)) (ht:to.length=20) (B:Blk Nt bt 32 (txP ki ch nn pr tp ga mk to va d a bf b od r s).flatten):
 FnE Tryz.prog 93 #[.pointer (some ⟨bp,0,none⟩),.pointer (some ⟨bt,0,none⟩)] [Np,Nt] [NI] (fun v L=> ∃Np Nt c o,v=.tuple #[]∧L= [Np,Nt]∧vE ki ch t=.ok (c,o)∧PartsN Np NI bp zs ts∧Blk Nt bt 32 (txP ki c nn pr tp ga mk to va d a bf b o r s).flatten) (fun v L=> ∃(e:Nat) (Nt:Heaplet) (cs:List Value),v=gaveV e∧L= [Nt]∧vE ki ch t=.error e∧Blk Nt bt 32 cs∧cs.length=53):=by
 by_cases hki:ki=0
 ·cases hw:wordE t with
  |error e=>exact FV_E h ht hw B
  |ok n=>
   rcases Nat.lt_or_ge 36 n with k|k
   ·exact FV_A h ht hki hw k B
   ·exact FV_B h ht hki hw k B
 ·exact FV_C h ht hki B
end
structure TxM where
 ki:Int
 ch:Nat
 nn:Nat
 pr:Nat
 tp:Nat
 ga:Nat
 ma:Bool
 to:List UInt8
 va:Nat
 da:List UInt8
 ac:List AccM
 bf:Nat
 bb:List (List UInt8)
 od:Bool
 r:Nat
 s:Nat
def TxM.cells (m:TxM) (d a b:Value):List Value:=(txP m.ki m.ch m.nn m.pr m.tp m.ga m.ma m.to m.va d a m.bf b m.od m.r m.s).flatten
structure TxM.Ok (m:TxM):Prop where
 ch:m.ch<2^64
 nn:m.nn<2^64
 pr:m.pr<WW
 tp:m.tp<WW
 ga:m.ga<2^64
 to:m.to.length=20
 va:m.va<WW
 bf:m.bf<WW
 bb: ∀h∈m.bb,h.length=32
 r:m.r<WW
 s:m.s<WW
def TxM.zero:TxM:=⟨0,0,0,0,0,0,false,zero20,0,[],[],0,[],false,0,0⟩
def eb {α β:Type} (x:Except Nat α) (f:α→Except Nat β):Except Nat β:=match x with
 |.ok a=>f a
 |.error e=>.error e
def tx0:List It→Except Nat TxM
 | [n,p,g,t,v,d,w,r,s]=>
  eb (smallE n) fun nn=>eb (wordE p) fun pr=>eb (smallE g) fun ga=>eb (toE 0 t) fun mt=>eb (wordE v) fun va=>eb (strE d) fun da=>eb (vE 0 0 w) fun co=>eb (wordE r) fun r=>eb (wordE s) fun s=>
  .ok ⟨0,co.1,nn,pr,0,ga,mt.1,mt.2,va,da,[],0,[],co.2,r,s⟩
 |_=>.error 2
def tx1:List It→Except Nat TxM
 | [c,n,p,g,t,v,d,a,w,r,s]=>
  eb (smallE c) fun ch=>eb (smallE n) fun nn=>eb (wordE p) fun pr=>eb (smallE g) fun ga=>eb (toE 1 t) fun mt=>eb (wordE v) fun va=>eb (strE d) fun da=>eb (accessE a) fun ac=>eb (vE 1 ch w) fun co=>eb (wordE r) fun r=>eb (wordE s) fun s=>
  .ok ⟨1,co.1,nn,pr,0,ga,mt.1,mt.2,va,da,ac,0,[],co.2,r,s⟩
 |_=>.error 2
def tx2:List It→Except Nat TxM
 | [c,n,u,p,g,t,v,d,a,w,r,s]=>
  eb (smallE c) fun ch=>eb (smallE n) fun nn=>eb (wordE u) fun tp=>eb (wordE p) fun pr=>eb (smallE g) fun ga=>eb (toE 2 t) fun mt=>eb (wordE v) fun va=>eb (strE d) fun da=>eb (accessE a) fun ac=>eb (vE 2 ch w) fun co=>eb (wordE r) fun r=>eb (wordE s) fun s=>
  .ok ⟨2,co.1,nn,pr,tp,ga,mt.1,mt.2,va,da,ac,0,[],co.2,r,s⟩
 |_=>.error 2
def tx3:List It→Except Nat TxM
 | [c,n,u,p,g,t,v,d,a,f,b,w,r,s]=>
  eb (smallE c) fun ch=>eb (smallE n) fun nn=>eb (wordE u) fun tp=>eb (wordE p) fun pr=>eb (smallE g) fun ga=>eb (toE 3 t) fun mt=>eb (wordE v) fun va=>eb (strE d) fun da=>eb (accessE a) fun ac=>eb (wordE f) fun bf=>eb (hashesE b) fun bb=>eb (vE 3 ch w) fun co=>eb (wordE r) fun r=>eb (wordE s) fun s=>
  .ok ⟨3,co.1,nn,pr,tp,ga,mt.1,mt.2,va,da,ac,bf,bb,co.2,r,s⟩
 |_=>.error 2
structure HdM where
 fi:Int
 pa:List UInt8
 om:List UInt8
 co:List UInt8
 st:List UInt8
 tx:List UInt8
 rc:List UInt8
 bl:List UInt8
 df:Nat
 nu:UInt64
 gl:UInt64
 gu:UInt64
 ti:UInt64
 ex:List UInt8
 mx:List UInt8
 no:List UInt8
 bf:Nat
 wd:List UInt8
 bg:UInt64
 xs:UInt64
 be:List UInt8
structure HdM.Ok (h:HdM):Prop where
 pa:h.pa.length=32
 om:h.om.length=32
 co:h.co.length=20
 st:h.st.length=32
 tx:h.tx.length=32
 rc:h.rc.length=32
 bl:h.bl.length=256
 df:h.df<WW
 mx:h.mx.length=32
 no:h.no.length=8
 bf:h.bf<WW
 wd:h.wd.length=32
 be:h.be.length=32
def c64 (u:UInt64):Value:=.int .u64 (u.toNat:Int)
def HdM.parts (h:HdM) (v:Value):List (List Value):= [[.int .i64 h.fi],u8s h.pa,u8s h.om,u8s h.co,u8s h.st,u8s h.tx,u8s h.rc,u8s h.bl,u64s (wl h.df),[c64 h.nu],[c64 h.gl],[c64 h.gu],[c64 h.ti],[v],u8s h.mx,u8s h.no,u64s (wl h.bf),u8s h.wd,[c64 h.bg],[c64 h.xs],u8s h.be]
def hdLens:List Nat:= [1,32,32,20,32,32,32,256,4,1,1,1,1,1,32,8,4,32,1,1,32]
def HdM.cells (h:HdM) (v:Value):List Value:=(h.parts v).flatten
theorem HdM.lens {h:HdM} (k:h.Ok) (v:Value):(h.parts v).map List.length=hdLens:=by
 simp only [HdM.parts,List.map_cons,List.map_nil,bL,u64s_len,length_wl,k.pa,k.om,k.co,k.st,k.tx,k.rc,k.bl,k.mx,k.no,k.wd,k.be]
 rfl
theorem HdM.len {h:HdM} (k:h.Ok) (v:Value):(h.cells v).length=556:=by
 rw [HdM.cells,flatten_len,HdM.lens k];rfl
theorem HdM.one {h:HdM} {v:Value} (hv:v.oneCell'=true):(h.cells v).all (·.oneCell')=true:=by
 refine part_all fun p hp u hu=>?_
 simp only [HdM.parts,List.mem_cons,List.not_mem_nil,or_false]at hp
 rcases hp with rfl|rfl|rfl|rfl|rfl|rfl|rfl|rfl|rfl|rfl|rfl|rfl|rfl|rfl|rfl|rfl|rfl|rfl|rfl|rfl|rfl
 all_goals first
  |exact one_u8s _ u hu
  |exact one_u64s _ u hu
  |(obtain rfl:=List.mem_singleton.1 hu;first|exact hv|rfl)
def HdM.items (h:HdM):List It:= [itS h.pa,itS h.om,itS h.co,itS h.st,itS h.tx,itS h.rc,itS h.bl,itS (bytesOf h.df),itS (bytesOf h.nu.toNat),itS (bytesOf h.gl.toNat),itS (bytesOf h.gu.toNat),itS (bytesOf h.ti.toNat),itS h.ex,itS h.mx,itS h.no,itS (bytesOf h.bf),itS h.wd,itS (bytesOf h.bg.toNat),itS (bytesOf h.xs.toNat),itS h.be]
def HdM.it (h:HdM):It:=itL (h.items.take h.fi.toNat)
def okF (n:Int):Prop:=n=15∨n=16∨n=17∨n=20
instance (n:Int):Decidable (okF n):=by unfold okF;infer_instance
section
variable {N : Heaplet} {h : HdM} {ao : Option Addr} {n cap : Nat}
def HdM.bss (h:HdM):List (List UInt8):= [h.pa,h.om,h.co,h.st,h.tx,h.rc,h.bl,bytesOf h.df,bytesOf h.nu.toNat,bytesOf h.gl.toNat,bytesOf h.gu.toNat,bytesOf h.ti.toNat,h.ex,h.mx,h.no,bytesOf h.bf,h.wd,bytesOf h.bg.toNat,bytesOf h.xs.toNat,h.be]
end
def n64E (t:It):Except Nat UInt64:=eb (smallE t) fun x=>.ok (UInt64.ofNat x)
def zeros8 (k:Nat):List UInt8:=List.replicate k 0
def HdM.zero (fi:Int):HdM:=⟨fi,zeros8 32,zeros8 32,zeros8 20,zeros8 32,zeros8 32,zeros8 32,zeros8 256,0,0,0,0,0,[],zeros8 32,zeros8 8,0,zeros8 32,0,0,zeros8 32⟩
def hdR3 (h:HdM):List It→Except Nat HdM
 | []=>.ok h
 | [g,x,e]=>eb (n64E g) fun g=>eb (n64E x) fun x=>eb (fixE 32 e) fun e=>.ok { h with bg:=g,xs:=x,be:=e }
 |_=>.error 2
def hdR2 (h:HdM):List It→Except Nat HdM
 | []=>.ok h
 |w::r=>eb (fixE 32 w) fun w=>hdR3 { h with wd:=w } r
def hdR (h:HdM):List It→Except Nat HdM
 | []=>.ok h
 |b::r=>eb (wordE b) fun b=>hdR2 { h with bf:=b } r
def hdA:List It→Except Nat HdM
 |pa::om::co::st::tx::rc::bl::df::nu::gl::gu::ti::ex::mx::no::r=>
  eb (fixE 32 pa) fun pa=>eb (fixE 32 om) fun om=>eb (fixE 20 co) fun co=>eb (fixE 32 st) fun st=>eb (fixE 32 tx) fun tx=>eb (fixE 32 rc) fun rc=>eb (fixE 256 bl) fun bl=>eb (wordE df) fun df=>eb (n64E nu) fun nu=>eb (n64E gl) fun gl=>eb (n64E gu) fun gu=>eb (n64E ti) fun ti=>eb (strE ex) fun ex=>eb (fixE 32 mx) fun mx=>eb (fixE 8 no) fun no=>
  hdR ⟨((15+r.length:Nat):Int),pa,om,co,st,tx,rc,bl,df,nu,gl,gu,ti,ex,mx,no,0,zeros8 32,0,0,zeros8 32⟩ r
 |_=>.error 2
def hdE (t:It):Except Nat HdM:=eb (listE t) fun its=>if its.length∈ [15,16,17,20]then hdA its else .error 2
def rawE:It→Except Nat (List UInt8)
 |.mk false bs _=>if 0<bs.length∧1≤(bs.getD 0 0).toNat∧(bs.getD 0 0).toNat≤3 then .ok bs else .error 2
 |.mk true bs its=>if (It.mk true bs its).depth≤1024 then .ok (It.mk true bs its).form else .error 7
structure WdM where
 ix:UInt64
 va:UInt64
 ad:List UInt8
 am:UInt64
def wdA:List It→Except Nat WdM
 | [i,v,a,m]=>eb (n64E i) fun i=>eb (n64E v) fun v=>eb (fixE 20 a) fun a=>eb (n64E m) fun m=>.ok ⟨i,v,a,m⟩
 |_=>.error 2
def wdE (t:It):Except Nat WdM:=eb (listE t) wdA
structure BlkM where
 hd:HdM
 txs:List (List UInt8)
 oms:List HdM
 paid:Bool
 wds:List WdM
def blockR (m:BlkM):List It→Except Nat BlkM
 | []=>.ok m
 |w::_=>eb (eachE wdE w) fun w=>.ok { m with paid:=true,wds:=w }
def blockA:List It→Except Nat BlkM
 |h::t::o::r=>eb (hdE h) fun h=>eb (eachE rawE t) fun t=>eb (eachE hdE o) fun o=>blockR ⟨h,t,o,false,[]⟩ r
 |_=>.error 2
def blockE (t:It):Except Nat BlkM:=eb (listE t) fun its=>if its.length∈ [3,4]then blockA its else .error 2
theorem ofNat8 {n:Nat} (h:n<256):(UInt8.ofNat n).toNat=n:=by rw [UInt8.toNat_ofNat'];exact Nat.mod_eq_of_lt h
theorem bytesOf_ne {n:Nat} (h:n≠0): ∃x t,bytesOf n=x::t∧x.toNat≠0:=by
 have h1:=head_bytesOf n
 cases hb:bytesOf n with
 |nil=>
  have e:=be_bytesOf n
  rw [hb,be_nil]at e
  exact absurd e.symm h
 |cons x t=>
  rw [hb]at h1
  exact⟨x,t,rfl,fun e=>h1 (by simp only [List.head?_cons,Option.some.injEq];rw [←UInt8.toNat_inj];exact e)⟩
theorem cut_head {base:Nat} {p rest:List UInt8} (hb:base=128∨base=192) (hn:p.length<2^64) (hs:base=128→small p=false):
 cutF (rlpHead base p.length++(p++rest))=some (decide (base=192),p,rest):=by
 by_cases h55:p.length≤55
 ·have hx:=ofNat8 (n:=base+p.length) (by omega)
  have e:rlpHead base p.length++(p++rest)=UInt8.ofNat (base+p.length)::(p++rest):=by rw [rlpHead,if_pos h55,List.singleton_append]
  rw [e]
  generalize hxx:UInt8.ofNat (base+p.length)=x at hx
  have hd:hdr (x::(p++rest))=p.length:=by
   show(x.toNat- 128) % 64=p.length
   rw [hx];omega
  have h0:((x::(p++rest)).getD 0 0).toNat=base+p.length:=hx
  rw [cutF,if_neg (by simp),if_neg (by rw [h0];omega),if_pos (by rw [hd];exact h55),hd,cutAt,if_neg (by simp<;>omega)]
  have e1:((x::(p++rest)).drop 1).take p.length=p:=by simp
  have e2:(x::(p++rest)).drop (1+p.length)=rest:=by rw [Nat.add_comm,List.drop_succ_cons];simp
  rw [e1,e2,h0]
  rcases hb with rfl|rfl
  ·rw [if_neg (by omega),if_neg]
   ·rfl
   ·intro⟨h1,h2⟩
    have:=hs rfl
    rw [←Bool.not_eq_true,small_iffI]at this
    apply this
    refine⟨h1,?_⟩
    match p,h1 with
    | [y],_=>exact h2
  ·rw [if_pos (by omega)];rfl
 ·obtain⟨y,t,hB,hy⟩:=bytesOf_ne (n:=p.length) (by omega)
  have hk:=byteLen8 hn
  have hbe:=be_bytesOf p.length
  have e:rlpHead base p.length++(p++rest)=UInt8.ofNat (base+55+(bytesOf p.length).length)::(bytesOf p.length++(p++rest)):=by rw [rlpHead,if_neg h55];rfl
  rw [e]
  generalize hBB:bytesOf p.length=B at*
  have hk1:1≤B.length:=by rw [hB];simp
  have hx:=ofNat8 (n:=base+55+B.length) (by omega)
  generalize hxx:UInt8.ofNat (base+55+B.length)=x at hx
  have hd:hdr (x::(B++(p++rest)))=55+B.length:=by
   show(x.toNat- 128) % 64=55+B.length
   rw [hx];omega
  have h0:((x::(B++(p++rest))).getD 0 0).toNat=base+55+B.length:=hx
  have h1:((x::(B++(p++rest))).getD 1 0).toNat≠0:=by rw [hB];exact hy
  have hl:lng (x::(B++(p++rest)))=p.length:=by
   rw [lng,hd,show 55+B.length- 54- 1=B.length by omega]
   have:((x::(B++(p++rest))).drop 1).take B.length=B:=by simp
   rw [this,hbe]
  rw [cutF,if_neg (by simp),if_neg (by rw [h0];omega),if_neg (by rw [hd];omega),if_neg (by rw [hd];intro h;rcases h with h|h;(simp at h;omega);exact h1 h),if_neg (by rw [hl];simp;omega),hl,hd,cutAt,if_neg (by simp<;>omega),h0]
  have e1:((x::(B++(p++rest))).drop (55+B.length- 54)).take p.length=p:=by
   rw [show 55+B.length- 54=B.length+1 by omega,List.drop_succ_cons];simp
  have e2:(x::(B++(p++rest))).drop (55+B.length- 54+p.length)=rest:=by
   rw [show 55+B.length- 54+p.length=(B.length+p.length)+1 by omega,List.drop_succ_cons, ←List.drop_drop];simp
  rw [e1,e2]
  rcases hb with rfl|rfl
  ·rw [if_neg (by omega),if_neg (by omega)];rfl
  ·rw [if_pos (by omega)];rfl
theorem cut_small {x:UInt8} {rest:List UInt8} (h:x.toNat<128):cutF (x::rest)=some (false,[x],rest):=by
 rw [cutF,if_neg (by simp),if_pos (by exact h)];rfl
mutual
def It.plain:It→It
 |.mk false bs _=>.mk false bs []
 |.mk true _ its=>.mk true [] (It.plains its)
def It.plains:List It→List It
 | []=> []
 |t::ts=>It.plain t::It.plains ts
end
theorem form_pos (t:It):0<t.form.length:=by
 obtain⟨l,bs,its⟩:=t
 cases l with
 |false=>
  rw [form_false]
  split
  ·rename_i h
   have:=(small_iffI.1 h).1
   omega
  ·rw [List.length_append]
   have:0<(rlpHead 128 bs.length).length:=by unfold rlpHead;split<;>simp
   omega
 |true=>
  rw [form_true,List.length_append]
  have:0<(rlpHead 192 (It.forms its).length).length:=by unfold rlpHead;split<;>simp
  omega
theorem cut_text {bs:List UInt8} {its:List It} {rest:List UInt8} (h:(It.mk false bs its).form.length<2^64):cutF ((It.mk false bs its).form++rest)=some (false,bs,rest):=by
 rw [form_false]at h⊢
 split at h
 ·rename_i hsm
  rw [if_pos hsm]
  obtain⟨h1,h2⟩:=small_iffI.1 hsm
  match bs,h1 with
  | [x],_=>exact cut_small h2
 ·rename_i hsm
  rw [if_neg hsm,List.append_assoc]
  rw [List.length_append]at h
  rw [cut_head (.inl rfl) (by omega) (fun _=>by simpa using hsm)]
  rfl
theorem cut_list {bs:List UInt8} {its:List It} {rest:List UInt8} (h:(It.mk true bs its).form.length<2^64):cutF ((It.mk true bs its).form++rest)=some (true,It.forms its,rest):=by
 rw [form_true]at h⊢
 rw [List.length_append]at h
 rw [List.append_assoc,cut_head (.inr rfl) (by omega) (fun h=>absurd h (by decide))]
 rfl
mutual
theorem dec_form: ∀(t:It) (k:Nat) (rest:List UInt8),t.form.length<2^64→t.depth≤k→decF k (t.form++rest)=.ok (t.plain,rest)
 |.mk false bs its,k,rest,h,hd=>by
  cases k<;>simp [decF,cut_text h,It.plain]
 |.mk true bs its,k,rest,h,hd=>by
  simp only [It.depth]at hd
  obtain⟨k,rfl⟩: ∃j,k=j+1:=⟨k- 1,by omega⟩
  have hl:(It.forms its).length<2^64:=by rw [form_true,List.length_append]at h;omega
  simp only [decF,cut_list h,It.plain]
  rw [itF,dec_forms its k _ hl (by omega) (Nat.le_refl _)]
theorem dec_forms: ∀(ts:List It) (k f:Nat),(It.forms ts).length<2^64→It.depths ts≤k→(It.forms ts).length≤f→itemsF (decF k) f (It.forms ts)=.ok (It.plains ts)
 | [],k,f,_,_,_=>by cases f<;>simp [It.forms,itemsF,It.plains]
 |t::ts,k,f,h,hd,hf=>by
  have hp:=form_pos t
  simp only [It.forms,List.length_append]at h hf⊢
  simp only [It.depths]at hd
  have e:=dec_form t k (It.forms ts) (by omega) (by omega)
  obtain⟨f,rfl⟩: ∃j,f=j+1:=⟨f- 1,by omega⟩
  have e2:=dec_forms ts k f (by omega) (by omega) (by omega)
  cases hc:t.form++It.forms ts with
  |nil=>
   have:=congrArg List.length hc
   simp at this
   rw [this.1]at hp
   simp at hp
  |cons c b=>
   rw [itemsF, ←hc,e]
   simp only [e2,exMap,It.plains]
end
open Go Go.RowKit
set_option maxRecDepth 100000
section
variable {ki : Int} {ch nn pr tp ga va bf r s x : Nat} {mk od : Bool} {to : List UInt8} {d a b v : Value}
theorem tx_ch (ht:to.length=20):setL (txP ki ch nn pr tp ga mk to va d a bf b od r s).flatten (0+1) [.int .u64 (x:Int)]=(txP ki x nn pr tp ga mk to va d a bf b od r s).flatten:=part_put (txP_lens ht) (j:=1) rfl rfl _
theorem tx_nn (ht:to.length=20):setL (txP ki ch nn pr tp ga mk to va d a bf b od r s).flatten (0+2) [.int .u64 (x:Int)]=(txP ki ch x pr tp ga mk to va d a bf b od r s).flatten:=part_put (txP_lens ht) (j:=2) rfl rfl _
theorem tx_ga (ht:to.length=20):setL (txP ki ch nn pr tp ga mk to va d a bf b od r s).flatten (0+11) [.int .u64 (x:Int)]=(txP ki ch nn pr tp x mk to va d a bf b od r s).flatten:=part_put (txP_lens ht) (j:=5) rfl rfl _
theorem tx_d (ht:to.length=20):setL (txP ki ch nn pr tp ga mk to va d a bf b od r s).flatten (0+37) [v]=(txP ki ch nn pr tp ga mk to va v a bf b od r s).flatten:=part_put (txP_lens ht) (j:=9) rfl rfl _
theorem tx_a (ht:to.length=20):setL (txP ki ch nn pr tp ga mk to va d a bf b od r s).flatten (0+38) [v]=(txP ki ch nn pr tp ga mk to va d v bf b od r s).flatten:=part_put (txP_lens ht) (j:=10) rfl rfl _
theorem tx_b (ht:to.length=20):setL (txP ki ch nn pr tp ga mk to va d a bf b od r s).flatten (0+43) [v]=(txP ki ch nn pr tp ga mk to va d a bf v od r s).flatten:=part_put (txP_lens ht) (j:=12) rfl rfl _
theorem tx_pr (ht:to.length=20):setL (txP ki ch nn pr tp ga mk to va d a bf b od r s).flatten (0+3) (u64s (wl x))=(txP ki ch nn x tp ga mk to va d a bf b od r s).flatten:=part_set (txP_lens ht) (j:=3) (q:=u64s (wl x)) rfl rfl (by simp only [u64s_len,length_wl])
theorem tx_tp (ht:to.length=20):setL (txP ki ch nn pr tp ga mk to va d a bf b od r s).flatten (0+7) (u64s (wl x))=(txP ki ch nn pr x ga mk to va d a bf b od r s).flatten:=part_set (txP_lens ht) (j:=4) (q:=u64s (wl x)) rfl rfl (by simp only [u64s_len,length_wl])
theorem tx_va (ht:to.length=20):setL (txP ki ch nn pr tp ga mk to va d a bf b od r s).flatten (0+33) (u64s (wl x))=(txP ki ch nn pr tp ga mk to x d a bf b od r s).flatten:=part_set (txP_lens ht) (j:=8) (q:=u64s (wl x)) rfl rfl (by simp only [u64s_len,length_wl])
theorem tx_bf (ht:to.length=20):setL (txP ki ch nn pr tp ga mk to va d a bf b od r s).flatten (0+39) (u64s (wl x))=(txP ki ch nn pr tp ga mk to va d a x b od r s).flatten:=part_set (txP_lens ht) (j:=11) (q:=u64s (wl x)) rfl rfl (by simp only [u64s_len,length_wl])
theorem tx_r (ht:to.length=20):setL (txP ki ch nn pr tp ga mk to va d a bf b od r s).flatten (0+45) (u64s (wl x))=(txP ki ch nn pr tp ga mk to va d a bf b od x s).flatten:=part_set (txP_lens ht) (j:=14) (q:=u64s (wl x)) rfl rfl (by simp only [u64s_len,length_wl])
theorem tx_s (ht:to.length=20):setL (txP ki ch nn pr tp ga mk to va d a bf b od r s).flatten (0+49) (u64s (wl x))=(txP ki ch nn pr tp ga mk to va d a bf b od r x).flatten:=part_set (txP_lens ht) (j:=15) (q:=u64s (wl x)) rfl rfl (by simp only [u64s_len,length_wl])
end
theorem list_le (its:List It):its.length≤(It.forms its).length:=by
 induction its with
 |nil=>exact Nat.zero_le _
 |cons t ts ih=>
  rw [forms_cons,List.length_append,List.length_cons]
  have:=form_pos t
  omega
theorem mem_le {its:List It} {y:It} (h:y∈its):y.form.length≤(It.forms its).length:=by
 induction its with
 |nil=>cases h
 |cons t ts ih=>
  rw [forms_cons,List.length_append]
  rcases List.mem_cons.1 h with rfl|h
  ·omega
  ·have:=ih h;omega
theorem listE_le {t:It} {its:List It} (h:listE t=.ok its):(It.forms its).length≤t.form.length:=by
 obtain⟨l,bs,is⟩:=t
 cases l with
 |false=>cases h
 |true=>
  obtain rfl:is=its:=Except.ok.inj h
  simp only [It.form,List.length_append];omega
theorem len_le {t:It} {its:List It} {B:Nat} (hb:t.form.length≤B) (h:listE t=.ok its):its.length≤B:=
 Nat.le_trans (Nat.le_trans (list_le its) (listE_le h)) hb
theorem el_le {t y:It} {its:List It} {B:Nat} (hb:t.form.length≤B) (h:listE t=.ok its) (hy:y∈its):y.form.length≤B:=
 Nat.le_trans (Nat.le_trans (mem_le hy) (listE_le h)) hb
theorem itOK_of {t:It} {B:Nat} (hb:t.form.length≤B):ItOK B t:=fun its h=>⟨len_le hb h,fun y hy l hl=>len_le (el_le hb h hy) hl⟩
theorem acc_le {t:It} {B:Nat} (hb:t.form.length≤B): ∀its,listE t=.ok its→its.length≤B∧ ∀y∈its,ItOK B y:=fun its h=>⟨len_le hb h,fun y hy=>itOK_of (el_le hb h hy)⟩
theorem of9 {α:Type} {l:List α} (h:l.length=9): ∃t0 t1 t2 t3 t4 t5 t6 t7 t8,l= [t0,t1,t2,t3,t4,t5,t6,t7,t8]:=by
 match l,h with
 | [t0,t1,t2,t3,t4,t5,t6,t7,t8],_=>exact⟨t0,t1,t2,t3,t4,t5,t6,t7,t8,rfl⟩
theorem of11 {α:Type} {l:List α} (h:l.length=11): ∃t0 t1 t2 t3 t4 t5 t6 t7 t8 t9 t10,l= [t0,t1,t2,t3,t4,t5,t6,t7,t8,t9,t10]:=by
 match l,h with
 | [t0,t1,t2,t3,t4,t5,t6,t7,t8,t9,t10],_=>exact⟨t0,t1,t2,t3,t4,t5,t6,t7,t8,t9,t10,rfl⟩
theorem of12 {α:Type} {l:List α} (h:l.length=12): ∃t0 t1 t2 t3 t4 t5 t6 t7 t8 t9 t10 t11,l= [t0,t1,t2,t3,t4,t5,t6,t7,t8,t9,t10,t11]:=by
 match l,h with
 | [t0,t1,t2,t3,t4,t5,t6,t7,t8,t9,t10,t11],_=>exact⟨t0,t1,t2,t3,t4,t5,t6,t7,t8,t9,t10,t11,rfl⟩
theorem of14 {α:Type} {l:List α} (h:l.length=14): ∃t0 t1 t2 t3 t4 t5 t6 t7 t8 t9 t10 t11 t12 t13,l= [t0,t1,t2,t3,t4,t5,t6,t7,t8,t9,t10,t11,t12,t13]:=by
 match l,h with
 | [t0,t1,t2,t3,t4,t5,t6,t7,t8,t9,t10,t11,t12,t13],_=>exact⟨t0,t1,t2,t3,t4,t5,t6,t7,t8,t9,t10,t11,t12,t13,rfl⟩
theorem PartsN.all {Np NI:Heaplet} {bp:Nat} {zs:List IV} {its:List It} (h:PartsN Np NI bp zs its):zs.length=its.length:=by
 obtain⟨ao,n,cap,B,hs,hi⟩:=h
 exact hi.length
theorem tx0_ne {its:List It} (h:its.length∉ [9]):tx0 its=.error 2:=by
 unfold tx0
 split
 ·exact absurd (List.mem_singleton.2 U) h
 ·rfl
theorem tx1_ne {its:List It} (h:its.length∉ [11]):tx1 its=.error 2:=by
 unfold tx1
 split
 ·exact absurd (List.mem_singleton.2 U) h
 ·rfl
theorem tx2_ne {its:List It} (h:its.length∉ [12]):tx2 its=.error 2:=by
 unfold tx2
 split
 ·exact absurd (List.mem_singleton.2 U) h
 ·rfl
theorem tx3_ne {its:List It} (h:its.length∉ [14]):tx3 its=.error 2:=by
 unfold tx3
 split
 ·exact absurd (List.mem_singleton.2 U) h
 ·rfl
theorem vE_lt {ki:Int} {ch:Nat} {t:It} {c:Nat} {o:Bool} (h:vE ki ch t=.ok (c,o)) (hc:ch<2^64):c<2^64:=by
 unfold vE at h
 split at h
 ·cases h
 ·split at h
  ·split at h
   ·rename_i k
    have h:=congrArg Prod.fst (Except.ok.inj h)
    rw [show c=_ from h.symm];exact k
   ·cases h
  ·split at h<;>split at h<;>first|(have h:=congrArg Prod.fst (Except.ok.inj h);rw [show c=ch from h.symm];exact hc)|cases h
def TxS (zs:List IV) (NI J:Heaplet) (m:TxM) (d a b:Value):Prop:= ∃da dc aa cc ba bc axs,
 d=.slice da m.da.length dc∧RSl NI 1 da m.da.length dc (u8s m.da)∧(∃(i:Nat) (z:IV),zs[i]? =some z∧d=slB z)∧
 a=.slice aa m.ac.length cc∧RSl J 21 aa m.ac.length cc (accC axs)∧AccsN J m.ac axs∧
 b=.slice ba m.bb.length bc∧RSl J 32 ba m.bb.length bc (hashC m.bb)
end Go.Proofs.YtjfagifjajielaaGreat
