/- Several texts in one: see the remarks ahead of each part. No condition but those told there. -/
import Derived.Test.YtjfagifjajielaaGreatX1
import Derived.Test.YtjfagifjajielaaGreatX6
import Derived.Test.YtjfagifjajielaaGreatX5
import Derived.Test.YtjfagifjajielaaGreatX3
set_option linter.unusedSimpArgs false
set_option linter.unusedVariables false
namespace Go.Proofs.YtjfagifjajielaaGreat
open Go Go.RowKit
theorem order_f (x y:UInt64):Fn Tryz.prog 166 #[.int .u64 (x.toNat:Int),.int .u64 (y.toNat:Int)] [] [] (fun v L=>v=.int .i64 (if x.toNat<y.toNat then-1 else 1)∧L= []):=by
 refine Fn.enter (vs:= [.int .u64 (x.toNat:Int),.int .u64 (y.toNat:Int)]) Tryz.func166 U U U ?_
 intro E R hR
 change At _ _ E [R] _
 refine aC fun _ s_1=>aA (aG U U (aB (s_1 (aC fun _ s_2=>aC fun _ s_3=>aA (aF U U (aF U U (op_lss aD U U U (aB (s_3 (aO U (fun c7=>?_) (fun c7=>?_)))))))))))
 ·refine aC fun _ s_4=>aA (aG U U (aB (s_4 (aR (aJ ((aW (L1:= []) U (.tmp U .nil) (.refl _) aM ?_)))))))
  exact⟨by rw [if_pos (by omega)],rfl⟩
 refine aQ (aE (s_2 (aC fun _ s_5=>aA (aG U U (aB (s_5 (aR ((aW (L1:= []) U (.tmp U .nil) (.refl _) aM ?_)))))))))
 exact⟨by rw [if_neg (by omega)],rfl⟩
theorem Mul_f {N M:Heaplet} {ao bo:Option Addr} {n m ca cb:Nat} {a b:List UInt64} (ha:RSl N 1 ao n ca (u64s a)) (hb:RSl M 1 bo m cb (u64s b)) (hn:n≤1099511627776) (hm:m≤1099511627776):
 Fn Tryz.prog 130 #[.slice ao n ca,.slice bo m cb] [] [N,M] (LimbsP (v64 a*v64 b)):=by
 have hca:=ha.cap63
 have hcb:=hb.cap63
 have hal:=ha.len64
 have hbl:=hb.len64
 refine Fn.enter (vs:= [.slice ao n ca,.slice bo m cb]) Tryz.func130 U U U ?_
 intro E R hR
 have ha:=ha.le (hR N (by simp))
 have hb:=hb.le (hR M (by simp))
 change At _ _ E [R] _
 refine aC fun _ s_1=>aA (aG U U (aB (s_1 (aC fun _ s_2=>aA (aF U U (bG aD se200 U U (aF U U (bG aD se200 U U (a6 aD U U (by omega) (by omega) U ?_)))))))))
 refine op_make aZ Tryz.underlying200 te24 U U (show _=(((n+m:Nat)):Int)from by omega) (show _=(((n+m:Nat)):Int)from by omega) (by omega) (by unfold maxLen;omega) U (fun N19 a19 r19=>?_)
 rw [made_one _ _ rfl,zero_u64s]at r19
 have s19:=r19.rsl
 refine aG U U (aB (s_2 (aC fun _ s_3=>aC fun _ s_4=>aA (aF U U (bG aD se200 U U (aF U U (aB (s_4 (aT ?_)))))))))
 refine cF (fun fr_ hp_ ms_=> ∃(i:Nat) (p:List UInt64) (N19:Heaplet),fr_= [(1,.slice bo m cb),(5,.slice a19 (n+m) (n+m)),(20,.slice ao n ca),(21,.int .i64 (n:Int)),(22,.int .i64 (i:Int))]∧hp_= [N19,R]∧n- i=ms_∧(i≤n)∧(p.length=i+m)∧(v64 p=v64 (a.take i)*v64 b)∧(Row N19 24 1 a19 (n+m) (n+m) (u64s (p++List.replicate (n- i) 0)))) ?_ aM ⟨0,List.replicate m 0,N19,rfl,rfl,rfl,by omega,by simp,by rw [v64_replicate];simp [v64,n64,val],by rw [List.replicate_append_replicate,show m+(n- 0)=n+m by omega];exact r19⟩ ?_
 ·repeat first|apply bD|exact .nil|exact lkI rfl (by omega)|rfl
 rintro _ _ _ ⟨i,p,N19,rfl,rfl,rfl,hi,hp,hv,r19⟩
 have s19:=r19.rsl
 refine aC fun _ s_5=>aA (op_lss aD U U U (aB (s_5 (aC fun _ s_6=>aO U (fun c23=>?_) (fun c23=>?_)))))
 ·refine aQ (aE (s_6 (aC fun _ s_7=>aT (aC fun _ s_8=>aA (aF U U (bU aD se200 U U ha (show _=(((i:Nat)):Int)from by omega) (by omega) U ?_))))))
  refine cC aD sc24 U ha (by first|exact get8 (by omega)|exact get64 (by omega)|exact get32 (by omega)) (by simp) U ?_
  refine aG U U (aG U U (aB (s_8 (aC fun _ s_9=>aA (aG U U (aB (s_9 (aC fun _ s_10=>aC fun _ s_11=>aA (aF U U (bG aD se200 U U (aF U U (aB (s_11 (aT ?_))))))))))))))
  refine cF (fun fr_ hp_ ms_=> ∃(k:Nat) (c:UInt64) (p:List UInt64) (N19:Heaplet),fr_= [(1,.slice bo m cb),(5,.slice a19 (n+m) (n+m)),(6,.int .i64 (i:Int)),(7,.int .u64 ((a.getD i 0).toNat:Int)),(8,.int .u64 (c.toNat:Int)),(20,.slice ao n ca),(21,.int .i64 (n:Int)),(22,.int .i64 (i:Int)),(27,.slice bo m cb),(28,.int .i64 (m:Int)),(29,.int .i64 (k:Int))]∧hp_= [N19,R]∧m- k=ms_∧(k≤m)∧(p.length=i+m)∧(v64 p+c.toNat*2^(64*(i+k))=v64 (a.take i)*v64 b+2^(64*i)*((a.getD i 0).toNat*v64 (b.take k)))∧(Row N19 24 1 a19 (n+m) (n+m) (u64s (p++List.replicate (n- i) 0)))) ?_ aM ⟨0,0,p,N19,rfl,rfl,rfl,by omega,hp,by rw [hv];simp [v64,n64,val],r19⟩ ?_
  ·repeat first|apply bD|exact .nil|exact lkI rfl (by omega)|rfl
  rintro _ _ _ ⟨k,c,p,N19,rfl,rfl,rfl,hk,hp,hv,r19⟩
  have s19:=r19.rsl
  refine aC fun _ s_12=>aA (op_lss aD U U U (aB (s_12 (aC fun _ s_13=>aO U (fun c30=>?_) (fun c30=>?_)))))
  ·refine aQ (aE (s_13 (aC fun _ s_14=>aT (aC fun _ s_15=>aA (aF U U (bU aD se200 U U hb (show _=(((k:Nat)):Int)from by omega) (by omega) U ?_))))))
   refine cC aD sc24 U hb (by first|exact get8 (by omega)|exact get64 (by omega)|exact get32 (by omega)) (by simp) U ?_
   refine aG U U (aG U U (aB (s_15 (aC fun _ s_16=>aA (aF U U (aF U U (aH aZ (.cons U (.cons U .nil)) (Mul64_f (a.getD i 0) (b.getD k 0)) Tryz.func162 U U (by simp) U ?_)))))))
   rintro _ _ ⟨rfl,rfl⟩
   show At _ _ _ [N19,R] _
   refine aF U U (aN aD U U U (aN aD U U U (aG U U (aG U U (aB (s_16 (aC fun _ s_17=>aA (aG U U (aB (s_17 (aC fun _ s_18=>aA (aF U U (aF U U (aF U U (aF U U (a6 aD U U (by omega) (by omega) U ?_))))))))))))))))
   have hpl:(p++List.replicate (n- i) (0:UInt64)).length=n+m:=by simp;omega
   refine bU aD se200 U U s19 (show _=(((i+k:Nat)):Int)from by omega) (by omega) U ?_
   refine cC aD sc24 U s19 (by first|exact get8 (by omega)|exact get64 (by omega)|exact get32 (by omega)) (by simp) U ?_
   rw [getD_app (p:=p) (j:=i+k) (by omega)]
   refine op_ext aZ (.cons U (.cons U (.cons U .nil))) (Add64_x (a.getD i 0*b.getD k 0) (p.getD (i+k) 0) 0 (by decide)) U (aF U U (aN aD U U U (aN aD U U U (aG U U (aG U U (aB (s_18 (aC fun _ s_19=>aA (aF U U (aF U U (op_addU aD U U U (aG U U (aB (s_19 (aC fun _ s_20=>aA (aF U U (aF U U (op_ext aZ (.cons U (.cons U (.cons U .nil))) (Add64_x (addS (a.getD i 0*b.getD k 0) (p.getD (i+k) 0) 0) c 0 (by decide)) U (aF U U (aN aD U U U (aN aD U U U (aG U U (aG U U (aB (s_20 (aA (aF U U (aF U U (aF U U (a6 aD U U (by omega) (by omega) U (aF U U (aF U U (aF U U (op_addU aD U U U (bU aD se200 U U s19 (show _=(((i+k:Nat)):Int)from by omega) (by omega) U ?_)))))))))))))))))))))))))))))))))))
   refine op_storeE nxQ sz24 U U U U U r19 (by simp<;>omega) (by simp) sel0 (fun N19 r19=>?_)
   simp only [setL]at r19
   rw [set_u64s,List.set_append_left (i+k) _ (show i+k<p.length by omega)]at r19
   have s19:=r19.rsl
   refine aG U U (At.opsNil (a0 (aE (s_14 (aA (a6 aD U U (by omega) (by omega) U (aF U U (aB ?_))))))))
   refine bQ ?_ aM ⟨k+1,mulH (a.getD i 0) (b.getD k 0)+addC (a.getD i 0*b.getD k 0) (p.getD (i+k) 0) 0+addC (addS (a.getD i 0*b.getD k 0) (p.getD (i+k) 0) 0) c 0,p.set (i+k) (addS (addS (a.getD i 0*b.getD k 0) (p.getD (i+k) 0) 0) c 0),N19,rfl,rfl,rfl,by omega,by simp;omega,mul_round (by omega) hv,r19⟩ ?_
   ·repeat first|apply bD|exact .nil|exact lkI rfl (by omega)|rfl
   ·omega
  refine bW (aK (aK (bH (aE (s_10 (aA ?_))))))
  have hkm:k=m:=by omega
  refine aF U U (aF U U (aF U U (bG aD se200 U U (a6 aD U U (by omega) (by omega) U (aF U U (bU aD se200 U U s19 (show _=(((i+m:Nat)):Int)from by omega) (by omega) U ?_))))))
  refine op_storeE nxQ sz24 U U U U U r19 (by simp<;>omega) (by simp) sel0 (fun N19 r19=>?_)
  simp only [setL]at r19
  rw [set_u64s,set_rep hp (by omega)]at r19
  have s19:=r19.rsl
  refine At.opsNil (a0 (aE (s_7 (aA (a6 aD U U (by omega) (by omega) U (aF U U (aB ?_)))))))
  refine bQ ?_ aM ⟨i+1,p++ [c],N19,rfl,rfl,rfl,by omega,by simp;omega,by subst hkm;rw [←hbl]at hv hp;exact mul_outer hp hv,by rw [show n- (i+1)=n- i- 1 by omega];exact r19⟩ ?_
  ·repeat first|apply bD|exact .nil|exact lkI rfl (by omega)|rfl
  ·omega
 refine bW (aK (aK (bH (aE (s_3 (aC fun _ s_21=>aA (aF U U ?_)))))))
 have s19:=r19.rsl
 have hin:i=n:=by omega
 rw [hin,Nat.sub_self,List.replicate_zero,List.append_nil]at s19
 rw [hin,v64_take_all (by omega)]at hv
 refine aH aZ (.cons U .nil) (Trim_f s19) Tryz.func139 U U (by simp) U ?_
 rintro _ _ ⟨rfl,rfl,t79,l79⟩
 show At _ _ _ [N19,R] _
 refine aG U U (aB (s_21 (aR ((aW (L1:= [N19]) U (.tmp U .nil) (.refl _) aM ?_)))))
 have h:=s19.trimmed t79 l79
 rw [hv]at h⊢
 exact⟨N19,a19,_,rfl,rfl,h⟩
set_option maxRecDepth 100000 in
theorem Cmp_f {N M:Heaplet} {ao bo:Option Addr} {n m ca cb:Nat} {a b:List UInt64} (ha:RSl N 1 ao n ca (u64s a)) (hb:RSl M 1 bo m cb (u64s b)) (hn:n≤1099511627776) (hm:m≤1099511627776):
 Fn Tryz.prog 135 #[.slice ao n ca,.slice bo m cb] [] [N,M] (fun v L=>v=.int .i64 (cmpN (v64 a) (v64 b))∧L= []):=by
 have hca:=ha.cap63
 have hcb:=hb.cap63
 refine Fn.enter (vs:= [.slice ao n ca,.slice bo m cb]) Tryz.func135 U U U ?_
 intro E R hR
 have ha:=ha.le (hR N (by simp))
 have hb:=hb.le (hR M (by simp))
 change At _ _ E [R] _
 refine aC fun _ s_1=>aA (aG U U (aB (s_1 (aC fun _ s_2=>aA (aF U U (aH aZ (.cons U .nil) (Trim_f ha) Tryz.func139 U U (by simp) U ?_))))))
 rintro _ _ ⟨rfl,rfl,t7,l7⟩
 show At _ _ _ [R] _
 have hx:=ha.trimmed t7 l7
 refine aF U U (aH aZ (.cons U .nil) (Trim_f hb) Tryz.func139 U U (by simp) U ?_)
 rintro _ _ ⟨rfl,rfl,t9,l9⟩
 show At _ _ _ [R] _
 have hy:=hb.trimmed t9 l9
 have hxv:=v64_limbsOf (v64 a)
 have hyv:=v64_limbsOf (v64 b)
 have hxy: ∀A B:Nat,(limbsOf A).length<(limbsOf B).length→A<B:=fun A B=>limbs_len_lt
 have h12:=hxy (v64 a) (v64 b)
 have h21:=hxy (v64 b) (v64 a)
 have hxn:(limbsOf (v64 a)).length≤1099511627776:=by omega
 have hyn:(limbsOf (v64 b)).length≤1099511627776:=by omega
 generalize hxe:limbsOf (v64 a)=x at*
 generalize hye:limbsOf (v64 b)=y at*
 refine aG U U (aG U U (aB (s_2 (aC fun _ s_3=>aC fun _ s_4=>aA (aF U U (bG aD se200 U U (aF U U (bG aD se200 U U (op_neq aD U U U (aB (s_4 (aO U (fun c14=>?_) (fun c14=>?_)))))))))))))
 ·refine aC fun _ s_5=>aA (aF U U (bG aD se200 U U (op_conv64 aD (und_some Tryz.underlying3) Tryz.underlying24 U (show _=(((x.length:Nat)):Int)from by omega) U ?_)))
  refine aF U U (bG aD se200 U U (op_conv64 aD (und_some Tryz.underlying3) Tryz.underlying24 U (show _=(((y.length:Nat)):Int)from by omega) U ?_))
  refine aH aZ (.cons U (.cons U .nil)) (order_f (UInt64.ofNat x.length) (UInt64.ofNat y.length)) Tryz.func166 U U (by simp) U ?_
  rintro _ _ ⟨rfl,rfl⟩
  show At _ _ _ [R] _
  refine aG U U (aB (s_5 (aR (aJ ((aW (L1:= []) U (.tmp U .nil) (.refl _) aM ?_))))))
  have e1:(UInt64.ofNat x.length).toNat=x.length:=by rw [UInt64.toNat_ofNat'];omega
  have e2:(UInt64.ofNat y.length).toNat=y.length:=by rw [UInt64.toNat_ofNat'];omega
  rw [e1,e2]
  refine⟨?_,rfl⟩
  congr 1
  rcases Nat.lt_or_ge x.length y.length with hlt|hge
  ·rw [if_pos hlt,cmpN_lt (h12 hlt)]
  ·rw [if_neg (by omega),cmpN_gt (h21 (by omega))]
 refine aQ (aE (s_3 (aC fun _ s_6=>aC fun _ s_7=>aA (aF U U (bG aD se200 U U (op_subI aD U U (by omega) (by omega) U (aG U U (aB (s_7 (aT (cF (fun fr_ hp_ ms_=> ∃(j:Nat),fr_= [(0,.slice ao x.length x.length),(1,.slice bo y.length y.length),(5,.int .i64 ((j:Int)- 1))]∧hp_= [R]∧j=ms_∧(j≤x.length)∧(x.drop j=y.drop j)) ?_ aM ⟨x.length,rfl,rfl,rfl,by omega,by rw [List.drop_of_length_le (by omega),List.drop_of_length_le (by omega)]⟩ ?_)))))))))))
 ·repeat first|apply bD|exact .nil|exact lkI rfl (by omega)|rfl
 rintro _ _ _ ⟨j,rfl,rfl,rfl,hj,hd⟩
 refine aC fun _ s_8=>aC fun _ s_9=>aA (aF U U (op_geq aD U U U (aB (s_9 (aO U (fun c26=>?_) (fun c26=>?_))))))
 ·refine aQ (aE (s_8 (aC fun _ s_10=>aT (aC fun _ s_11=>At.drawnS [R] [] [] [0,1,2,3,4,5,6,7,8] (by kernel_rfl) (by kernel_rfl) (.refl _) (aL (bF U U U) U U (aL (bF U U U) U U (bU (bF U U U) se200 U U hx (show _=(((j- 1:Nat)):Int)from by omega) (by omega) U ?_)))))))
  refine cC (bF U U U) sc24 U hx (by first|exact get8 (by omega)|exact get64 (by omega)|exact get32 (by omega)) (by simp) U ?_
  refine aL (bF U U U) U U (aL (bF U U U) U U (bU (bF U U U) se200 U U hy (show _=(((j- 1:Nat)):Int)from by omega) (by omega) U ?_))
  refine cC (bF U U U) sc24 U hy (by first|exact get8 (by omega)|exact get64 (by omega)|exact get32 (by omega)) (by simp) U ?_
  refine op_neq (bF U U U) U U U (At.sNil (aE (s_11 (aO U (fun c37=>?_) (fun c37=>?_)))))
  ·refine aC fun _ s_12=>At.drawnS [R] [8] [] [0,1,2,3,4,5,6,7,8,9] (by kernel_rfl) (by kernel_rfl) (.refl _) (aL (bF U U U) U U (aL (bF U U U) U U (bU (bF U U U) se200 U U hx (show _=(((j- 1:Nat)):Int)from by omega) (by omega) U ?_)))
   refine cC (bF U U U) sc24 U hx (by first|exact get8 (by omega)|exact get64 (by omega)|exact get32 (by omega)) (by simp) U ?_
   refine aL (bF U U U) U U (aL (bF U U U) U U (bU (bF U U U) se200 U U hy (show _=(((j- 1:Nat)):Int)from by omega) (by omega) U ?_))
   refine cC (bF U U U) sc24 U hy (by first|exact get8 (by omega)|exact get64 (by omega)|exact get32 (by omega)) (by simp) U ?_
   refine aH (Nx.agree (nxss U U U U)) (.cons U (.cons U .nil)) (order_f (x.getD (j- 1) 0) (y.getD (j- 1) 0)) Tryz.func166 U U (by simp) U ?_
   rintro _ _ ⟨rfl,rfl⟩
   show At _ _ _ [R] _
   refine At.anyS (.refl _) (bX (bF U U U) U U (At.sNil (aE (s_12 (aR (b9 (aJ (aJ (b9 (aJ ((aW (L1:= []) U (.tmp U .nil) (.refl _) aM ?_))))))))))))
   have hd':x.drop (j- 1+1)=y.drop (j- 1+1):=by rw [show j- 1+1=j by omega];exact hd
   refine⟨?_,rfl⟩
   congr 1
   rw [←hxv, ←hyv]
   by_cases hlt:(x.getD (j- 1) 0).toNat<(y.getD (j- 1) 0).toNat
   ·rw [if_pos hlt,cmpN_lt (cmp_at (by omega) (by omega) hd' hlt)]
   ·rw [if_neg hlt,cmpN_gt (cmp_at (by omega) (by omega) hd'.symm (by omega))]
  refine aQ (a0 (aE (s_10 (aA (aF U U (op_subI aD U U (by omega) (by omega) U (aG U U (aB ?_))))))))
  refine bQ ?_ aM ⟨j- 1,rfl,rfl,rfl,by omega,drop_eq_succ (z:=0) (by omega) (by omega) (UInt64.toNat_inj.1 (by omega)) (by rw [show j- 1+1=j by omega];exact hd)⟩ ?_
  ·repeat first|apply bD|exact .nil|exact lkI rfl (by omega)|rfl
  ·omega
 refine bW (aK (aK (bH (aE (s_6 (aC fun _ s_13=>aA (aG U U (aB (s_13 (aR ((aW (L1:= []) U (.tmp U .nil) (.refl _) aM ?_))))))))))))
 have e:x=y:=by
  rw [show j=0 by omega]at hd
  simpa using hd
 refine⟨?_,rfl⟩
 rw [←hxv, ←hyv,e,cmpN_eq]
set_option maxRecDepth 100000 in
theorem shifted_f {N:Heaplet} {ao:Option Addr} {n ca:Nat} {a:List UInt64} (ha:RSl N 1 ao n ca (u64s a)) (s K:Nat) (hs:s<64) (hn:n≤K) (hK:K≤1099511627776):
 Fn Tryz.prog 181 #[.slice ao n ca,.int .i64 (s:Int),.int .i64 (K:Int)] [] [N] (fun v L=> ∃M p,v=.slice p K K∧L= [M]∧Row M 24 1 p K K (u64s (limbsN K (v64 a*2^s)))):=by
 have hca:=ha.cap63
 have hal:=ha.len64
 have ho:(a++List.replicate (K- n) (0:UInt64)).length=K:=by simp;omega
 have hov:=v64_pad a (K- n)
 refine Fn.enter (vs:= [.slice ao n ca,.int .i64 (s:Int),.int .i64 (K:Int)]) Tryz.func181 U U U ?_
 intro E R hR
 have ha:=ha.le (hR N (by simp))
 change At _ _ E [R] _
 refine aC fun _ s_1=>aA (aG U U (aB (s_1 (aC fun _ s_2=>aA (aF U U ?_)))))
 refine op_make aZ Tryz.underlying200 te24 U U (show _=(((K:Nat)):Int)from by omega) (show _=(((K:Nat)):Int)from by omega) (by omega) (by unfold maxLen;omega) U (fun N10 a10 r10=>?_)
 rw [made_one _ _ rfl,zero_u64s]at r10
 have s10:=r10.rsl
 refine aG U U (aB (s_2 (aC fun _ s_3=>aA (aF U U (aF U U (op_copyR nxQ se200 U U r10 ha mem1 (one_u64s _) sel0 U (fun N10 r10=>?_)))))))
 rw [Nat.min_eq_left hn,u64s_takeR,u64s_drop,List.take_of_length_le (show a.length≤n by omega),List.drop_replicate,show u64s a++u64s (List.replicate (K- n) 0)=u64s (a++List.replicate (K- n) 0) by simp [u64s]]at r10
 generalize a++List.replicate (K- n) (0:UInt64)=o at*
 have s10:=r10.rsl
 refine aB (s_3 (aC fun _ s_4=>aC fun _ s_5=>aA (aF U U (op_subI aD U U (by omega) (by omega) U (aG U U (aB (s_5 (aT ?_))))))))
 refine cF (fun fr_ hp_ ms_=> ∃(I:Nat) (N10:Heaplet),fr_= [(1,.int .i64 (s:Int)),(7,.slice a10 K K),(8,.int .i64 ((I:Int)- 1))]∧hp_= [N10,R]∧I=ms_∧(I≤K)∧(s=0→I=K)∧(Row N10 24 1 a10 K K (u64s (shSt o K s I)))) ?_ aM ⟨K,N10,rfl,rfl,rfl,by omega,fun _=>rfl,by rw [shSt_all ho];exact r10⟩ ?_
 ·repeat first|apply bD|exact .nil|exact lkI rfl (by omega)|rfl
 rintro _ _ _ ⟨I,N10,rfl,rfl,rfl,hI,h0,r10⟩
 have s10:=r10.rsl
 have hl10:=length_shSt (s:=s) ho hI
 refine aC fun _ s_6=>aC fun _ s_7=>aA (aF U U (op_geq aD U U U (aF U U (cJ (d:=18) U (fun g18=>?_) (fun g18=>?_)))))
 ·refine aL (cL U U U U) U U (op_gtr (cL U U U U) U U U (bO aD U U U (aB (s_7 (aO U (fun c21=>?_) (fun c21=>?_))))))
  ·refine aQ (aE (s_6 (aC fun _ s_8=>aT (aC fun _ s_9=>aA (aF U U (aF U U (bU aD se200 U U s10 (show _=(((I- 1:Nat)):Int)from by omega) (by omega) U ?_)))))))
   have hx:I- 1<(shSt o K s I).length:=by omega
   refine cC aD sc24 U s10 (by first|exact get8 (by omega)|exact get64 (by omega)|exact get32 (by omega)) (by simp) U ?_
   rw [shSt_getD ho hI (show I- 1<I by omega)]
   refine aF U U (op_shlU aD U U (by first|rfl|exact(Int.toNat_of_nonneg (by omega)).symm) U ?_)
   refine bU aD se200 U U s10 (show _=(((I- 1:Nat)):Int)from by omega) (by omega) U ?_
   refine op_storeE nxQ sz24 U U U U U r10 (by simp<;>omega) (by simp) sel0 (fun N10 r10=>?_)
   simp only [setL]at r10
   rw [set_u64s]at r10
   have s10:=r10.rsl
   refine aB (s_9 (aC fun _ s_10=>aA (aF U U (op_gtr aD U U U (aB (s_10 (aO U (fun c32=>?_) (fun c32=>?_))))))))
   ·have hl11:((shSt o K s I).set (I- 1) (shl64 (o.getD (I- 1) 0) s)).length=K:=by rw [List.length_set];exact hl10
    refine At.drawnS [N10,R] [14] [] [0,1,2,3,4,5,6,7,8,9,10,11,12,13,14] (by kernel_rfl) (by kernel_rfl) (.refl _) (aL (bF U U U) U U (aL (bF U U U) U U (bU (bF U U U) se200 U U s10 (show _=(((I- 1:Nat)):Int)from by omega) (by omega) U ?_)))
    refine cC (bF U U U) sc24 U s10 (by first|exact get8 (by omega)|exact get64 (by omega)|exact get32 (by omega)) (by simp) U ?_
    rw [getD_set_self (show I- 1<(shSt o K s I).length by omega)]
    refine aL (bF U U U) U U (aL (bF U U U) U U (op_subI (bF U U U) U U (by omega) (by omega) U (bU (bF U U U) se200 U U s10 (show _=(((I- 1- 1:Nat)):Int)from by omega) (by omega) U ?_)))
    refine cC (bF U U U) sc24 U s10 (by first|exact get8 (by omega)|exact get64 (by omega)|exact get32 (by omega)) (by simp) U ?_
    rw [getD_set_ne (show I- 1≠I- 1- 1 by omega),shSt_getD ho hI (show I- 1- 1<I by omega)]
    refine aL (bF U U U) U U (op_subI (bF U U U) U U (by omega) (by omega) U (op_shrU (bF U U U) U U (show _=(((64- s:Nat)):Int)from by omega) U ?_))
    refine op_orU (bF U U U) U U U (bU (bF U U U) se200 U U s10 (show _=(((I- 1:Nat)):Int)from by omega) (by omega) U ?_)
    refine op_storeE (nxsl U U U U) sz24 U U U U U r10 (by simp<;>omega) (by simp) sel0 (fun N10 r10=>?_)
    simp only [setL]at r10
    rw [set_u64s,List.set_set, ←shl_at (show 0<I- 1 by omega) hs,shSt_set' ho (by omega) hI]at r10
    have s10:=r10.rsl
    refine At.sNil (a0 (aE (s_8 (aA (aF U U (op_subI aD U U (by omega) (by omega) U (aG U U (aB (bQ ?_ aM ⟨I- 1,N10,rfl,rfl,rfl,by omega,fun e=>absurd e (by omega),r10⟩ ?_)))))))))
    ·repeat first|apply bD|exact .nil|exact lkI rfl (by omega)|rfl
    ·omega
   have e:shl64 (o.getD (I- 1) 0) s=UInt64.ofNat (v64 o*2^s/2^(64*(I- 1))):=by rw [show I- 1=0 by omega];exact(shl_low hs).symm
   rw [e,shSt_set' ho (by omega) hI]at r10
   refine aQ (a0 (aE (s_8 (aA (aF U U (op_subI aD U U (by omega) (by omega) U (aG U U (aB (bQ ?_ aM ⟨I- 1,N10,rfl,rfl,rfl,by omega,fun e=>absurd e (by omega),r10⟩ ?_)))))))))
   ·repeat first|apply bD|exact .nil|exact lkI rfl (by omega)|rfl
   ·omega
  refine bW (aK (aK (bH (aE (s_4 (aC fun _ s_11=>aA (aF U U (aG U U (aB (s_11 (aR ((aW (L1:= [N10]) U (.tmp U .nil) (.refl _) aM (⟨N10,a10,rfl,rfl,?_⟩))))))))))))))
  have hs0:s=0:=by omega
  subst hs0
  rw [h0 rfl,shSt_all ho]at r10
  rw [Nat.pow_zero,Nat.mul_one, ←hov, ←eq_limbsN ho rfl]
  exact r10
 refine aU U U U U U U U (aU U U U U U U U (cB aD U U U (aB (s_7 (At.condF U (bW (aK (aK (bH (aE (s_4 (aC fun _ s_12=>aA (aF U U (aG U U (aB (s_12 (aR ((aW (L1:= [N10]) U (.tmp U .nil) (.refl _) aM ?_)))))))))))))))))))
 have hI0:I=0:=by omega
 subst hI0
 rw [shSt_none,hov]at r10
 exact⟨N10,a10,rfl,rfl,r10⟩
theorem Blk.win {N:Heaplet} {b o cu:Nat} {e:TypeId} {pre x post:List UInt64} (h:Blk N b e (u64s (pre++x++post))) (hp:pre.length=o) (hx:x.length≤cu) (hc:cu≤9223372036854775807):
 RSl N 1 (some ⟨b,o,none⟩) x.length cu (u64s x):=by
 refine⟨by simp,hx,hc,fun _=>⟨b,o,rfl,?_⟩⟩
 have:=h.rng.sub (o:=o) (ds:=u64s x) fun i hi=>by
  rw [length_u64s]at hi
  subst hp
  simp only [u64s,List.map_append,List.append_assoc]
  rw [List.getElem?_append_right (by simp),List.getElem?_append_left (by simpa using hi)]
  simp [hi]
 rwa [Nat.zero_add]at this
def StepP (b:Nat) (e:TypeId) (pre u v post:List UInt64) (r:Value) (L:List Heaplet):Prop:=
 ∃M x, ∃q:UInt64,r=.int .u64 (q.toNat:Int)∧L= [M]∧Blk M b e (u64s (pre++x++post))∧x.length=u.length∧q.toNat=v64 u/v64 v∧v64 x=v64 u % v64 v
set_option maxRecDepth 100000 in
theorem step_f {Nu Nv:Heaplet} {b o cu n cv:Nat} {e:TypeId} {vo:Option Addr} {pre u post v:List UInt64} (Bu:Blk Nu b e (u64s (pre++u++post))) (hv:RSl Nv 1 vo n cv (u64s v)) (hp:pre.length=o) (hul:u.length=n+1) (hcu:n+1≤cu) (hcm:cu≤9223372036854775807)
 (hn1:1≤n) (hn:n≤1099511627776) (hV:0<v64 v) (hU:v64 u<v64 v*18446744073709551616):
 Fn Tryz.prog 182 #[.slice (some ⟨b,o,none⟩) (n+1) cu,.slice vo n cv] [Nu] [Nv] (StepP b e pre u v post):=by
 have hcv:=hv.cap63
 have hvl:=hv.len64
 refine Fn.enter (vs:= [.slice (some ⟨b,o,none⟩) (n+1) cu,.slice vo n cv]) Tryz.func182 U U U ?_
 intro E R hR
 have hv:=hv.le (hR Nv (by simp))
 have su:=Bu.win hp (show u.length≤cu by omega) hcm
 rw [hul]at su
 have hQB:v64 u/v64 v<18446744073709551616:=by rw [Nat.div_lt_iff_lt_mul hV,Nat.mul_comm];exact hU
 change At _ _ E [Nu,R] _
 refine aC fun _ s_1=>aA (aG U U (aB (s_1 (aC fun _ s_2=>aA (aF U U (bG aD se200 U U (aG U U (aB (s_2 (aC fun _ s_3=>aA (aG U U (aB (s_3 (aC fun _ s_4=>At.meet (fun fr_ hp_=> ∃(q0:UInt64),fr_= [(0,.slice (some ⟨b,o,none⟩) (n+1) cu),(1,.slice vo n cv),(5,.int .i64 (n:Int)),(6,.int .u64 (q0.toNat:Int))]∧hp_= [Nu,R]∧(v64 u/v64 v≤q0.toNat)) ?_ (fun K4_ jk_4=>?_)))))))))))))))
 rotate_left
 ·skip
  refine aC fun _ s_5=>At.drawnS [Nu,R] [] [] [0,1,2,3,4,5,6,7,8,9] (by kernel_rfl) (by kernel_rfl) (.refl _) (aL (bF U U U) U U (aL (bF U U U) U U (bU (bF U U U) se200 U U su (show _=(((n:Nat)):Int)from by omega) (by omega) U ?_)))
  refine cC (bF U U U) sc24 U su (by first|exact get8 (by omega)|exact get64 (by omega)|exact get32 (by omega)) (by simp) U ?_
  refine aL (bF U U U) U U (aL (bF U U U) U U (op_subI (bF U U U) U U (by omega) (by omega) U (bU (bF U U U) se200 U U hv (show _=(((n- 1:Nat)):Int)from by omega) (by omega) U ?_)))
  refine cC (bF U U U) sc24 U hv (by first|exact get8 (by omega)|exact get64 (by omega)|exact get32 (by omega)) (by simp) U ?_
  refine op_lss (bF U U U) U U U (At.sNil (aE (s_5 (aO U (fun c26=>?_) (fun c26=>?_)))))
  ·refine At.drawnS [Nu,R] [14] [] [0,1,2,3,4,5,6,7,8,9,10,11,12,13,14,15,16,17,18] (by kernel_rfl) (by kernel_rfl) (.refl _) (aL (bF U U U) U U (aL (bF U U U) U U (bU (bF U U U) se200 U U su (show _=(((n:Nat)):Int)from by omega) (by omega) U ?_)))
   refine cC (bF U U U) sc24 U su (by first|exact get8 (by omega)|exact get64 (by omega)|exact get32 (by omega)) (by simp) U ?_
   refine aL (bF U U U) U U (aL (bF U U U) U U (op_subI (bF U U U) U U (by omega) (by omega) U (bU (bF U U U) se200 U U su (show _=(((n- 1:Nat)):Int)from by omega) (by omega) U ?_)))
   refine cC (bF U U U) sc24 U su (by first|exact get8 (by omega)|exact get64 (by omega)|exact get32 (by omega)) (by simp) U ?_
   refine aL (bF U U U) U U (aL (bF U U U) U U (op_subI (bF U U U) U U (by omega) (by omega) U (bU (bF U U U) se200 U U hv (show _=(((n- 1:Nat)):Int)from by omega) (by omega) U ?_)))
   refine cC (bF U U U) sc24 U hv (by first|exact get8 (by omega)|exact get64 (by omega)|exact get32 (by omega)) (by simp) U ?_
   refine aH (Nx.agree (nxss U U U U)) (.cons U (.cons U (.cons U .nil))) (Div64_f (u.getD n 0) (u.getD (n- 1) 0) (v.getD (n- 1) 0) (by omega)) Tryz.func186 U U (by simp) U ?_
   rintro _ _ ⟨q,r,rfl,rfl,hq,hr⟩
   show At _ _ _ [Nu,R] _
   refine At.anyS (.refl _) (aL (bF U U U) U U (aN (bF U U U) U U U (aN (bF U U U) U U U (bX (bF U U U) U U (At.sNil ?_)))))
   refine aE (jk_4 ?_ aM ⟨q,rfl,rfl,by rw [hq];exact qhat_ge (by omega) hvl hn1 (Nat.div_mul_le_self _ _) (by omega)⟩)
   repeat first|apply bD|exact .nil|exact lkI rfl (by omega)|rfl
  refine aQ ?_
  refine aE (jk_4 ?_ aM ⟨18446744073709551615,rfl,rfl,by show _≤18446744073709551615;omega⟩)
  repeat first|apply bD|exact .nil|exact lkI rfl (by omega)|rfl
 rintro _ _ ⟨q0,rfl,rfl,hq0⟩
 refine s_4 (aC fun _ s_6=>aA (aG U U (aG U U (aB (s_6 (aC fun _ s_7=>aC fun _ s_8=>aA (aF U U (bG aD se200 U U (aF U U (aB (s_8 (aT (cF (fun fr_ hp_ ms_=> ∃(k:Nat) (w:List UInt64) (cy bw:UInt64) (Nu:Heaplet),fr_= [(0,.slice (some ⟨b,o,none⟩) (n+1) cu),(1,.slice vo n cv),(5,.int .i64 (n:Int)),(6,.int .u64 (q0.toNat:Int)),(7,.int .u64 (bw.toNat:Int)),(8,.int .u64 (cy.toNat:Int)),(46,.int .i64 (n:Int)),(47,.int .i64 (k:Int))]∧hp_= [Nu,R]∧n- k=ms_∧(k≤n)∧(w.length=k)∧(bw.toNat≤1)∧(v64 w+q0.toNat*v64 (v.take k)=v64 (u.take k)+(cy.toNat+bw.toNat)*2^(64*k))∧(Blk Nu b e (u64s (pre++(w++u.drop k)++post)))) ?_ aM ⟨0,[],0,0,Nu,rfl,rfl,rfl,by omega,rfl,by decide,by simp [v64,n64,val],by simpa using Bu⟩ ?_)))))))))))))
 ·repeat first|apply bD|exact .nil|exact lkI rfl (by omega)|rfl
 rintro _ _ _ ⟨k,w,cy,bw,Nu,rfl,rfl,rfl,hk,hw,hb,hv2,Bu⟩
 have hwl:(w++u.drop k).length=n+1:=by rw [List.length_append,List.length_drop];omega
 have su:=Bu.win hp (show(w++u.drop k).length≤cu by omega) hcm
 rw [hwl]at su
 refine aC fun _ s_9=>aA (op_lss aD U U U (aB (s_9 (aC fun _ s_10=>aO U (fun c48=>?_) (fun c48=>?_)))))
 ·refine aQ (aE (s_10 (aC fun _ s_11=>aT (aC fun _ s_12=>aA (aF U U (aG U U (aB (s_12 (aC fun _ s_13=>aA (aF U U (aF U U (aF U U (bU aD se200 U U hv (show _=(((k:Nat)):Int)from by omega) (by omega) U ?_)))))))))))))
  refine cC aD sc24 U hv (by first|exact get8 (by omega)|exact get64 (by omega)|exact get32 (by omega)) (by simp) U ?_
  refine aH aZ (.cons U (.cons U .nil)) (Mul64_f q0 (v.getD k 0)) Tryz.func162 U U (by simp) U ?_
  rintro _ _ ⟨rfl,rfl⟩
  show At _ _ _ [Nu,R] _
  refine aF U U (aN aD U U U (aN aD U U U (aG U U (aG U U (aB (s_13 (aC fun _ s_14=>aA (aG U U (aB (s_14 (aC fun _ s_15=>aA (aF U U (aF U U (op_ext aZ (.cons U (.cons U (.cons U .nil))) (Add64_x (q0*v.getD k 0) cy 0 (by decide)) U (aF U U (aN aD U U U (aN aD U U U (aG U U (aG U U (aB (s_15 (aC fun _ s_16=>aA (aF U U (aF U U (aF U U (aF U U (bU aD se200 U U su (show _=(((k:Nat)):Int)from by omega) (by omega) U ?_)))))))))))))))))))))))))))
  refine cC aD sc24 U su (by first|exact get8 (by omega)|exact get64 (by omega)|exact get32 (by omega)) (by simp) U ?_
  rw [getD_drop hw (show k<u.length by omega)]
  refine aF U U (aF U U (op_ext aZ (.cons U (.cons U (.cons U .nil))) (Sub64_x (u.getD k 0) (addS (q0*v.getD k 0) cy 0) bw hb) U (aF U U (aN aD U U U (aN aD U U U (bU aD se200 U U su (show _=(((k:Nat)):Int)from by omega) (by omega) U ?_))))))
  refine aX nxQ sz24 U U U U U Bu (by simp;omega) sel0 (fun Nu Bu=>?_)
  simp only [setL]at Bu
  rw [set_u64s,win_set hp (show k<(w++u.drop k).length by omega),set_drop hw (show k<u.length by omega)]at Bu
  refine aG U U (aB (s_16 (aA (aF U U (aF U U (op_addU aD U U U (aG U U (At.opsNil (a0 (aE (s_11 (aA (a6 aD U U (by omega) (by omega) U (aF U U (aB ?_)))))))))))))))
  refine bQ ?_ aM ⟨k+1,w++ [subS (u.getD k 0) (addS (q0*v.getD k 0) cy 0) bw],mulH q0 (v.getD k 0)+addC (q0*v.getD k 0) cy 0,subC (u.getD k 0) (addS (q0*v.getD k 0) cy 0) bw,Nu,rfl,rfl,rfl,by omega,by simp;omega,(sub64_law _ _ _ hb).2,step_round hw hb hv2,Bu⟩ ?_
  ·repeat first|apply bD|exact .nil|exact lkI rfl (by omega)|rfl
  ·omega
 refine bW (aK (aK (bH (aE (s_7 (aC fun _ s_17=>aA ?_))))))
 have hkn:k=n:=by omega
 refine aF U U (aF U U (aF U U (aF U U (bU aD se200 U U su (show _=(((n:Nat)):Int)from by omega) (by omega) U ?_))))
 refine cC aD sc24 U su (by first|exact get8 (by omega)|exact get64 (by omega)|exact get32 (by omega)) (by simp) U ?_
 rw [show(w++u.drop k).getD n 0=u.getD n 0 by rw [←hkn,getD_drop hw (by omega)]]
 refine aF U U (aF U U (op_ext aZ (.cons U (.cons U (.cons U .nil))) (Sub64_x (u.getD n 0) cy bw hb) U (aF U U (aN aD U U U (aN aD U U U (bU aD se200 U U su (show _=(((n:Nat)):Int)from by omega) (by omega) U ?_))))))
 refine aX nxQ sz24 U U U U U Bu (by simp;omega) sel0 (fun Nu Bu=>?_)
 simp only [setL]at Bu
 rw [set_u64s,win_set hp (show n<(w++u.drop k).length by omega),show(w++u.drop k).set n (subS (u.getD n 0) cy bw)=w++ [subS (u.getD n 0) cy bw] by rw [←hkn,set_drop hw (by omega),List.drop_of_length_le (by omega),List.append_nil]]at Bu
 rw [hkn,v64_take_all (by omega)]at hv2
 have hlast:=step_last (by omega) hb hv2 hul
 have hb2:=(sub64_law (u.getD n 0) cy bw hb).2
 refine aG U U (aB (s_17 (aC fun _ s_18=>aT ?_)))
 refine cF (fun fr_ hp_ ms_=> ∃(x:List UInt64) (q bo:UInt64) (Nu:Heaplet),fr_= [(0,.slice (some ⟨b,o,none⟩) (n+1) cu),(1,.slice vo n cv),(5,.int .i64 (n:Int)),(6,.int .u64 (q.toNat:Int)),(7,.int .u64 (bo.toNat:Int))]∧hp_= [Nu,R]∧q.toNat=ms_∧(x.length=n+1)∧(bo.toNat≤1)∧(v64 x+q.toNat*v64 v=v64 u+bo.toNat*2^(64*(n+1)))∧(bo.toNat=0→v64 x<v64 v)∧(Blk Nu b e (u64s (pre++x++post)))) ?_ aM ⟨w++ [subS (u.getD n 0) cy bw],q0,subC (u.getD n 0) cy bw,Nu,rfl,rfl,rfl,by simp;omega,hb2,hlast,fun h=>step_start (Q:=0) hV hlast hq0 h,Bu⟩ ?_
 ·repeat first|apply bD|exact .nil|exact lkI rfl (by omega)|rfl
 rintro _ _ _ ⟨x,q,bo,Nu,rfl,rfl,rfl,hxl,hbo,hx,hx0,Bu⟩
 have su:=Bu.win hp (show x.length≤cu by omega) hcm
 rw [hxl]at su
 refine aC fun _ s_19=>aC fun _ s_20=>aA (aF U U (op_neq aD U U U (aB (s_20 (aO U (fun c96=>?_) (fun c96=>?_))))))
 ·refine aQ (aE (s_19 (aT (aC fun _ s_21=>aA (aF U U (op_subU (b:=1) aD U U U (aG U U (aB (s_21 (aC fun _ s_22=>aA (aG U U (aB (s_22 (aC fun _ s_23=>aC fun _ s_24=>aA (aF U U (bG aD se200 U U (aF U U (aB (s_24 (aT (cF (fun fr_ hp_ ms_=> ∃(k:Nat) (w:List UInt64) (c:UInt64) (Nu:Heaplet),fr_= [(0,.slice (some ⟨b,o,none⟩) (n+1) cu),(1,.slice vo n cv),(5,.int .i64 (n:Int)),(6,.int .u64 ((q- 1).toNat:Int)),(7,.int .u64 (bo.toNat:Int)),(13,.int .u64 (c.toNat:Int)),(100,.int .i64 (n:Int)),(101,.int .i64 (k:Int))]∧hp_= [Nu,R]∧n- k=ms_∧(k≤n)∧(w.length=k)∧(c.toNat≤1)∧(v64 w+c.toNat*2^(64*k)=v64 (x.take k)+v64 (v.take k))∧(Blk Nu b e (u64s (pre++(w++x.drop k)++post)))) ?_ aM ⟨0,[],0,Nu,rfl,rfl,rfl,by omega,rfl,by decide,by simp [v64,n64,val],by simpa using Bu⟩ ?_)))))))))))))))))))))
  ·repeat first|apply bD|exact .nil|exact lkI rfl (by omega)|rfl
  rintro _ _ _ ⟨k,w,c,Nu,rfl,rfl,rfl,hk,hw,hc,hv3,Bu⟩
  have hwl:(w++x.drop k).length=n+1:=by rw [List.length_append,List.length_drop];omega
  have su:=Bu.win hp (show(w++x.drop k).length≤cu by omega) hcm
  rw [hwl]at su
  refine aC fun _ s_25=>aA (op_lss aD U U U (aB (s_25 (aC fun _ s_26=>aO U (fun c102=>?_) (fun c102=>?_)))))
  ·refine aQ (aE (s_26 (aC fun _ s_27=>aT (aC fun _ s_28=>aA (aF U U (aG U U (aB (s_28 (At.drawnS [Nu,R] [11,16] [0,1,14] [0,1,2,3,4,5,6,7,8,9,10,11,12,13,14,15,16,17] (by kernel_rfl) (by kernel_rfl) (.refl _) (aL (bF U U U) U U (aL (bF U U U) U U (aL (bF U U U) U U (aL (bF U U U) U U (bU (bF U U U) se200 U U su (show _=(((k:Nat)):Int)from by omega) (by omega) U ?_))))))))))))))
   refine cC (bF U U U) sc24 U su (by first|exact get8 (by omega)|exact get64 (by omega)|exact get32 (by omega)) (by simp) U ?_
   rw [getD_drop hw (show k<x.length by omega)]
   refine aL (bF U U U) U U (aL (bF U U U) U U (bU (bF U U U) se200 U U hv (show _=(((k:Nat)):Int)from by omega) (by omega) U ?_))
   refine cC (bF U U U) sc24 U hv (by first|exact get8 (by omega)|exact get64 (by omega)|exact get32 (by omega)) (by simp) U ?_
   refine aL (bF U U U) U U (op_ext (Nx.agree (nxss U U U U)) (.cons U (.cons U (.cons U .nil))) (Add64_x (x.getD k 0) (v.getD k 0) c hc) U (At.anyS (.refl _) (aL (bF U U U) U U (aN (bF U U U) U U U (aN (bF U U U) U U U (bU (bF U U U) se200 U U su (show _=(((k:Nat)):Int)from by omega) (by omega) U ?_))))))
   refine aX (nxss U U U U) sz24 U U U U U Bu (by simp;omega) sel0 (fun Nu Bu=>?_)
   simp only [setL]at Bu
   rw [set_u64s,win_set hp (show k<(w++x.drop k).length by omega),set_drop hw (show k<x.length by omega)]at Bu
   refine At.anyS (.refl _) (bX (bF U U U) U U (At.sNil (a0 (aE (s_27 (aA (a6 aD U U (by omega) (by omega) U (aF U U (aB ?_)))))))))
   refine bQ ?_ aM ⟨k+1,w++ [addS (x.getD k 0) (v.getD k 0) c],addC (x.getD k 0) (v.getD k 0) c,Nu,rfl,rfl,rfl,by omega,by simp;omega,(add64_law _ _ _ hc).2,add_round hw hc hv3,Bu⟩ ?_
   ·repeat first|apply bD|exact .nil|exact lkI rfl (by omega)|rfl
   ·omega
  refine bW (aK (aK (bH (aE (s_23 (aC fun _ s_29=>aA ?_))))))
  have hkn:k=n:=by omega
  refine aF U U (aF U U (aF U U (aF U U (bU aD se200 U U su (show _=(((n:Nat)):Int)from by omega) (by omega) U ?_))))
  refine cC aD sc24 U su (by first|exact get8 (by omega)|exact get64 (by omega)|exact get32 (by omega)) (by simp) U ?_
  rw [show(w++x.drop k).getD n 0=x.getD n 0 by rw [←hkn,getD_drop hw (by omega)]]
  refine aF U U (op_ext aZ (.cons U (.cons U (.cons U .nil))) (Add64_x (x.getD n 0) 0 c hc) U (aF U U (aN aD U U U (aN aD U U U (bU aD se200 U U su (show _=(((n:Nat)):Int)from by omega) (by omega) U ?_)))))
  refine aX nxQ sz24 U U U U U Bu (by simp;omega) sel0 (fun Nu Bu=>?_)
  simp only [setL]at Bu
  rw [set_u64s,win_set hp (show n<(w++x.drop k).length by omega),show(w++x.drop k).set n (addS (x.getD n 0) 0 c)=w++ [addS (x.getD n 0) 0 c] by rw [←hkn,set_drop hw (by omega),List.drop_of_length_le (by omega),List.append_nil]]at Bu
  rw [hkn]at hw hv3
  have hvn:v.getD n 0=0:=getD_big (by omega)
  have har:=add_round hw hc hv3
  have hac:=(add64_law (x.getD n 0) (v.getD n 0) c hc).2
  rw [hvn]at har hac
  rw [v64_take_all (show x.length≤n+1 by omega),v64_take_all (show v.length≤n+1 by omega)]at har
  have hb1:bo.toNat=1:=by omega
  rw [hb1]at hx
  have hul2:=v64_lt u
  have hxl2:=v64_lt x
  have hwl2:=v64_lt (w++ [addS (x.getD n 0) 0 c])
  rw [hul]at hul2
  rw [hxl]at hxl2
  rw [show(w++ [addS (x.getD n 0) 0 c]).length=n+1 by simp;omega]at hwl2
  obtain⟨m1,m2,m3⟩:=step_back hx (by omega) hxl2 har hac hwl2
  have hq':=sub_one64 m1
  have hbo':(bo- addC (x.getD n 0) 0 c).toNat=1- (addC (x.getD n 0) 0 c).toNat:=by
   rw [UInt64.toNat_sub_of_le _ _ (by rw [UInt64.le_iff_toNat_le];omega),hb1]
  refine aG U U (aB (s_29 (aA (aF U U (aF U U (op_subU aD U U U (aG U U (At.opsNil (a0 (aE ?_))))))))))
  refine bQ ?_ aM ⟨w++ [addS (x.getD n 0) 0 c],q- 1,bo- addC (x.getD n 0) 0 c,Nu,rfl,rfl,rfl,by simp;omega,by rw [hbo'];omega,by rw [hq',hbo'];exact m2,by rw [hbo'];exact m3,Bu⟩ ?_
  ·repeat first|apply bD|exact .nil|exact lkI rfl (by omega)|rfl
  ·omega
 refine bW (aK (aK (bH (aE (s_18 (aC fun _ s_30=>aA (aF U U (aG U U (aB (s_30 (aR ((aW (L1:= [Nu]) U (.tmp U .nil) (.refl _) aM ?_)))))))))))))
 have hb0:bo.toNat=0:=by omega
 rw [hb0,Nat.zero_mul,Nat.add_zero]at hx
 obtain⟨k1,k2⟩:=step_end hx (hx0 hb0)
 exact⟨Nu,x,q,rfl,rfl,Bu,by omega,k1,k2⟩
theorem Row.blk {N:Heaplet} {e:TypeId} {ao:Option Addr} {n:Nat} {xs:List Value} (h:Row N e 1 ao n n xs) (h0:0<n): ∃b,ao=some ⟨b,0,none⟩∧Blk N b e xs:=by
 obtain⟨h1,h2,h3,h4⟩:=h
 rcases h4 with ⟨_,h5,_⟩|⟨b,cur,rfl,hN,hs,ht⟩
 ·omega
 ·refine⟨b,rfl,?_⟩
  have hl:cur.toList.length=n:=by simpa using hs
  rw [List.take_of_length_le (by omega)]at ht
  rw [Blk,hN, ←ht]
theorem sadr_in (b o j cap:Nat) (h:cap≠j):sadr (some ⟨b,o,none⟩) j cap 1=some ⟨b,o+j,none⟩:=by
 rw [sadr,if_neg h,Option.map_some,addr_add,Nat.mul_one]
def LimbsP2 (A B:Nat) (v:Value) (L:List Heaplet):Prop:=
 ∃M1 a1 c1 M2 a2 c2,v=.tuple #[.slice a1 (limbsOf A).length c1,.slice a2 (limbsOf B).length c2]∧L= [M1,M2]∧RSl M1 1 a1 (limbsOf A).length c1 (u64s (limbsOf A))∧RSl M2 1 a2 (limbsOf B).length c2 (u64s (limbsOf B))
theorem limbs_top {V:Nat} (h:0<V):1≤(limbsOf V).length∧0<((limbsOf V).getD ((limbsOf V).length- 1) 0).toNat:=by
 have hl:=length_limbsOf V
 have hb:=bitLen_pos h
 have h1:1≤(limbsOf V).length:=by omega
 refine⟨h1,?_⟩
 rcases Nat.eq_zero_or_pos ((limbsOf V).getD ((limbsOf V).length- 1) 0).toNat with h0|h0
 ·exfalso
  have e:=v64_top1 (v:=limbsOf V) rfl h1
  rw [h0,Nat.mul_zero,Nat.add_zero,v64_limbsOf]at e
  have hlt:=v64_take_lt (limbsOf V) ((limbsOf V).length- 1)
  rw [←e]at hlt
  have:=limbLen_le.2 hlt
  omega
 ·exact h0
theorem div_fin {A B s G Q:Nat} (h:G+Q*(B*2^s)=A*2^s) (hG:G<B*2^s):Q=A/B∧G/2^s=A % B:=by
 have hp:0<2^s:=Nat.pow_pos (by decide)
 obtain⟨h1,h2⟩:=step_end h hG
 rw [Nat.mul_div_mul_right _ _ hp]at h1
 rw [Nat.mul_mod_mul_right]at h2
 exact⟨h1,by rw [h2,Nat.mul_div_cancel _ hp]⟩
theorem top_small {A n m s V:Nat} (hA:A<2^(64*m)) (hs:s<64) (hV:2^(64*(n- 1))*9223372036854775808≤V) (hn:1≤n) (hnm:n≤m):v64 ((limbsN (m+1) (A*2^s)).drop (m- n+1))<V∧v64 (limbsN (m+1) (A*2^s))=A*2^s:=by
 have h2s:2^s≤9223372036854775808:=by rw [show(9223372036854775808:Nat)=2^63 from rfl];exact Nat.pow_le_pow_right (by decide) (by omega)
 have hp:0<2^s:=Nat.pow_pos (by decide)
 have hlt:A*2^s<2^(64*m)*2^s:=Nat.mul_lt_mul_of_pos_right hA hp
 have e:v64 (limbsN (m+1) (A*2^s))=A*2^s:=by
  rw [v64_limbsN,Nat.mod_eq_of_lt]
  refine Nat.lt_of_lt_of_le hlt ?_
  rw [←Nat.pow_add]
  exact Nat.pow_le_pow_right (by decide) (by omega)
 refine⟨?_,e⟩
 have hl:(limbsN (m+1) (A*2^s)).length=m+1:=by simp [limbsN]
 have h:=v64_take_drop (limbsN (m+1) (A*2^s)) (k:=m- n+1) (by omega)
 rw [e]at h
 have h3:2^(64*m)*2^s≤2^(64*(m- n+1))*V:=by
  have e2:(2:Nat)^(64*m)=2^(64*(m- n+1))*2^(64*(n- 1)):=by rw [←Nat.pow_add];congr 1;omega
  rw [e2,Nat.mul_assoc]
  refine Nat.mul_le_mul_left _ (Nat.le_trans ?_ hV)
  exact Nat.mul_le_mul_left _ h2s
 have h4:2^(64*(m- n+1))*v64 ((limbsN (m+1) (A*2^s)).drop (m- n+1))<2^(64*(m- n+1))*V:=by omega
 exact Nat.lt_of_mul_lt_mul_left h4
theorem win_split {α:Type} (G:List α) (j n:Nat):G=G.take j++(G.drop j).take n++G.drop (j+n):=by
 rw [←List.drop_drop,List.append_assoc,List.take_append_drop,List.take_append_drop]
set_option maxRecDepth 100000 in
theorem DivMod_f {N M:Heaplet} {ao bo:Option Addr} {n m ca cb:Nat} {a b:List UInt64} (ha:RSl N 1 ao n ca (u64s a)) (hb:RSl M 1 bo m cb (u64s b)) (hn:n≤1099511627774) (hm:m≤1099511627774) (hpos:0<v64 b):
 Fn Tryz.prog 164 #[.slice ao n ca,.slice bo m cb] [] [N,M] (LimbsP2 (v64 a/v64 b) (v64 a % v64 b)):=by
 have hca:=ha.cap63
 have hcb:=hb.cap63
 obtain⟨ht1,ht2⟩:=limbs_top hpos
 refine Fn.enter (vs:= [.slice ao n ca,.slice bo m cb]) Tryz.func164 U U U ?_
 intro E R hR
 have ha:=ha.le (hR N (by simp))
 have hb:=hb.le (hR M (by simp))
 change At _ _ E [R] _
 refine aC fun _ s_1=>aA (aG U U (aG U U (aB (s_1 (aC fun _ s_2=>aA (aF U U (aH aZ (.cons U .nil) (Trim_f ha) Tryz.func139 U U (by simp) U ?_)))))))
 rintro _ _ ⟨rfl,rfl,t14,l14⟩
 show At _ _ _ [R] _
 have hx:=ha.trimmed t14 l14
 refine aF U U (aH aZ (.cons U .nil) (Trim_f hb) Tryz.func139 U U (by simp) U ?_)
 rintro _ _ ⟨rfl,rfl,t16,l16⟩
 show At _ _ _ [R] _
 have hy:=hb.trimmed t16 l16
 have hxv:=v64_limbsOf (v64 a)
 have hyv:=v64_limbsOf (v64 b)
 have h12:(limbsOf (v64 a)).length<(limbsOf (v64 b)).length→v64 a<v64 b:=limbs_len_lt
 have hA:v64 a<2^(64*(limbsOf (v64 a)).length):=by
  have:=v64_lt (limbsOf (v64 a));rwa [v64_limbsOf]at this
 generalize hxe:limbsOf (v64 a)=x at*
 generalize hye:limbsOf (v64 b)=y at*
 refine aG U U (aG U U (aB (s_2 (aC fun _ s_3=>aA (aF U U (bG aD se200 U U (aF U U (bG aD se200 U U (aG U U (aG U U (aB (s_3 (aC fun _ s_4=>aC fun _ s_5=>aA (aF U U (aF U U (op_lss aD U U U (aB (s_5 (aO U (fun c23=>?_) (fun c23=>?_))))))))))))))))))))
 ·refine aC fun _ s_6=>aA (aF U U ?_)
  refine op_append0 aZ Tryz.underlying200 Tryz.underlying200 te24 rfl rfl hx (by simp) (by first|exact one_u8s _|exact one_u64s _|exact one_u32s _|(intro u hu;simp at hu;subst hu;rfl)) (by omega) (by omega) rfl (fun N25 a25 p25 r25=>?_)
  have s25:=r25.rsl
  refine aH aZ (.cons U .nil) (Trim_f s25) Tryz.func139 U U (by simp) U ?_
  rintro _ _ ⟨rfl,rfl,t26,l26⟩
  show At _ _ _ [N25,R] _
  refine aG U U (aG U U (aB (s_6 (aR (aJ (?_))))))
  have h:=s25.trimmed t26 l26
  have hlt:=h12 (by omega)
  refine At.empty (bV (L1:= [nilH,N25]) U (.tmp U (.tmp U .nil)) U (.refl _) aM ?_)
  rw [hxv]at h⊢
  rw [LimbsP2,Nat.div_eq_of_lt hlt,Nat.mod_eq_of_lt hlt]
  exact⟨nilH,none,0,N25,a25,_,rfl,rfl,RSl.nil _ _,h⟩
 refine aQ (aE (s_4 (aC fun _ s_7=>aA (aF U U (aF U U (op_subI aD U U (by omega) (by omega) U (bU aD se200 U U hy (show _=(((y.length- 1:Nat)):Int)from by omega) (by omega) U ?_)))))))
 refine cC aD sc24 U hy (by first|exact get8 (by omega)|exact get64 (by omega)|exact get32 (by omega)) (by simp) U ?_
 refine aH aZ (.cons U .nil) (LeadingZeros64_f (y.getD (y.length- 1) 0)) Tryz.func180 U U (by simp) U ?_
 rintro v32 L32 ⟨rfl,rfl⟩
 show At _ _ _ [R] _
 have hbl:=bitLen64 (y.getD (y.length- 1) 0)
 have hbp:=bitLen_pos ht2
 have e64:(64:Int)- (bitLen (y.getD (y.length- 1) 0).toNat:Nat)=((64- bitLen (y.getD (y.length- 1) 0).toNat:Nat):Int):=by omega
 have hnorm:=norm_ge rfl ht1 ht2
 have hs:64- bitLen (y.getD (y.length- 1) 0).toNat<64:=by omega
 rw [e64]
 generalize 64- bitLen (y.getD (y.length- 1) 0).toNat=s at*
 refine aG U U (aB (s_7 (aC fun _ s_8=>aA (aF U U (aF U U (aF U U (aH aZ (.cons U (.cons U (.cons U .nil))) (shifted_f hy s y.length hs (Nat.le_refl _) (by omega)) Tryz.func181 U U (by simp) U ?_)))))))
 rintro _ _ ⟨M36,p36,rfl,rfl,r36⟩
 show At _ _ _ [M36,R] _
 rw [hyv]at hnorm r36
 have s36:=r36.rsl
 refine aF U U (aF U U (aF U U (a6 aD U U (by omega) (by omega) U (aH aZ (.cons U (.cons U (.cons U .nil))) (shifted_f hx s (x.length+1) hs (by omega) (by omega)) Tryz.func181 U U (by simp) U ?_))))
 rintro _ _ ⟨M41,p41,rfl,rfl,r41⟩
 show At _ _ _ [M41,M36,R] _
 obtain⟨bb,rfl,B41⟩:=r41.blk (by omega)
 rw [hxv]at B41
 have hvl:(limbsN y.length (v64 b*2^s)).length=y.length:=by simp [limbsN]
 have hvv:v64 (limbsN y.length (v64 b*2^s))=v64 b*2^s:=by
  rw [v64_limbsN,Nat.mod_eq_of_lt hnorm.2]
 generalize limbsN y.length (v64 b*2^s)=vv at*
 have hV0:0<v64 vv:=by rw [hvv];exact Nat.mul_pos hpos (Nat.pow_pos (by decide))
 refine aG U U (aG U U (aB (s_8 (aC fun _ s_9=>aA (aF U U (aF U U (op_subI aD U U (by omega) (by omega) U (a6 aD U U (by omega) (by omega) U ?_))))))))
 refine op_make aZ Tryz.underlying200 te24 U U (show _=(((x.length- y.length+1:Nat)):Int)from by omega) (show _=(((x.length- y.length+1:Nat)):Int)from by omega) (by omega) (by unfold maxLen;omega) U (fun N46 a46 r46=>?_)
 rw [made_one _ _ rfl,zero_u64s]at r46
 have s46:=r46.rsl
 refine aG U U (aB (s_9 (aC fun _ s_10=>aC fun _ s_11=>aA (aF U U (aF U U (op_subI aD U U (by omega) (by omega) U (aG U U (aB (s_11 (aT ?_))))))))))
 refine cF (fun fr_ hp_ ms_=> ∃(J:Nat) (G qh:List UInt64) (M41 N46:Heaplet),fr_= [(4,.slice a46 (x.length- y.length+1) (x.length- y.length+1)),(6,.int .i64 (y.length:Int)),(8,.int .i64 (s:Int)),(9,.slice p36 y.length y.length),(10,.slice (some ⟨bb,0,none⟩) (x.length+1) (x.length+1)),(11,.int .i64 ((J:Int)- 1))]∧hp_= [N46,M41,M36,R]∧J=ms_∧(J≤x.length- y.length+1)∧(G.length=x.length+1)∧(v64 G+v64 (List.replicate J 0++qh)*(v64 b*2^s)=v64 a*2^s)∧(v64 (G.drop J)<v64 b*2^s)∧(Blk M41 bb 24 (u64s G))∧(Row N46 24 1 a46 (x.length- y.length+1) (x.length- y.length+1) (u64s (List.replicate J 0++qh)))) ?_ aM ⟨x.length- y.length+1,limbsN (x.length+1) (v64 a*2^s),[],M41,N46,rfl,rfl,rfl,by omega,by simp [limbsN],by rw [List.append_nil,v64_replicate,Nat.zero_mul,Nat.add_zero];exact(top_small hA hs hnorm.1 ht1 (by omega)).2,(top_small hA hs hnorm.1 ht1 (by omega)).1,B41,by rw [List.append_nil];exact r46⟩ ?_
 ·repeat first|apply bD|exact .nil|exact lkI rfl (by omega)|rfl
 rintro _ _ _ ⟨J,G,qh,M41,N46,rfl,rfl,rfl,hJ,hGl,hv,hG,B41,r46⟩
 have s46:=r46.rsl
 have s36:=s36
 refine aC fun _ s_12=>aC fun _ s_13=>aA (aF U U (op_geq aD U U U (aB (s_13 (aO U (fun c51=>?_) (fun c51=>?_))))))
 ·refine aQ (aE (s_12 (aC fun _ s_14=>aT (aA (aF U U (aF U U (aF U U (aF U U (aF U U (aF U U (a6 aD U U (by omega) (by omega) U (a6 aD U U (by omega) (by omega) U ?_))))))))))))
  have hw:=win_lt (G:=G) (j:=J- 1) (n:=y.length) (V:=v64 b*2^s) (by omega) (by rw [show J- 1+1=J by omega];exact hG) (Nat.le_of_lt hnorm.2)
  have hwl:((G.drop (J- 1)).take (y.length+1)).length=y.length+1:=by rw [List.length_take,List.length_drop];omega
  have hsp:=win_split G (J- 1) (y.length+1)
  rw [hsp]at B41
  have hpre:(G.take (J- 1)).length=0+(J- 1):=by rw [List.length_take];omega
  refine op_slice aD se200 U (.some U (show _=(((J- 1:Nat)):Int)from by omega)) (.some U (show _=(((J- 1+y.length+1:Nat)):Int)from by omega)) .none (by omega) (by omega) (by omega) (by simp) U ?_
  rw [sadr_in _ _ _ _ (by omega),show J- 1+y.length+1- (J- 1)=y.length+1 by omega]
  refine aF U U (cH (cH (bR (cH ?_))))
  refine op_call nxQ (.cons U (.cons U .nil)) (step_f B41 s36 hpre hwl (by omega) (by omega) ht1 (by omega) hV0 (by rw [hvv];exact hw.1)) (F:= [N46,M36,R]) Tryz.func182 U U aM (by simp) U ?_
  rintro v64 L64 ⟨M41,u',q,rfl,rfl,B41,hul',hq,hr⟩
  show At _ _ _ [M41,N46,M36,R] _
  skip
  rw [hwl]at hul'
  rw [hvv]at hq hr
  obtain⟨d1,d2,d3⟩:=div_round (qs:=List.replicate J 0++qh) (h:=qh) (j:=J- 1) (by omega) (by rw [show J- 1+1=J by omega]) hv hw.2.2 hw.2.1 hul' hq hr (by rw [←hvv];exact hV0)
  refine bU aD se200 U U s46 (show _=(((J- 1:Nat)):Int)from by omega) (by omega) U ?_
  refine op_storeE nxQ sz24 U U U U U r46 (by simp<;>omega) (by simp) sel1 (fun N46 r46=>?_)
  simp only [setL]at r46
  rw [set_u64s]at r46
  have s46:=r46.rsl
  refine At.opsNil (a0 (aE (s_14 (aA (aF U U (op_subI aD U U (by omega) (by omega) U (aG U U (aB ?_))))))))
  refine bQ ?_ aM ⟨J- 1,G.take (J- 1)++u'++G.drop (J- 1+(y.length+1)),q::qh,M41,N46,rfl,rfl,rfl,by omega,by rw [List.length_append,List.length_append,List.length_take,List.length_drop,hul'];omega,by rw [←d3];exact d1,d2,B41,by rw [←d3];exact r46⟩ ?_
  ·repeat first|apply bD|exact .nil|exact lkI rfl (by omega)|rfl
  ·omega
 refine bW (aK (aK (bH (aE (s_10 (aC fun _ s_15=>aA ?_))))))
 have hJ0:J=0:=by omega
 subst hJ0
 rw [List.replicate_zero,List.nil_append]at hv r46
 rw [List.drop_zero]at hG
 obtain⟨f1,f2⟩:=div_fin hv hG
 have s41:=Blk.win (pre:= []) (post:= []) (x:=G) (o:=0) (cu:=x.length+1) (show Blk M41 bb 24 (u64s ([]++G++ [])) by simpa using B41) rfl (by omega) (by omega)
 rw [hGl]at s41
 refine aF U U ?_
 refine op_make aZ Tryz.underlying200 te24 U U (show _=(((y.length:Nat)):Int)from by omega) (show _=(((y.length:Nat)):Int)from by omega) (by omega) (by unfold maxLen;omega) U (fun N67 a67 r67=>?_)
 rw [made_one _ _ rfl,zero_u64s]at r67
 have s67:=r67.rsl
 refine aG U U (aB (s_15 (aC fun _ s_16=>aC fun _ s_17=>aA (aF U U (aF U U (aB (s_17 (aT (dropAt3 (cF (fun fr_ hp_ ms_=> ∃(k:Nat) (N67:Heaplet),fr_= [(4,.slice a46 (x.length- y.length+1) (x.length- y.length+1)),(5,.slice a67 y.length y.length),(8,.int .i64 (s:Int)),(10,.slice (some ⟨bb,0,none⟩) (x.length+1) (x.length+1)),(68,.int .i64 (y.length:Int)),(69,.int .i64 (k:Int))]∧hp_= [N67,N46,M41,R]∧y.length- k=ms_∧(k≤y.length)∧(Row N67 24 1 a67 y.length y.length (u64s (limbsN k (v64 G/2^s)++List.replicate (y.length- k) 0)))) ?_ aM ⟨0,N67,rfl,rfl,rfl,by omega,by simpa [limbsN]using r67⟩ ?_))))))))))
 ·repeat first|apply bD|exact .nil|exact lkI rfl (by omega)|rfl
 rintro _ _ _ ⟨k,N67,rfl,rfl,rfl,hk,r67⟩
 have s67:=r67.rsl
 have hlk:(limbsN k (v64 G/2^s)).length=k:=by simp [limbsN]
 refine aC fun _ s_18=>aA (op_lss aD U U U (aB (s_18 (aC fun _ s_19=>aO U (fun c70=>?_) (fun c70=>?_)))))
 ·refine aQ (aE (s_19 (aC fun _ s_20=>aT (aC fun _ s_21=>aA (aF U U (aG U U (aB (s_21 (aC fun _ s_22=>aA (aF U U (aF U U (aF U U (aF U U (bU aD se200 U U s41 (show _=(((k:Nat)):Int)from by omega) (by omega) U ?_))))))))))))))
  refine cC aD sc24 U s41 (by first|exact get8 (by omega)|exact get64 (by omega)|exact get32 (by omega)) (by simp) U ?_
  refine aF U U (op_shrU aD U U (by first|rfl|exact(Int.toNat_of_nonneg (by omega)).symm) U ?_)
  refine bU aD se200 U U s67 (show _=(((k:Nat)):Int)from by omega) (by omega) U ?_
  refine op_storeE nxQ sz24 U U U U U r67 (by simp<;>omega) (by simp) sel0 (fun N67 r67=>?_)
  simp only [setL]at r67
  rw [set_u64s,set_fill hlk (by omega)]at r67
  have s67:=r67.rsl
  refine aB (s_22 (aC fun _ s_23=>aA (aF U U (op_gtr aD U U U (aB (s_23 (aO U (fun c82=>?_) (fun c82=>?_))))))))
  ·have hl2:(limbsN k (v64 G/2^s)++ [shr64 (G.getD k 0) s]++List.replicate (y.length- (k+1)) 0).length=y.length:=by simp;omega
   refine cH (cH (bR (cH (At.drawnS [N67,M41,R] [14] [] [0,1,2,3,4,5,6,7,8,9,10,11,12,13,14] (by kernel_rfl) (by kernel_rfl) (.cons _ (.refl _)) (aL (bF U U U) U U (aL (bF U U U) U U (bU (bF U U U) se200 U U s67 (show _=(((k:Nat)):Int)from by omega) (by omega) U ?_)))))))
   refine cC (bF U U U) sc24 U s67 (by first|exact get8 (by omega)|exact get64 (by omega)|exact get32 (by omega)) (by simp) U ?_
   have e86:(limbsN k (v64 G/2^s)++ [shr64 (G.getD k 0) s]++List.replicate (y.length- (k+1)) (0:UInt64)).getD k 0=shr64 (G.getD k 0) s:=by
    rw [List.append_assoc];exact getD_mid hlk
   rw [e86]
   refine aL (bF U U U) U U (aL (bF U U U) U U (a6 (bF U U U) U U (by omega) (by omega) U (bU (bF U U U) se200 U U s41 (show _=(((k+1:Nat)):Int)from by omega) (by omega) U ?_)))
   refine cC (bF U U U) sc24 U s41 (by first|exact get8 (by omega)|exact get64 (by omega)|exact get32 (by omega)) (by simp) U ?_
   refine aL (bF U U U) U U (op_subI (bF U U U) U U (by omega) (by omega) U (op_shlU (bF U U U) U U (show _=(((64- s:Nat)):Int)from by omega) U ?_))
   refine op_orU (bF U U U) U U U (bU (bF U U U) se200 U U s67 (show _=(((k:Nat)):Int)from by omega) (by omega) U ?_)
   refine op_storeE (nxsl U U U U) sz24 U U U U U r67 (by simp<;>omega) (by simp) sel1 (fun N67 r67=>?_)
   simp only [setL]at r67
   rw [set_u64s,List.append_assoc,List.singleton_append,set_mid hlk, ←rest_at (by omega), ←limbsN_succ]at r67
   have s67:=r67.rsl
   refine At.sNil (a0 (aE (s_20 (aA (a6 aD U U (by omega) (by omega) U (aF U U (aB (bQ ?_ aM ⟨k+1,N67,rfl,rfl,rfl,by omega,r67⟩ ?_))))))))
   ·repeat first|apply bD|exact .nil|exact lkI rfl (by omega)|rfl
   ·omega
  have hs0:s=0:=by omega
  have e:shr64 (G.getD k 0) s=UInt64.ofNat (v64 G/2^s/2^(64*k)):=by rw [hs0];exact rest_at0.symm
  rw [e, ←limbsN_succ]at r67
  refine aQ (a0 (aE (s_20 (aA (a6 aD U U (by omega) (by omega) U (aF U U (aB (bQ ?_ aM ⟨k+1,N67,rfl,rfl,rfl,by omega,r67⟩ ?_))))))))
  ·repeat first|apply bD|exact .nil|exact lkI rfl (by omega)|rfl
  ·omega
 refine bW (aK (aK (bH (aE (s_16 (aC fun _ s_24=>aA ?_))))))
 have hkk:k=y.length:=by omega
 subst hkk
 rw [Nat.sub_self,List.replicate_zero,List.append_nil]at s67
 have s46:=r46.rsl
 refine aF U U (aH aZ (.cons U .nil) (Trim_f s46) Tryz.func139 U U (by simp) U ?_)
 rintro _ _ ⟨rfl,rfl,t99,l99⟩
 show At _ _ _ [N67,N46,M41,R] _
 refine aF U U (aH aZ (.cons U .nil) (Trim_f s67) Tryz.func139 U U (by simp) U ?_)
 rintro _ _ ⟨rfl,rfl,t101,l101⟩
 show At _ _ _ [N67,N46,M41,R] _
 refine aG U U (aG U U (aB (s_24 (aR ((cA (bR (permSel1 (bR (bV (L1:= [N46,N67]) U (.tmp U (.tmp U .nil)) U (.refl _) aM ?_))))))))))
 have h1:=s46.trimmed t99 l99
 have h2:=s67.trimmed t101 l101
 have e2:v64 (limbsN y.length (v64 G/2^s))=v64 a % v64 b:=by
  rw [f2,v64_limbsN]
  refine Nat.mod_eq_of_lt (Nat.lt_trans (Nat.mod_lt _ hpos) ?_)
  rw [←hyv];exact v64_lt y
 rw [f1]at h1⊢
 rw [e2]at h2⊢
 exact⟨N46,a46,_,N67,a67,_,rfl,rfl,h1,h2⟩
theorem bytesOf_zero:bytesOf 0= []:=rfl
theorem bytesOf_step {x:Nat} (h:x≠0):bytesOf x=bytesOf (x/256)++ [UInt8.ofNat x]:=by
 have hb:(bitLen x+7)/8=(bitLen (x/256)+7)/8+1:=by
  have h1:bitLen (x/256)=bitLen x- 8:=bitLen_div x 8
  have h2:=bitLen_pos (Nat.pos_of_ne_zero h)
  omega
 rw [bytesOf,hb,bytesN_succ];rfl
theorem trim_len32 {l:List UInt32} {k:Nat} (hk:k≤l.length) (hz: ∀i,k≤i→l.getD i 0=0) (hl:k=0∨(0<k∧l.getD (k- 1) 0≠0)):l.take k=digsOf (v32 l)∧(digsOf (v32 l)).length=k:=by
 have h1:l.take k=digsOf (v32 l):=trim_eq32 hk (fun i h hki=>by
  have:=hz i hki
  rwa [List.getD_eq_getElem?_getD,List.getElem?_eq_getElem h]at this) (by
  rcases hl with h|⟨h0,h⟩
  ·exact .inl h
  ·refine .inr ⟨by omega,?_⟩
   rwa [List.getD_eq_getElem?_getD,List.getElem?_eq_getElem (by omega)]at h)
 exact⟨h1,by rw [←h1,List.length_take];omega⟩
theorem v32_two (x:UInt64):v32 [UInt32.ofNat x.toNat,UInt32.ofNat (shr64 x 32).toNat]=x.toNat:=by
 have hx:=x.toNat_lt
 simp only [v32,n32,val,List.map_cons,List.map_nil,shr64,UInt32.toNat_ofNat',UInt64.toNat_ofNat']
 omega
theorem byte32_at {l:List UInt32} {i:Nat} (h:i/4<l.length):UInt8.ofNat (shr32 (l.getD (i/4) 0) (8*(i % 4))).toNat=UInt8.ofNat (v32 l/256^i):=by
 rw [shr32,UInt32.toNat_ofNat',Nat.mod_eq_of_lt (Nat.lt_of_le_of_lt (Nat.div_le_self _ _) (UInt32.toNat_lt _)),List.getD_eq_getElem?_getD,List.getElem?_eq_getElem h,Option.getD_some, ←dig_v32 h]
 apply UInt8.toNat_inj.1
 rw [UInt8.toNat_ofNat',UInt8.toNat_ofNat']
 obtain⟨q,r,hqr,hr⟩: ∃q r,i=4*q+r∧r<4:=⟨i/4,i % 4,by omega,Nat.mod_lt _ (by decide)⟩
 have e1:i/4=q:=by omega
 have e2:i % 4=r:=by omega
 rw [e1,e2,hqr,show(256:Nat)^(4*q+r)=2^(32*q)*2^(8*r)from by rw [←Nat.pow_add,show(256:Nat)=2^8 from rfl, ←Nat.pow_mul];congr 1;omega, ←Nat.div_div_eq_div_mul]
 generalize v32 l/2^(32*q)=X
 rw [show(2:Nat)^32=2^(8*r)*2^(32- 8*r)from by rw [←Nat.pow_add];congr 1;omega,Nat.mod_mul_right_div_self]
 exact Nat.mod_mod_of_dvd _ (Nat.pow_dvd_pow 2 (by omega:8≤32- 8*r))
theorem bytesOf_down {N i:Nat} (h:N/256^i≠0):bytesOf (N/256^i)=bytesOf (N/256^(i+1))++ [UInt8.ofNat (N/256^i)]:=by
 rw [bytesOf_step h,Nat.div_div_eq_div_mul,Nat.pow_succ]
theorem bytesOf_len0 {n:Nat} (h:(bytesOf n).length=0):n=0:=by
 rw [length_bytesOf]at h
 have:=byteLen_le (N:=n) (k:=0)
 have h2:=this.1 (by omega)
 simpa using h2
theorem down_ne {N i:Nat} (h:0<(bytesOf (N/256^(i+1))).length∨(UInt8.ofNat (N/256^i)).toNat≠0):N/256^i≠0:=by
 intro e
 rcases h with h|h
 ·have:N/256^(i+1)=0:=by rw [Nat.pow_succ, ←Nat.div_div_eq_div_mul,e,Nat.zero_div]
  rw [this,bytesOf_zero]at h;simp at h
 ·rw [e]at h;exact h rfl
theorem down_eq {N i:Nat} (h1: ¬0<(bytesOf (N/256^(i+1))).length) (h2: ¬(UInt8.ofNat (N/256^i)).toNat≠0):bytesOf (N/256^i)=bytesOf (N/256^(i+1)):=by
 have e1:=bytesOf_len0 (Nat.eq_zero_of_not_pos h1)
 have e2:N/256^i % 256=0:=by
  have:(UInt8.ofNat (N/256^i)).toNat=0:=by omega
  rwa [UInt8.toNat_ofNat']at this
 have e3:N/256^i=0:=by
  have h3:N/256^i/256=0:=by rw [Nat.div_div_eq_div_mul, ←Nat.pow_succ];exact e1
  omega
 rw [e1,e3]
end Go.Proofs.YtjfagifjajielaaGreat
