/- Several texts in one: see the remarks ahead of each part. No condition but those told there. -/
import Derived.Test.YtalmjkcapecpiaaGreatX1
import Derived.Test.YtalmjkcapecpiaaGreatXT2
import Derived.Test.YtalmjkcapecpiaaGreatX5
import Derived.Test.YtalmjkcapecpiaaGreatLen64
import Derived.Test.YtalmjkcapecpiaaGreatX4
import Derived.Test.YtalmjkcapecpiaaGreatX3
import Derived.Deep.Strs
import Derived.Maps.OwnSet
import Derived.DeepKeys4
set_option linter.unusedSimpArgs false
set_option linter.unusedVariables false
namespace Go.Proofs.YtalmjkcapecpiaaGreat
open Go Go.RowKit
theorem Fn.of_same {P:Program} {f:FuncId} {args:Array Value} {v:Value} (h: ∀w,Calls P f args w fun e w'=>e=.returned v∧w'=w):Fn P f args [] [] (fun u L=>u=v∧L= []):=fun E w R hw _=>
 (h w).mono fun _ _ ⟨he,hw'⟩=>⟨v,[],he,⟨rfl,rfl⟩,by rw [hw'];exact hw⟩
theorem Len64_f (x:UInt64):Fn Tryz.prog 140 #[.int .u64 (x.toNat:Int)] [] [] (fun u L=>u=.int .i64 (bitLen x.toNat:Nat)∧L= []):=by
 have h:=x.toNat_lt
 have e:Lib.bitLen x.toNat=bitLen x.toNat:=libBitLen_eq (by omega)
 refine Fn.of_same fun w=>(Len64_i (x.toNat:Int) w (by omega) (by omega)).mono ?_
 rintro e1 w' ⟨rfl,rfl⟩
 rw [Int.toNat_natCast,e]
 exact⟨rfl,rfl⟩
theorem bitLen64 (x:UInt64):bitLen x.toNat≤64:=bitLen_le.2 x.toNat_lt
theorem Bits_f {N:Heaplet} {ao:Option Addr} {n cap:Nat} {l:List UInt64} (h:RSl N 1 ao n cap (u64s l)) (hn:n≤17592186044416):
 Fn Tryz.prog 167 #[.slice ao n cap] [] [N] (fun v L=>v=.int .i64 (bitLen (v64 l):Nat)∧L= []):=by
 have hlen:=h.len64
 have hcap:=h.cap63
 refine Fn.enter (vs:= [.slice ao n cap]) Tryz.func167 U U U ?_
 intro E R hR
 have h:=h.le (hR N (by simp))
 have e0:(limbsOf (v64 l)).length=(bitLen (v64 l)+63)/64:=length_limbsOf _
 change At _ _ E [R] _
 refine aH fun _ s_1=>aB (bV U U (aI (s_1 (aH fun _ s_2=>aB (bC U U (bG bT (.cons U .nil) (Trim_f h) Tryz.func180 U U (by simp) U ?_))))))
 rintro _ _ ⟨rfl,rfl,e1,e2⟩
 show At _ _ _ [R] _
 have h2:=h.take (Nat.le_refl _) (Nat.le_trans e2 hcap.1) e2
 rw [Nat.mul_one,u64s_takeR,e1]at h2
 have hl2:=h2.len64
 refine bV U U (aI (s_2 (aH fun _ s_3=>aH fun _ s_4=>aB (bC U U (dB aN se211 U U (op_eql aN U U U (aI (s_4 (cD U (fun c7=>?_) (fun c7=>?_))))))))))
 ·refine aH fun _ s_5=>aB (bV U U (aI (s_5 (cK (dC ((cF (L1:= []) U (.tmp U .nil) (.refl _) aZ ?_)))))))
  exact⟨by rw [show bitLen (v64 l)=0 by omega];rfl,rfl⟩
 refine cG (aS (s_3 (aH fun _ s_6=>aB (bC U U (dB aN se211 U U (op_subI aN U U (by omega) (by omega) U (op_mulI aN U U (by omega) (by omega) U (bC U U (bC U U (dB aN se211 U U (op_subI aN U U (by omega) (by omega) U (op_idx1 aN se211 U U (by assumption) (show _=((((limbsOf (v64 l)).length- 1:Nat)):Int)from by omega) (by omega) U ?_))))))))))))
 refine op_loadE aN sc34 U (by assumption) (by first|exact get8 (by omega)|exact get64 (by omega)|exact get32 (by omega)) (by simp) U ?_
 refine bG bT (.cons U .nil) (Len64_f _) Tryz.func140 U U (by simp) U ?_
 rintro _ _ ⟨rfl,rfl⟩
 show At _ _ _ [R] _
 have hb:=bitLen64 ((limbsOf (v64 l)).getD ((limbsOf (v64 l)).length- 1) 0)
 refine dD aN U U (by omega) (by omega) U (bV U U (aI (s_6 (cK ((cF (L1:= []) U (.tmp U .nil) (.refl _) aZ ?_))))))
 have ht:=limbsOf_top' (getD_some (l:=limbsOf (v64 l)) (j:=(limbsOf (v64 l)).length- 1) (z:=0) (by omega))
 exact⟨congrArg (Value.int .i64) (by omega),rfl⟩
theorem byte_at {l:List UInt64} {i:Nat} (h:i/8<l.length):UInt8.ofNat (shr64 (l.getD (i/8) 0) (i % 8*8)).toNat=UInt8.ofNat (v64 l/256^i):=by
 rw [←byte_of_limb h,shr64,UInt64.toNat_ofNat',Nat.mod_eq_of_lt (Nat.lt_of_le_of_lt (Nat.div_le_self _ _) (UInt64.toNat_lt _)),List.getD_eq_getElem?_getD,List.getElem?_eq_getElem h]
 rfl
theorem Bytes_f {N:Heaplet} {ao:Option Addr} {n cap:Nat} {l:List UInt64} (h:RSl N 1 ao n cap (u64s l)) (hn:n≤17592186044416):
 Fn Tryz.prog 153 #[.slice ao n cap] [] [N] (fun v L=> ∃M a,v=.slice a (bytesOf (v64 l)).length (bytesOf (v64 l)).length∧L= [M]∧Row M 5 1 a (bytesOf (v64 l)).length (bytesOf (v64 l)).length (u8s (bytesOf (v64 l)))):=by
 have hlen:=h.len64
 have hcap:=h.cap63
 have hb:bitLen (v64 l)≤64*n:=bitLen_le.2 (by rw [←hlen];exact v64_lt l)
 have hm:(bytesOf (v64 l)).length=(bitLen (v64 l)+7)/8:=length_bytesOf _
 have hB:bytesOf (v64 l)=bytesN (bytesOf (v64 l)).length (v64 l):=by rw [hm];rfl
 generalize (bytesOf (v64 l)).length=m at hm hB⊢
 refine Fn.enter (vs:= [.slice ao n cap]) Tryz.func153 U U U ?_
 intro E R hR
 have h:=h.le (hR N (by simp))
 change At _ _ E [R] _
 refine aH fun _ s_1=>aB (bV U U (aI (s_1 (aH fun _ s_2=>aB (bC U U (bG bT (.cons U .nil) (Bits_f h hn) Tryz.func167 U U (by simp) U ?_))))))
 rintro _ _ ⟨rfl,rfl⟩
 show At _ _ _ [R] _
 refine dD aN U U (by omega) (by omega) U (op_quoI aN U U (by omega) (by omega) (by omega) U (bV U U (aI (s_2 (aH fun _ s_3=>aB (bC U U ?_))))))
 refine op_make bT Tryz.underlying37 te5 U U (show _=(((m:Nat)):Int)from by omega) (show _=(((m:Nat)):Int)from by omega) (by omega) (by unfold maxLen;omega) U (fun N12 a12 r12=>?_)
 rw [made_one _ _ rfl,zero_u8s]at r12
 have s12:=r12.rsl
 refine bV U U (aI (s_3 (aH fun _ s_4=>aH fun _ s_5=>aB (bC U U (dB aN se37 U U (bC U U (aI (s_5 (bX ?_)))))))))
 refine At.loop (fun fr_ hp_ ms_=> ∃(k:Nat) (Nq:Heaplet),fr_= [(0,.slice ao n cap),(3,.int .i64 (m:Int)),(4,.slice a12 m m),(14,.int .i64 (m:Int)),(15,.int .i64 (k:Int))]∧hp_= [Nq,R]∧m- k=ms_∧(k≤m)∧(Row Nq 5 1 a12 m m (u8s (bytesSt m (v64 l) k)))) ?_ aZ ⟨0,N12,rfl,rfl,rfl,by omega,by rw [bytesSt_zero];exact r12⟩ ?_
 ·repeat first|apply cW|exact .nil|exact lkI rfl (by omega)|rfl
 rintro _ _ _ ⟨k,Nq,rfl,rfl,rfl,hk,rq⟩
 have sq:=rq.rsl
 have hlq:=sq.len8
 refine aH fun _ s_6=>aB (op_lss aN U U U (aI (s_6 (aH fun _ s_7=>cD U (fun c16=>?_) (fun c16=>?_)))))
 ·refine cG (aS (s_7 (aH fun _ s_8=>bX (aH fun _ s_9=>aB (bC U U (bV U U (aI (s_9 (aH fun _ s_10=>aB (bC U U (op_subI aN U U (by omega) (by omega) U (bC U U (op_subI aN U U (by omega) (by omega) U (bV U U (aI (s_10 (aB (bC U U (bC U U (bC U U (bC U U (op_quoI aN U U (by omega) (by omega) (by omega) U (op_idx1 aN se211 U U (by assumption) (show _=((((m- 1- k)/8:Nat)):Int)from by omega) (by omega) U ?_)))))))))))))))))))))))
  refine op_loadE aN sc34 U (by assumption) (by first|exact get8 (by omega)|exact get64 (by omega)|exact get32 (by omega)) (by simp) U ?_
  refine bC U U (op_rem aN U U (by omega) (by omega) U (op_mulI aN U U (by omega) (by omega) U (op_shrU aN U U (show _=((((m- 1- k) % 8*8:Nat)):Int)from by omega) U ?_)))
  refine op_conv8 aN (und_some Tryz.underlying34) Tryz.underlying5 U (by first|rfl|exact(Int.toNat_of_nonneg (by omega)).symm) U ?_
  refine op_idx1 aN se37 U U (by assumption) (show _=(((k:Nat)):Int)from by omega) (by omega) U ?_
  refine op_storeE nxQ sz5 U U U U U rq (by simp<;>omega) (by simp) sel0 (fun Nq rq=>?_)
  simp only [setL]at rq
  have sq:=rq.rsl
  refine cE (cJ (aS (s_8 (aB (dD aN U U (by omega) (by omega) U (bC U U (aI ?_)))))))
  refine At.back ?_ aZ ⟨k+1,Nq,rfl,rfl,rfl,by omega,by rw [bytesSt_succ (by omega), ←byte_at (by omega), ←set_u8s];exact rq⟩ ?_
  ·repeat first|apply cW|exact .nil|exact lkI rfl (by omega)|rfl
  ·omega
 refine At.exit (bD (bD (dE (aS (s_4 (aH fun _ s_11=>aB (bC U U (bV U U (aI (s_11 (cK ((cF (L1:= [Nq]) U (.tmp U .nil) (.refl _) aZ ?_)))))))))))))
 obtain rfl:k=m:=by omega
 rw [bytesSt_all, ←hB]at rq
 exact⟨Nq,a12,rfl,rfl,rq⟩
theorem bytesOf_le {n k:Nat} (h:n<256^k):(bytesOf n).length≤k:=by rw [length_bytesOf];exact byteLen_le.2 h
theorem head_f (b n:Nat) (hb:b≤192) (hn:n≤1099511627776):
 Fn Tryz.prog 119 #[.int .i64 (b:Int),.int .i64 (n:Int)] [] [] (fun v L=> ∃M a cap,v=.slice a (rlpHead b n).length cap∧L= [M]∧Row M 5 1 a (rlpHead b n).length cap (u8s (rlpHead b n))):=by
 have h8:=bytesOf_le (n:=n) (k:=8) (by omega)
 refine Fn.enter (vs:= [.int .i64 (b:Int),.int .i64 (n:Int)]) Tryz.func119 U U U ?_
 intro E R hR
 change At _ _ E [R] _
 refine aH fun _ s_1=>aB (bV U U (aI (s_1 (aH fun _ s_2=>aH fun _ s_3=>aB (bC U U (op_leq aN U U U (aI (s_3 (cD U (fun c7=>?_) (fun c7=>?_))))))))))
 ·refine aH fun _ s_4=>aB (bC U U (bC U U (dD aN U U (by omega) (by omega) U (op_conv8 aN (und_some Tryz.underlying3) Tryz.underlying5 U (show _=(((b+n:Nat)):Int)from by omega) U ?_))))
  refine op_lit bT Tryz.underlying37 ze5 sz5 (.cons U .nil) U U (by simp [Value.cells]) U U U (fun N12 a12 r12=>?_)
  simp only [flatV,List.flatMap_cons,List.flatMap_nil,Value.cells,List.append_nil,List.cons_append,List.nil_append]at r12
  have s12:=r12.rsl
  refine bV U U (aI (s_4 (cK (dC ((cF (L1:= [N12]) U (.tmp U .nil) (.refl _) aZ ?_))))))
  have e:rlpHead b n= [UInt8.ofNat (b+n)]:=by rw [rlpHead,if_pos (by omega)]
  rw [e]
  exact⟨N12,a12,1,rfl,rfl,r12⟩
 refine cG (aS (s_2 (aH fun _ s_5=>aB (bC U U (op_conv64 aN (und_some Tryz.underlying3) Tryz.underlying34 U (show _=(((n:Nat)):Int)from by omega) U ?_)))))
 refine op_lit bT Tryz.underlying211 ze34 sz34 (.cons U .nil) U U (by simp [Value.cells]) U U U (fun N15 a15 r15=>?_)
 simp only [flatV,List.flatMap_cons,List.flatMap_nil,Value.cells,List.append_nil,List.cons_append,List.nil_append]at r15
 have s15:=r15.rsl
 refine bG bT (.cons U .nil) (Bytes_f (l:= [UInt64.ofNat n]) s15 (by decide)) Tryz.func153 U U (by simp) U ?_
 rintro _ _ ⟨M16,a16,rfl,rfl,r16⟩
 show At _ _ _ [M16,N15,R] _
 rw [v64_one n (by omega)]at r16⊢
 have s16:=r16.rsl
 refine bV U U (aI (s_5 (aH fun _ s_6=>aB (bC U U (dD aN U U (by omega) (by omega) U (bC U U (dB aN se37 U U (dD aN U U (by omega) (by omega) U (op_conv8 aN (und_some Tryz.underlying3) Tryz.underlying5 U (show _=(((b+55+(bytesOf n).length:Nat)):Int)from by omega) U ?_)))))))))
 refine op_lit bT Tryz.underlying37 ze5 sz5 (.cons U .nil) U U (by simp [Value.cells]) U U U (fun N23 a23 r23=>?_)
 simp only [flatV,List.flatMap_cons,List.flatMap_nil,Value.cells,List.append_nil,List.cons_append,List.nil_append]at r23
 have s23:=r23.rsl
 refine bC U U ?_
 refine op_append nxQ Tryz.underlying37 Tryz.underlying37 te5 rfl rfl r23 (by assumption) (by simp) (by first|exact one_u8s _|exact one_u64s _|exact one_u32s _|(intro u hu;simp at hu;subst hu;rfl)) (by omega) (by omega) sel0 rfl (fun N25 a25 p25 r25=>?_)
 have s25:=r25.rsl
 refine bV U U (aI (s_6 (cK ((dropAt2 (cT (cF (L1:= [N25]) U (.tmp U .nil) (.refl _) aZ ?_)))))))
 have e:rlpHead b n=UInt8.ofNat (b+55+(bytesOf n).length)::bytesOf n:=by rw [rlpHead,if_neg (by omega)]
 rw [e,List.length_cons,Nat.add_comm (bytesOf n).length 1]
 exact⟨N25,a25,p25,rfl,rfl,r25⟩
theorem run_add64' {P:Program} (x y c:UInt64) (hc:c.toNat≤1) (w:World):(add64Entry #[.int .u64 (x.toNat:Int),.int .u64 (y.toNat:Int),.int .u64 (c.toNat:Int)]).run P w=.ok (.tuple #[.int .u64 ((addS x y c).toNat:Int),.int .u64 ((addC x y c).toNat:Int)]) w:=by
 rw [run_add64 _ _ _ (by omega) (by omega) (by omega) (by omega),addS_nat,addC_nat _ _ _ hc]
 congr 5
theorem Add64_x (x y c:UInt64) (hc:c.toNat≤1) (w:World):(callFunc 69 #[.int .u64 (x.toNat:Int),.int .u64 (y.toNat:Int),.int .u64 (c.toNat:Int)]).run Tryz.prog w=.ok (.value (.tuple #[.int .u64 ((addS x y c).toNat:Int),.int .u64 ((addC x y c).toNat:Int)])) w:=by
 rw [run_callFunc_extern Tryz.func69 (by kernel_rfl) (by kernel_rfl) (by kernel_rfl) (e:=add64Entry) (by kernel_rfl),run_add64' x y c hc]
 rfl
def sub64E:Array Value→Sem Value:=fun args=>do
 let (x,y,b)←Extern.MathBitsCarry.three "Sub64" args
 pure (Extern.MathBitsCarry.pair ((x+Extern.MathBitsCarry.m64- y- b) % Extern.MathBitsCarry.m64) (if x<y+b then 1 else 0))
def DivP (hi lo y:UInt64) (v:Value) (L:List Heaplet):Prop:=
 ∃q r:UInt64,v=.tuple #[.int .u64 (q.toNat:Int),.int .u64 (r.toNat:Int)]∧L= []∧q.toNat=(hi.toNat*18446744073709551616+lo.toNat)/y.toNat∧r.toNat=(hi.toNat*18446744073709551616+lo.toNat) % y.toNat
def LimbsP (V:Nat) (v:Value) (L:List Heaplet):Prop:=
 ∃M a c,v=.slice a (limbsOf V).length c∧L= [M]∧RSl M 1 a (limbsOf V).length c (u64s (limbsOf V))
def cmpN (a b:Nat):Int:=if a<b then-1 else if b<a then 1 else 0
theorem cmpN_lt {a b:Nat} (h:a<b):cmpN a b= -1:=by rw [cmpN,if_pos h]
theorem cmpN_gt {a b:Nat} (h:b<a):cmpN a b=1:=by rw [cmpN,if_neg (by omega),if_pos h]
theorem cmpN_eq (a:Nat):cmpN a a=0:=by rw [cmpN,if_neg (Nat.lt_irrefl _),if_neg (Nat.lt_irrefl _)]
theorem v64_split {l:List UInt64} {j:Nat} (h:j<l.length):v64 l=v64 (l.take j)+2^(64*j)*((l.getD j 0).toNat+18446744073709551616*v64 (l.drop (j+1))):=by
 have e:l=l.take (j+1)++l.drop (j+1):=(List.take_append_drop _ _).symm
 conv=>lhs;rw [e]
 rw [v64_append,List.length_take,Nat.min_eq_left (by omega),v64_take_succD,pow64,Nat.mul_add,Nat.mul_assoc,Nat.add_assoc]
theorem cmp_at {x y:List UInt64} {j:Nat} (hl:x.length=y.length) (hj:j<x.length) (hd:x.drop (j+1)=y.drop (j+1)) (hlt:(x.getD j 0).toNat<(y.getD j 0).toNat):v64 x<v64 y:=by
 rw [v64_split hj,v64_split (l:=y) (j:=j) (by omega),hd]
 have h1:=v64_take_lt x j
 have h2:=Nat.mul_le_mul_left (2^(64*j)) (show(x.getD j 0).toNat+18446744073709551616*v64 (y.drop (j+1))+1≤(y.getD j 0).toNat+18446744073709551616*v64 (y.drop (j+1)) by omega)
 rw [Nat.mul_add _ _ 1,Nat.mul_one]at h2
 omega
theorem drop_eq_succ {α:Type} {x y:List α} {j:Nat} {z:α} (hx:j<x.length) (hy:j<y.length) (he:x.getD j z=y.getD j z) (hd:x.drop (j+1)=y.drop (j+1)):x.drop j=y.drop j:=by
 rw [List.drop_eq_getElem_cons hx,List.drop_eq_getElem_cons hy,hd]
 rw [List.getD_eq_getElem?_getD,List.getD_eq_getElem?_getD,List.getElem?_eq_getElem hx,List.getElem?_eq_getElem hy]at he
 simp only [Option.getD_some]at he
 rw [he]
def shlN (L V s:Nat):List UInt64:=limbsN L (V*2^s)
def shSt (o:List UInt64) (L s i:Nat):List UInt64:=o.take i++(shlN L (v64 o) s).drop i
theorem getD_set_ne {α:Type} {l:List α} {i j:Nat} {y z:α} (h:i≠j):(l.set i y).getD j z=l.getD j z:=by
 rw [List.getD_eq_getElem?_getD,List.getD_eq_getElem?_getD,List.getElem?_set_ne h]
def StepP (b:Nat) (e:TypeId) (pre u v post:List UInt64) (r:Value) (L:List Heaplet):Prop:=
 ∃M x, ∃q:UInt64,r=.int .u64 (q.toNat:Int)∧L= [M]∧Blk M b e (u64s (pre++x++post))∧x.length=u.length∧q.toNat=v64 u/v64 v∧v64 x=v64 u % v64 v
theorem Row.blk {N:Heaplet} {e:TypeId} {ao:Option Addr} {n:Nat} {xs:List Value} (h:Row N e 1 ao n n xs) (h0:0<n): ∃b,ao=some ⟨b,0,none⟩∧Blk N b e xs:=by
 obtain⟨h1,h2,h3,h4⟩:=h
 rcases h4 with ⟨_,h5,_⟩|⟨b,cur,rfl,hN,hs,ht⟩
 ·omega
 ·refine⟨b,rfl,?_⟩
  have hl:cur.toList.length=n:=by simpa using hs
  rw [List.take_of_length_le (by omega)]at ht
  rw [Blk,hN, ←ht]
def LimbsP2 (A B:Nat) (v:Value) (L:List Heaplet):Prop:=
 ∃M1 a1 c1 M2 a2 c2,v=.tuple #[.slice a1 (limbsOf A).length c1,.slice a2 (limbsOf B).length c2]∧L= [M1,M2]∧RSl M1 1 a1 (limbsOf A).length c1 (u64s (limbsOf A))∧RSl M2 1 a2 (limbsOf B).length c2 (u64s (limbsOf B))
def cmpI (x y:Nat):Int:=if x<y then-1 else if y<x then 1 else 0
theorem WBits_f (a b c d:UInt64):Fn Tryz.prog 120 #[.agg #[.int .u64 (a.toNat:Int),.int .u64 (b.toNat:Int),.int .u64 (c.toNat:Int),.int .u64 (d.toNat:Int)]] [] [] (fun v L=>v=.int .i64 (bitLen (v64 [a,b,c,d]):Nat)∧L= []):=by
 obtain⟨m,hm⟩: ∃m,m= [a,b,c,d]:=⟨_,rfl⟩
 have hm4:m.length=4:=by rw [hm];rfl
 refine Fn.enter (vs:= [.agg #[.int .u64 (a.toNat:Int),.int .u64 (b.toNat:Int),.int .u64 (c.toNat:Int),.int .u64 (d.toNat:Int)]]) Tryz.func120 U U U ?_
 intro E R hR
 change At _ _ E [R] _
 refine aH fun _ s_1=>aB (cU bT U U U (fun N1 b1 B1=>?_))
 change Blk N1 b1 _ (u64s [a,b,c,d])at B1
 rw [←hm]at B1⊢
 refine bV U U (aI (s_1 (aH fun _ s_2=>aH fun _ s_3=>aB (bV U U (aI (s_3 (bX (At.loop (fun fr_ hp_ ms_=> ∃(j:Nat),fr_= [(1,.pointer (some ⟨b1,0,none⟩)),(3,.int .i64 ((j:Int)- 1))]∧hp_= [N1,R]∧j=ms_∧(j≤4)∧(v64 m=v64 (m.take j))) ?_ aZ ⟨4,rfl,rfl,rfl,by omega,by rw [List.take_of_length_le (by omega)]⟩ ?_))))))))
 ·repeat first|apply cW|exact .nil|exact lkI rfl (by omega)|rfl
 rintro _ _ _ ⟨j,rfl,rfl,rfl,hj,hv⟩
 refine aH fun _ s_4=>aH fun _ s_5=>aB (bC U U (op_geq aN U U U (aI (s_5 (cD U (fun c5=>?_) (fun c5=>?_))))))
 ·refine cG (aS (s_4 (aH fun _ s_6=>bX (aH fun _ s_7=>aB (bC U U (op_idxA aN ae36 U U (show _=(((j- 1:Nat)):Int)from by omega) (by omega) U ?_))))))
  refine aU aN sc34 U B1 (by first|exact get64A (by omega)|rfl) cO U ?_
  refine op_neq aN U U U (aI (s_7 (cD U (fun c11=>?_) (fun c11=>?_))))
  ·refine aH fun _ s_8=>aB (bC U U (op_mulI aN U U (by omega) (by omega) U (bC U U (op_idxA aN ae36 U U (show _=(((j- 1:Nat)):Int)from by omega) (by omega) U ?_))))
   refine aU aN sc34 U B1 (by first|exact get64A (by omega)|rfl) cO U ?_
   refine bG bT (.cons U .nil) (Len64_f (m.getD (j- 1) 0)) Tryz.func140 U U (by simp) U ?_
   rintro _ _ ⟨rfl,rfl⟩
   show At _ _ _ [N1,R] _
   have h64:=bitLen_le.2 (m.getD (j- 1) 0).toNat_lt
   refine dD aN U U (by omega) (by omega) U (bV U U (aI (s_8 (cK (At.inRet (dC (dC (At.inRet (dC ((dropAt0 (cF (L1:= []) U (.tmp U .nil) (.refl _) aZ ?_))))))))))))
   exact⟨by rw [←hm,bits_at (k:=j- 1) (by omega) (by omega) (by rw [show j- 1+1=j by omega];exact hv)];congr 1;omega,rfl⟩
  refine cG (cJ (aS (s_6 (aB (bC U U (op_subI aN U U (by omega) (by omega) U (bV U U (aI ?_))))))))
  refine At.back ?_ aZ ⟨j- 1,rfl,rfl,rfl,by omega,v64_take_zero (by omega) (by omega) (by rw [show j- 1+1=j by omega];exact hv)⟩ ?_
  ·repeat first|apply cW|exact .nil|exact lkI rfl (by omega)|rfl
  ·omega
 refine At.exit (bD (bD (dE (aS (s_2 (aH fun _ s_9=>aB (bV U U (aI (s_9 (cK ((dropAt0 (cF (L1:= []) U (.tmp U .nil) (.refl _) aZ ?_)))))))))))))
 exact⟨by rw [←hm,hv,show j=0 by omega];rfl,rfl⟩
theorem setL_at (vs:List Value): ∀(p cs:List Value),cs.length=vs.length→setL (p++cs) p.length vs=p++vs:=by
 induction vs with
 |nil=>intro p cs h;rw [List.eq_nil_of_length_eq_zero h];rfl
 |cons v t ih=>
  intro p cs h
  match cs,h with
  |c::cs,h=>
   rw [setL]
   have e:(p++c::cs).set p.length v=(p++ [v])++cs:=by simp
   rw [e]
   have:=ih (p++ [v]) cs (by simpa using h)
   rw [List.length_append]at this
   simpa using this
theorem setL_whole {cs vs:List Value} (h:cs.length=vs.length):setL cs 0 vs=vs:=by simpa using setL_at vs [] cs h
theorem wbyte {m:List UInt64} {k:Nat} (hm:m.length=4) (h:k<32):UInt8.ofNat (shr64 (m.getD ((31- k)/8) 0) ((31- k) % 8*8)).toNat=UInt8.ofNat (v64 m/256^(31- k)):=by
 have hq:(31- k)/8<m.length:=by omega
 rw [shr64,UInt64.toNat_ofNat',Nat.mod_eq_of_lt (Nat.lt_of_le_of_lt (Nat.div_le_self _ _) (UInt64.toNat_lt _)),List.getD_eq_getElem?_getD,List.getElem?_eq_getElem hq,Option.getD_some,byte_of_limb hq]
theorem RSl.arr8 {N:Heaplet} {b lo:Nat} {e:TypeId} {L:List UInt8} (h:Blk N b e (u8s L)) (hl:L.length=32) (hlo:lo≤32):RSl N 1 (some (if 32=lo then ⟨b,0,none⟩else ⟨b,0+lo*1,none⟩)) (32- lo) (32- lo) (u8s (L.drop lo)):=by
 refine⟨by simp [u8s];omega,Nat.le_refl _,Nat.le_trans (by omega:32- lo≤32) (by decide),fun h0=>⟨b,lo,by rw [if_neg (by omega),Nat.zero_add,Nat.mul_one],?_⟩⟩
 have e:=h.rng.sub (o:=lo) (ds:=u8s (L.drop lo)) fun i hi=>by
  rw [List.getElem?_eq_getElem (by simp [u8s]at hi⊢;omega)]
  simp [u8s]
 rwa [Nat.zero_add]at e
set_option maxRecDepth 100000 in
theorem WBytes_f (a b c d:UInt64):Fn Tryz.prog 105 #[.agg #[.int .u64 (a.toNat:Int),.int .u64 (b.toNat:Int),.int .u64 (c.toNat:Int),.int .u64 (d.toNat:Int)]] [] [] (fun v L=>v=.agg (u8s (bytesN 32 (v64 [a,b,c,d]))).toArray∧L= []):=by
 obtain⟨m,hm⟩: ∃m,m= [a,b,c,d]:=⟨_,rfl⟩
 have hm4:m.length=4:=by rw [hm];rfl
 refine Fn.enter (vs:= [.agg #[.int .u64 (a.toNat:Int),.int .u64 (b.toNat:Int),.int .u64 (c.toNat:Int),.int .u64 (d.toNat:Int)]]) Tryz.func105 U U U ?_
 intro E R hR
 change At _ _ E [R] _
 refine aH fun _ s_1=>aB (cU bT U U U (fun N1 b1 B1=>?_))
 change Blk N1 b1 _ (u64s [a,b,c,d])at B1
 rw [←hm]at B1⊢
 refine bZ bT ze44 U (fun N2 b2 B2=>?_)
 change Blk N2 b2 _ [.int .u8 0,.int .u8 0,.int .u8 0,.int .u8 0,.int .u8 0,.int .u8 0,.int .u8 0,.int .u8 0,.int .u8 0,.int .u8 0,.int .u8 0,.int .u8 0,.int .u8 0,.int .u8 0,.int .u8 0,.int .u8 0,.int .u8 0,.int .u8 0,.int .u8 0,.int .u8 0,.int .u8 0,.int .u8 0,.int .u8 0,.int .u8 0,.int .u8 0,.int .u8 0,.int .u8 0,.int .u8 0,.int .u8 0,.int .u8 0,.int .u8 0,.int .u8 0]at B2
 refine aI (s_1 (aH fun _ s_2=>aB (bZ bT ze44 U (fun N3 b3 B3=>?_))))
 change Blk N3 b3 _ [.int .u8 0,.int .u8 0,.int .u8 0,.int .u8 0,.int .u8 0,.int .u8 0,.int .u8 0,.int .u8 0,.int .u8 0,.int .u8 0,.int .u8 0,.int .u8 0,.int .u8 0,.int .u8 0,.int .u8 0,.int .u8 0,.int .u8 0,.int .u8 0,.int .u8 0,.int .u8 0,.int .u8 0,.int .u8 0,.int .u8 0,.int .u8 0,.int .u8 0,.int .u8 0,.int .u8 0,.int .u8 0,.int .u8 0,.int .u8 0,.int .u8 0,.int .u8 0]at B3
 change Blk N3 b3 _ (u8s (List.replicate 32 0))at B3
 rw [←bytesSt_zero 32 (v64 m)]at B3
 refine aI (s_2 (aH fun _ s_3=>aH fun _ s_4=>aB (bC U U (aI (s_4 (bX (bI (cH (bF (bI (At.loop (fun fr_ hp_ ms_=> ∃(k:Nat) (N3:Heaplet),fr_= [(1,.pointer (some ⟨b1,0,none⟩)),(2,.pointer (some ⟨b2,0,none⟩)),(3,.pointer (some ⟨b3,0,none⟩)),(6,.int .i64 (k:Int))]∧hp_= [N1,N2,N3,R]∧32- k=ms_∧(k≤32)∧(Blk N3 b3 44 (u8s (bytesSt 32 (v64 m) k)))) ?_ aZ ⟨0,N3,rfl,rfl,rfl,by omega,B3⟩ ?_)))))))))))
 ·repeat first|apply cW|exact .nil|exact lkI rfl (by omega)|rfl
 rintro _ _ _ ⟨k,N3,rfl,rfl,rfl,hk,B3⟩
 have hbl:=length_bytesSt (m:=32) (N:=v64 m) hk
 refine aH fun _ s_5=>aB (op_lss aN U U U (aI (s_5 (aH fun _ s_6=>cD U (fun c7=>?_) (fun c7=>?_)))))
 ·refine cG (aS (s_6 (aH fun _ s_7=>bX (aH fun _ s_8=>aB (bC U U (bV U U (aI (s_8 (aH fun _ s_9=>aB (bC U U (op_subI aN U U (by omega) (by omega) U (bV U U (aI (s_9 (aB (bC U U (bC U U (op_quoI aN U U (by omega) (by omega) (by omega) U (op_idxA aN ae36 U U (show _=((((31- k)/8:Nat)):Int)from by omega) (by omega) U ?_)))))))))))))))))))
  refine aU aN sc34 U B1 (by first|exact get64A (by omega)|rfl) cO U ?_
  refine bC U U (op_rem aN U U (by omega) (by omega) U (op_mulI aN U U (by omega) (by omega) U (op_shrU aN U U (show _=((((31- k) % 8*8:Nat)):Int)from by omega) U ?_)))
  refine op_conv8 aN (und_some Tryz.underlying34) Tryz.underlying5 U (by first|rfl|exact(Int.toNat_of_nonneg (by omega)).symm) U ?_
  refine op_idxA aN ae44 U U (show _=(((k:Nat)):Int)from by omega) (by omega) U ?_
  refine bP nxQ sz5 U U U U U B3 (by simp<;>omega) sel2 (fun N3 B3=>?_)
  rw [set8A]at B3
  refine cE (cJ (aS (s_7 (aB (dD aN U U (by omega) (by omega) U (bC U U (aI (bI (cH (bI (bI ?_)))))))))))
  refine At.back ?_ aZ ⟨k+1,N3,rfl,rfl,rfl,by omega,by rw [bytesSt_succ (by omega),show 32- 1- k=31- k by omega, ←wbyte hm4 (by omega)];exact B3⟩ ?_
  ·repeat first|apply cW|exact .nil|exact lkI rfl (by omega)|rfl
  ·omega
 refine At.exit (bD (bD (dE (aS (s_3 (aH fun _ s_10=>aB ?_))))))
 have hk32:k=32:=by omega
 rw [hk32,bytesSt_all]at B3
 refine aK (ds:=u8s (bytesN 32 (v64 m))) aN ag44 U B3 (by first|(rw [List.drop_zero,List.take_of_length_le (by first|(simp;done)|(simp;omega))];done)|rfl) (by first|(simp;done)|(simp;omega)) mem2 U ?_
 refine bP nxQ sz44 U U U U U B2 (by simp) sel1 (fun N2 B2=>?_)
 rw [setL_whole (by simp)]at B2
 refine aI (s_10 (cK ((dropAt2 (cT ?_)))))
 refine cF (L1:= []) U (.cell U (res_agg (ds:=u8s (bytesN 32 (v64 m))) ag44 B2 (by first|(rw [List.drop_zero,List.take_of_length_le (by first|(simp;done)|(simp;omega))];done)|rfl) (by first|(simp;done)|(simp;omega)) cO) .nil) (.cons _ (.refl _)) aZ ?_
 exact⟨by rw [←hm],rfl⟩
set_option maxRecDepth 100000 in
theorem WShort_f (a b c d:UInt64):Fn Tryz.prog 107 #[.agg #[.int .u64 (a.toNat:Int),.int .u64 (b.toNat:Int),.int .u64 (c.toNat:Int),.int .u64 (d.toNat:Int)]] [] [] (fun v L=> ∃M p k,v=.slice p (bytesOf (v64 [a,b,c,d])).length k∧L= [M]∧Row M 5 1 p (bytesOf (v64 [a,b,c,d])).length k (u8s (bytesOf (v64 [a,b,c,d])))):=by
 have hlt:=v64_four_lt a b c d
 have hbl:=bitLen_le.2 hlt
 have hlen:=length_bytesOf (v64 [a,b,c,d])
 have hdr:=bytes_drop32 hlt
 refine Fn.enter (vs:= [.agg #[.int .u64 (a.toNat:Int),.int .u64 (b.toNat:Int),.int .u64 (c.toNat:Int),.int .u64 (d.toNat:Int)]]) Tryz.func107 U U U ?_
 intro E R hR
 change At _ _ E [R] _
 refine aH fun _ s_1=>aB (cU bT U U U (fun N1 b1 B1=>bV U U (aI (s_1 (aH fun _ s_2=>aB (aK (ds:= [_,_,_,_]) aN ag36 U B1 U U cO U (bG bT (.cons U .nil) (WBytes_f a b c d) Tryz.func105 U U (by simp) U ?_)))))))
 rintro _ _ ⟨rfl,rfl⟩
 show At _ _ _ [N1,R] _
 refine bZ bT ze44 U (fun N3 b3 B3=>?_)
 change Blk N3 b3 _ [.int .u8 0,.int .u8 0,.int .u8 0,.int .u8 0,.int .u8 0,.int .u8 0,.int .u8 0,.int .u8 0,.int .u8 0,.int .u8 0,.int .u8 0,.int .u8 0,.int .u8 0,.int .u8 0,.int .u8 0,.int .u8 0,.int .u8 0,.int .u8 0,.int .u8 0,.int .u8 0,.int .u8 0,.int .u8 0,.int .u8 0,.int .u8 0,.int .u8 0,.int .u8 0,.int .u8 0,.int .u8 0,.int .u8 0,.int .u8 0,.int .u8 0,.int .u8 0]at B3
 refine bP nxQ sz44 U U U U U B3 (by simp) sel0 (fun N3 B3=>?_)
 rw [setL_whole (by simp)]at B3
 refine aI (s_2 (aH fun _ s_3=>aB (aK (ds:= [_,_,_,_]) aN ag36 U B1 U U dG U (bG bT (.cons U .nil) (WBits_f a b c d) Tryz.func120 U U (by simp) U ?_))))
 rintro _ _ ⟨rfl,rfl⟩
 show At _ _ _ [N3,N1,R] _
 refine dD aN U U (by omega) (by omega) U (op_quoI aN U U (by omega) (by omega) (by omega) U (bV U U (aI (s_3 (aH fun _ s_4=>aB (bC U U (op_subI aN U U (by omega) (by omega) U (op_sliceA aN ae44 U (.some U (show _=(((32- (bitLen (v64 [a,b,c,d])+7)/8:Nat)):Int)from by omega)) .none .none (by omega) (by omega) (by omega) (by simp) U ?_))))))))
 have s13:=RSl.arr8 B3 (by simp) (show 32- (bitLen (v64 [a,b,c,d])+7)/8≤32 by omega)
 rw [hdr]at s13
 refine op_append0 bT Tryz.underlying37 Tryz.underlying37 te5 rfl rfl (by assumption) (by simp) (by first|exact one_u8s _|exact one_u64s _|exact one_u32s _|(intro u hu;simp at hu;subst hu;rfl)) (by omega) (by omega) rfl (fun N14 a14 p14 r14=>?_)
 have s14:=r14.rsl
 refine bV U U (aI (s_4 (cK ((dropAt2 (cT (cF (L1:= [N14]) U (.tmp U .nil) (.refl _) aZ ?_)))))))
 rw [show 32- (32- (bitLen (v64 [a,b,c,d])+7)/8)=(bytesOf (v64 [a,b,c,d])).length by omega]at r14⊢
 exact⟨N14,a14,p14,rfl,rfl,r14⟩
def WW:Nat:=2^256
theorem WW_pos:0<WW:=Nat.pow_pos (by decide)
def wl (x:Nat):List UInt64:=limbsN 4 x
def wo (x:Nat):Value:=.agg (u64s (wl x)).toArray
@[simp] theorem length_wl (x:Nat):(wl x).length=4:=rfl
theorem v64_wl (x:Nat):v64 (wl x)=x % WW:=v64_limbsN 4 x
theorem v64_wl_lt {x:Nat} (h:x<WW):v64 (wl x)=x:=by rw [v64_wl,Nat.mod_eq_of_lt h]
theorem v64_lt4 {w:List UInt64} (h:w.length=4):v64 w<WW:=by have:=v64_lt w;rwa [h]at this
theorem wl_of {w:List UInt64} {N:Nat} (hw:w.length=4) (h:v64 w=N % WW):w=wl N:=eq_words4 hw rfl (h.trans (v64_wl N).symm)
theorem wl_self {w:List UInt64} (hw:w.length=4):w=wl (v64 w):=wl_of hw (Nat.mod_eq_of_lt (v64_lt4 hw)).symm
theorem wl_mod (x:Nat):wl (x % WW)=wl x:=wl_of (w:=wl (x % WW)) rfl (by rw [v64_wl,Nat.mod_mod])
theorem wl_inj {x y:Nat} (hx:x<WW) (hy:y<WW) (h:wl x=wl y):x=y:=by
 have:=congrArg v64 h
 rwa [v64_wl_lt hx,v64_wl_lt hy]at this
theorem wo_mod (x:Nat):wo (x % WW)=wo x:=by rw [wo,wl_mod];rfl
theorem wl_small (n:UInt64):wl n.toNat= [n,0,0,0]:=by
 have h:=n.toNat_lt
 refine(wl_of rfl ?_).symm
 have e:v64 [n,0,0,0]=n.toNat:=by simp [v64,n64,val]
 rw [e]
 exact(Nat.mod_eq_of_lt (Nat.lt_trans h (Nat.pow_lt_pow_right (by decide) (by decide)))).symm
theorem wo_small (n:UInt64):wo n.toNat=.agg #[.int .u64 (n.toNat:Int),.int .u64 0,.int .u64 0,.int .u64 0]:=by rw [wo,wl_small];rfl
open Go Go.RowKit Go.ChangeShapes Go.WideShapes Go.Deep
theorem words_of_cells: ∀cs:List Value,(∀i,i<cs.length→ ∃a:UInt64,(cs.drop i).take 1= [.int .u64 (a.toNat:Int)])→ ∃l:List UInt64,l.length=cs.length∧cs=u64s l:=by
 intro cs
 induction cs with
 |nil=>intro _;exact⟨[],rfl,rfl⟩
 |cons v t ih=>
  intro h
  obtain⟨a,ha⟩:=h 0 (Nat.zero_lt_succ _)
  obtain⟨l,hl,rfl⟩:=ih fun i hi=>by
   have:=h (i+1) (Nat.succ_lt_succ hi)
   rw [List.drop_succ_cons]at this
   exact this
  refine⟨a::l,by rw [List.length_cons,List.length_cons,hl],?_⟩
  simp only [List.drop_zero,List.take_succ_cons,List.take_zero,List.cons.injEq,and_true]at ha
  rw [ha];rfl
theorem bytes_of_cells: ∀cs:List Value,(∀i,i<cs.length→ ∃a:UInt8,(cs.drop i).take 1= [.int .u8 (a.toNat:Int)])→ ∃l:List UInt8,l.length=cs.length∧cs=u8s l:=by
 intro cs
 induction cs with
 |nil=>intro _;exact⟨[],rfl,rfl⟩
 |cons v t ih=>
  intro h
  obtain⟨a,ha⟩:=h 0 (Nat.zero_lt_succ _)
  obtain⟨l,hl,rfl⟩:=ih fun i hi=>by
   have:=h (i+1) (Nat.succ_lt_succ hi)
   rw [List.drop_succ_cons]at this
   exact this
  refine⟨a::l,by rw [List.length_cons,List.length_cons,hl],?_⟩
  simp only [List.drop_zero,List.take_succ_cons,List.take_zero,List.cons.injEq,and_true]at ha
  rw [ha];rfl
section
variable {H : Type} {enc : TypeId × Value → H} {w : World} {spare : Nat → Bool} {held : Bool}
theorem struct_open' {P:Program} {t:TypeId} {fs:Array Field} {fuel:Nat} {cs:List Value} {x:DataW H×List MemPlace} (ht:P.underlying t=some (.struct fs)) (h:DataW.trod enc P w 0 spare held fuel t cs=some x):
 cs.length=P.cellsOf t∧ ∃n, ∀(i:Nat) (f:Field),fs[i]? =some f→ ∃y,DataW.trod enc P w 0 spare held n f.type ((cs.drop f.offset).take (P.cellsOf f.type))=some y:=by
 obtain⟨xs,n,hf,_,hl,hlen,hx⟩:=DataW.trod_struct ht h
 refine⟨hl,n,fun i f hi=>?_⟩
 have hlt:i<xs.length:=by
  obtain⟨h1,_⟩:=Array.getElem?_eq_some_iff.1 hi
  rw [hlen];exact h1
 refine⟨xs[i],?_⟩
 rw [hx i f hi]
 exact List.getElem?_eq_getElem hlt
theorem open_u64c {P:Program} {t:TypeId} {fuel:Nat} {cs:List Value} {x:DataW H×List MemPlace} (ht:P.underlying t=some (.int .u64)) (h:DataW.trod enc P w 0 spare held fuel t cs=some x): ∃a:UInt64,cs= [.int .u64 (a.toNat:Int)]:=by
 obtain⟨q,hq,_,hw⟩:=DataW.trod_int ht h
 have hb:0≤q∧q≤18446744073709551615:=by simpa [Lit.wf,IntKind.min,IntKind.max,IntKind.signed,IntKind.bits]using hw
 refine⟨UInt64.ofNat q.toNat,hq.trans ?_⟩
 have h8:(UInt64.ofNat q.toNat).toNat=q.toNat:=by rw [UInt64.toNat_ofNat'];omega
 rw [h8]
 congr 2
 omega
theorem open_u8c {P:Program} {t:TypeId} {fuel:Nat} {cs:List Value} {x:DataW H×List MemPlace} (ht:P.underlying t=some (.int .u8)) (h:DataW.trod enc P w 0 spare held fuel t cs=some x): ∃a:UInt8,cs= [.int .u8 (a.toNat:Int)]:=by
 obtain⟨q,hq,_,hw⟩:=DataW.trod_int ht h
 have hb:0≤q∧q≤255:=by simpa [Lit.wf,IntKind.min,IntKind.max,IntKind.signed,IntKind.bits]using hw
 refine⟨UInt8.ofNat q.toNat,hq.trans ?_⟩
 have h8:(UInt8.ofNat q.toNat).toNat=q.toNat:=by rw [UInt8.toNat_ofNat'];omega
 rw [h8]
 congr 2
 omega
theorem bytes_cells {t e:TypeId} {k fuel:Nat} {cs:List Value} {x:DataW H×List MemPlace} (ht:Tryz.prog.underlying t=some (.array k e)) (he:Tryz.prog.underlying e=some (.int .u8)) (hc:Tryz.prog.cellsOf e=1) (hk:Tryz.prog.cellsOf t=k) (h:DataW.trod enc Tryz.prog w 0 spare held fuel t cs=some x): ∃l:List UInt8,l.length=k∧cs=u8s l:=by
 obtain⟨xs,m,_,_,hl,hlen,hx⟩:=DataW.trod_array ht h
 have hl':cs.length=k:=hl.trans hk
 obtain⟨l,h1,h2⟩:=bytes_of_cells cs fun i hi=>by
  have h:=hx i (by omega)
  rw [List.getElem?_eq_getElem (by omega),hc,Nat.mul_one]at h
  exact open_u8c he h
 exact⟨l,h1.trans hl',h2⟩
theorem word_cells {t e:TypeId} {fuel:Nat} {cs:List Value} {x:DataW H×List MemPlace} (ht:Tryz.prog.underlying t=some (.array 4 e)) (he:Tryz.prog.underlying e=some (.int .u64)) (hc:Tryz.prog.cellsOf e=1) (hk:Tryz.prog.cellsOf t=4) (h:DataW.trod enc Tryz.prog w 0 spare held fuel t cs=some x): ∃x:Nat,x<WW∧cs=u64s (wl x):=by
 obtain⟨xs,m,_,_,hl,hlen,hx⟩:=DataW.trod_array ht h
 have hl':cs.length=4:=hl.trans hk
 obtain⟨l,h1,h2⟩:=words_of_cells cs fun i hi=>by
  have h:=hx i (by omega)
  rw [List.getElem?_eq_getElem (by omega),hc,Nat.mul_one]at h
  exact open_u64c he h
 have hl4:l.length=4:=h1.trans hl'
 refine⟨v64 l,v64_lt4 hl4,?_⟩
 rw [←wl_self hl4];exact h2
theorem open_ic {P:Program} {t:TypeId} {fuel:Nat} {cs:List Value} {x:DataW H×List MemPlace} (ht:P.underlying t=some (.int .i64)) (h:DataW.trod enc P w 0 spare held fuel t cs=some x): ∃a:Int,cs= [.int .i64 a]∧ -9223372036854775808≤a∧a≤9223372036854775807:=by
 obtain⟨q,hq,_,hw⟩:=DataW.trod_int ht h
 exact⟨q,hq,by simpa [Lit.wf,IntKind.min,IntKind.max,IntKind.signed,IntKind.bits]using hw⟩
theorem cut_cells (cs:List Value) (i k:Nat):cs.drop i=(cs.drop i).take k++cs.drop (i+k):=by
 rw [←List.drop_drop,List.take_append_drop]
end
open Go.Maps (Keyed)
open Go.MapKept Go.ChangeShapes Go.WideShapes
def heldV (v:Value):Option (DataW Value×List MemPlace):=some (.held v,[])
def MapV (P:Program) (k:TypeId) (N:Heaplet) (b n:Nat) (D:DataW Value):Prop:= ∃es clock,N b=some (.map es clock)∧ ∀w:World,w.heap[b]? =some (.map es clock)→w.ownsMap P k heldV b n D
theorem MapV.le {P:Program} {k:TypeId} {N M:Heaplet} {b n:Nat} {D:DataW Value} (h:MapV P k N b n D) (hl:N.le M):MapV P k M b n D:=let ⟨es,c,h1,h2⟩:=h;⟨es,c,hl _ _ h1,h2⟩
theorem MapV.mono {P:Program} {k:TypeId} {N:Heaplet} {b n m:Nat} {D:DataW Value} (h:MapV P k N b n D) (hl:n≤m):MapV P k N b m D:=let ⟨es,c,h1,h2⟩:=h;⟨es,c,h1,fun w hw=>(h2 w hw).mono hl⟩
theorem MapV.off {P:Program} {k:TypeId} {N N':Heaplet} {b n:Nat} {D:DataW Value} (h:MapV P k N b n D) (ho: ∀j,j≠b→N' j=N j) {c i:Nat} {v:Value} (hc:cellOf N c i=some v):cellOf N' c i=some v:=by
 obtain⟨es,cl,h1,_⟩:=h
 by_cases e:c=b
 ·unfold cellOf at hc
  rw [e,h1]at hc;cases hc
 ·unfold cellOf at hc⊢
  rw [ho c e];exact hc
theorem MapV.rsl {P:Program} {k:TypeId} {N N':Heaplet} {b n:Nat} {D:DataW Value} (h:MapV P k N b n D) (ho: ∀j,j≠b→N' j=N j) {size:Nat} {ao:Option Addr} {m cap:Nat} {xs:List Value} (hr:RSl N size ao m cap xs):RSl N' size ao m cap xs:=
 ⟨hr.1,hr.2.1,hr.2.2.1,fun h0=>let ⟨b',off,e,hg⟩:=hr.2.2.2 h0;⟨b',off,e,fun i hi=>h.off ho (hg i hi)⟩⟩
theorem MapV.ne {P:Program} {k:TypeId} {N:Heaplet} {b n c:Nat} {D:DataW Value} {e:TypeId} {cs:List Value} (h:MapV P k N b n D) (hb:Blk N c e cs):c≠b:=fun e=>by
 obtain⟨es,cl,h1,_⟩:=h
 unfold Blk at hb
 rw [e,h1]at hb;cases hb
theorem MapV.blk {P:Program} {k:TypeId} {N N':Heaplet} {b n c:Nat} {D:DataW Value} {e:TypeId} {cs:List Value} (h:MapV P k N b n D) (ho: ∀j,j≠b→N' j=N j) (hb:Blk N c e cs):Blk N' c e cs:=by
 have:=h.ne hb
 unfold Blk at hb⊢
 rw [ho c this];exact hb
theorem keyOf_strV {P:Program} {k:TypeId} (hk:P.underlying k=some .string) {x:List UInt8} (h:x.length≤maxLen):keyOf P k (str x)=some (.string x):=by
 simp [keyOf,hk,mapKey,str,ByteArray.size,h]
section
variable {P : Program} {n : Nat} {l : List (Nat × Value)} {E : World} {L L1 Ls : List Heaplet} {X Y : Act → World → Prop} {d : Nat} {t t' ty k e : TypeId} {m x y : Operand} {N : Heaplet} {b c : Nat} {D : DataW Value}
theorem op_makeMapV {pos:_} {aft:_} {g:_} (k:TypeId) (s:NxA P n l E L ⟨some d,.makeMap t none,ty,pos,aft,g⟩ X Y) (hn:Nat.ble (d+1) n=true) (h: ∀N b,MapV P k N b 0 (.map [])→At n ((d,.map (some b))::l) E (N::L) Y):At n l E L X:=by
 refine op_new s (fun v L'=> ∃N b,v=.map (some b)∧L'=N::L∧MapV P k N b 0 (.map [])) (fun a w hf hw=>?_) rfl hn (fun v L' ⟨N,b,hv,hL,hB⟩=>by subst hv;subst hL;exact h N b hB)
 refine⟨.map (some w.heap.size),w.alloc (.map #[] 0),_,?_,Agree.alloc w _,hw.alloc _,single w.heap.size (.map #[] 0),w.heap.size,rfl,rfl, #[],0,single_self _ _,fun w' hw'=>?_⟩
 ·simp only [execOp,Instr.makeMap,Option.map_none,Sem.run_bind,Sem.run_pure,Result.andThen_ok]
  rfl
 ·exact⟨#[],0,hw',⟨by simp,stamped_empty 0,by simp⟩,Nat.le_refl _,rfl⟩
theorem op_mapUpdateV {pos:_} {aft:_} {g:_} {key val:Value} {kl:Lit} (s:Nx P n l E L ⟨none,.mapUpdate t m x y,ty,pos,aft,g⟩ X Y) (K:Keyed P k) (ht:P.underlying t=some (.map k e)) (hm:ev l m=some (.map (some b))) (hx:ev l x=some key) (hy:ev l y=some val) (hb:MapV P k N b c D) (hc:c<maxLen) (hk:keyOf P k key=some kl) (hs:L.Perm (N::L1))
 (h: ∀N',MapV P k N' b (c+1) (D.put kl (.held val))→(∀j,j≠b→N' j=N j)→At n l E (N'::L1) Y):At n l E L X:=fun a w hf hw=>by
 have hw2:=hw.perm hs
 obtain⟨es,clock,hN,hown⟩:=hb
 have hheap:=hw2.sub N (List.mem_cons_self ..) _ _ hN
 have ho:=hown w hheap
 obtain⟨w',hr,ho',hg⟩:=ho.update K ht hc hk (val:=val) (d:=.held val) (ps:= []) rfl
 obtain⟨es',clock',hb',F',hs',hD'⟩:=ho'
 have henv:=grown_env hg
 refine s a w hf hw ?_
 unfold Oper.wp
 have hrun:(execOp a.eval ⟨none,.mapUpdate t m x y,ty,pos,aft,g⟩).run P w=.ok .skip w':=by
  simp only [execOp,hf.eval hm,hf.eval hx,hf.eval hy,Sem.run_bind,hr,Result.andThen_ok]
  rfl
 rw [hrun]
 exact h (upd N b (.map es' clock')) ⟨es',clock',upd_self _ _ _,fun w2 hw2=>⟨es',clock',hw2,F',hs',hD'⟩⟩ (fun j hj=>if_neg hj) a w' hf (hw2.put hN henv.1 henv.2.1 henv.2.2 hb' fun k hk hlt=>grown_block hg hlt (by
  intro h;exact hk (Option.some.inj h).symm))
theorem op_deleteV {pos:_} {aft:_} {g:_} {key:Value} {kl:Lit} (s:Nx P n l E L ⟨none,.call ⟨.builtin .delete, #[x,y], #[t,k]⟩,ty,pos,aft,g⟩ X Y) (K:Keyed P k) (ht:P.underlying t=some (.map k e)) (hm:ev l x=some (.map (some b))) (hx:ev l y=some key) (hb:MapV P k N b c D) (hk:keyOf P k key=some kl) (hs:L.Perm (N::L1))
 (h: ∀N',MapV P k N' b c (D.del kl)→(∀j,j≠b→N' j=N j)→At n l E (N'::L1) Y):At n l E L X:=fun a w hf hw=>by
 have hw2:=hw.perm hs
 obtain⟨es,clock,hN,hown⟩:=hb
 have hheap:=hw2.sub N (List.mem_cons_self ..) _ _ hN
 have ho:=hown w hheap
 obtain⟨w',hr,ho',hg⟩:=ho.drop K ht hk ty
 have hgr:=hg.grown
 obtain⟨es',clock',hb',F',hs',hD'⟩:=ho'
 have henv:=grown_env hgr
 refine s a w hf hw ?_
 unfold Oper.wp
 have hrun:(execOp a.eval ⟨none,.call ⟨.builtin .delete, #[x,y], #[t,k]⟩,ty,pos,aft,g⟩).run P w=.ok (.value (.tuple #[])) w':=by
  simp only [execOp,resolve,invoke,builtin,Sem.run_bind,Sem.run_pure,Result.andThen_ok,List.map_toArray,List.map_cons,List.map_nil,hf.eval hm,hf.eval hx,hr]
 rw [hrun]
 exact h (upd N b (.map es' clock')) ⟨es',clock',upd_self _ _ _,fun w2 hw2=>⟨es',clock',hw2,F',hs',hD'⟩⟩ (fun j hj=>if_neg hj) a w' hf (hw2.put hN henv.1 henv.2.1 henv.2.2 hb' fun k hk hlt=>grown_block hgr hlt (by
  intro h;exact hk (Option.some.inj h).symm))
theorem op_lookupV {pos:_} {aft:_} {g:_} {key z v:Value} {kl:Lit} (s:NxA P n l E L ⟨some d,.lookup t m x true,ty,pos,aft,g⟩ X Y) (K:Keyed P k) (ht:P.underlying t=some (.map k e)) (hz: ∀w,(zeroValue e).run P w=.ok z w) (hm:ev l m=some (.map (some b))) (hx:ev l x=some key) (hb:MapV P k N b c D) (hk:keyOf P k key=some kl) (hv:D.atKey kl (.held z)=.held v) (hN:N∈L) (hn:Nat.ble (d+1) n=true)
 (h:At n ((d,.tuple #[v,.bool (Maps.has D kl)])::l) E L Y):At n l E L X:=by
 refine op_new s (fun x L'=>x=(.tuple #[v,.bool (Maps.has D kl)])∧L'=L) (fun a w hf hw=>⟨_,w,L,?_,fun _ _=>rfl,hw,rfl,rfl⟩) rfl hn (fun x L' ⟨hx',hL'⟩=>by subst hx';subst hL';exact h)
 obtain⟨es,clock,hNb,hown⟩:=hb
 obtain⟨v',ps,hr,hv'⟩:=(hown w (hw.sub N hN _ _ hNb)).look_ok K ht (hz w) (zd:=.held z) (zp:= []) rfl hk
 rw [hv]at hv'
 have e1:v'=v:=by
  simp only [heldV,Option.some.injEq,Prod.mk.injEq,DataW.held.injEq]at hv'
  exact hv'.1
 rw [e1]at hr
 simp only [execOp,hf.eval hm,hf.eval hx,Sem.run_bind,hr,Result.andThen_ok]
 rfl
theorem op_lookupV1 {pos:_} {aft:_} {g:_} {key z v:Value} {kl:Lit} (s:NxA P n l E L ⟨some d,.lookup t m x false,ty,pos,aft,g⟩ X Y) (K:Keyed P k) (ht:P.underlying t=some (.map k e)) (hz: ∀w,(zeroValue e).run P w=.ok z w) (hm:ev l m=some (.map (some b))) (hx:ev l x=some key) (hb:MapV P k N b c D) (hk:keyOf P k key=some kl) (hv:D.atKey kl (.held z)=.held v) (hN:N∈L) (hn:Nat.ble (d+1) n=true)
 (h:At n ((d,v)::l) E L Y):At n l E L X:=by
 refine op_new s (fun x L'=>x=v∧L'=L) (fun a w hf hw=>⟨_,w,L,?_,fun _ _=>rfl,hw,rfl,rfl⟩) rfl hn (fun x L' ⟨hx',hL'⟩=>by subst hx';subst hL';exact h)
 obtain⟨es,clock,hNb,hown⟩:=hb
 obtain⟨v',ps,hr,hv'⟩:=(hown w (hw.sub N hN _ _ hNb)).lookup K ht (hz w) (zd:=.held z) (zp:= []) rfl hk
 rw [hv]at hv'
 have e1:v'=v:=by
  simp only [heldV,Option.some.injEq,Prod.mk.injEq,DataW.held.injEq]at hv'
  exact hv'.1
 rw [e1]at hr
 simp only [execOp,hf.eval hm,hf.eval hx,Sem.run_bind,hr,Result.andThen_ok]
 rfl
theorem op_lenV {pos:_} {aft:_} {g:_} (s:NxF P n l E L Ls ⟨some d,.call ⟨.builtin .len, #[x], #[t]⟩,ty,pos,aft,g⟩ X Y) (ht:P.underlying t=some (.map k e)) (hx:ev l x=some (.map (some b))) (hb:MapV P k N b c D) (hN:N∈Ls) (hn:Nat.ble (d+1) n=true) (h:At n ((d,.int .i64 (Maps.size D:Int))::l) E L Y):At n l E L X:=by
 refine op_val s (fun a w hf hw=>?_) U hn h
 obtain⟨es,clock,hNb,hown⟩:=hb
 have hl:=(hown w (hw.sub N hN _ _ hNb)).len ht ty
 simp only [execOp,resolve,invoke,builtin,Sem.run_bind,Sem.run_pure,Result.andThen_ok,List.map_toArray,List.map_cons,List.map_nil,hf.eval hx,hl]
end
section
variable {α β : Type} [DecidableEq α]
def delA (k:α) (l:List (α×β)):List (α×β):=l.filter fun p=>decide (p.1≠k)
def putA (k:α) (v:β) (l:List (α×β)):List (α×β):=delA k l++ [(k,v)]
def getA (k:α):List (α×β)→Option β
 | []=>none
 |p::r=>if p.1=k then some p.2 else getA k r
def DisA (l:List (α×β)):Prop:=(l.map Prod.fst).Nodup
theorem mem_delA {k:α} {l:List (α×β)} {p:α×β} :p∈delA k l↔p∈l∧p.1≠k:=by simp [delA]
theorem getA_mem {k:α} {v:β} : ∀ {l:List (α×β)},getA k l=some v→(k,v)∈l
 | [],h=>by cases h
 |p::r,h=>by
  unfold getA at h
  split at h
  ·rename_i e
   cases h
   rw [←e];exact List.mem_cons_self
  ·exact List.mem_cons_of_mem _ (getA_mem h)
theorem getA_of {k:α} {v:β} : ∀ {l:List (α×β)},DisA l→(k,v)∈l→getA k l=some v
 | [],_,h=>by cases h
 |p::r,hd,h=>by
  obtain⟨h1,h2⟩:=List.nodup_cons.1 hd
  unfold getA
  rcases List.mem_cons.1 h with h|h
  ·rw [←h,if_pos rfl]
  ·rw [if_neg fun e=>h1 (List.mem_map.2 ⟨(k,v),h,e.symm⟩)]
   exact getA_of h2 h
theorem getA_none {k:α} : ∀ {l:List (α×β)},getA k l=none↔ ∀p∈l,p.1≠k
 | []=>by simp [getA]
 |p::r=>by
  unfold getA
  split
  ·rename_i e
   simp [e]
  ·rename_i e
   rw [getA_none (l:=r)]
   simp [e]
theorem DisA.del {l:List (α×β)} (h:DisA l) (k:α):DisA (delA k l):=List.Sublist.nodup ((List.filter_sublist).map _) h
theorem DisA.put {l:List (α×β)} (h:DisA l) (k:α) (v:β):DisA (putA k v l):=by
 unfold putA DisA
 rw [List.map_append,List.nodup_append]
 refine⟨h.del k,by simp,fun a ha b hb e=>?_⟩
 obtain⟨p,hp,rfl⟩:=List.mem_map.1 ha
 simp only [List.map_cons,List.map_nil,List.mem_singleton]at hb
 exact(mem_delA.1 hp).2 (e.trans hb)
theorem getA_app {k:α} : ∀ {l m:List (α×β)},getA k (l++m)=(getA k l).or (getA k m)
 | [],m=>by simp [getA]
 |p::r,m=>by
  rw [List.cons_append,getA,getA]
  split
  ·rfl
  ·exact getA_app
theorem getA_del {k j:α} {l:List (α×β)} :getA j (delA k l)=if j=k then none else getA j l:=by
 induction l with
 |nil=>simp [delA,getA]
 |cons p r ih=>
  by_cases e:p.1=k
  ·have:delA k (p::r)=delA k r:=by simp [delA,e]
   rw [this,ih,getA]
   split
   ·rfl
   ·rename_i hj
    rw [if_neg fun h=>hj (h.symm.trans e)]
  ·have:delA k (p::r)=p::delA k r:=by simp [delA,e]
   rw [this,getA,getA,ih]
   split
   ·rename_i h
    rw [if_neg fun hj=>e (h.trans hj)]
   ·rfl
theorem getA_put {k j:α} {v:β} {l:List (α×β)} :getA j (putA k v l)=if j=k then some v else getA j l:=by
 rw [putA,getA_app,getA_del]
 split
 ·rename_i e;simp [getA,e]
 ·rename_i e
  rw [getA,if_neg fun h=>e h.symm,getA];simp
theorem delA_len: ∀ {l:List (α×β)},DisA l→ ∀k,(delA k l).length+(if (getA k l).isSome=true then 1 else 0)=l.length
 | [],_,k=>by simp [delA,getA]
 |p::r,h,k=>by
  obtain⟨h1,h2⟩:=List.nodup_cons.1 h
  have ih:=delA_len (l:=r) h2 k
  by_cases e:p.1=k
  ·have h0:getA k r=none:=getA_none.2 fun q hq hk=>h1 (List.mem_map.2 ⟨q,hq,hk.trans e.symm⟩)
   have h3:delA k (p::r)=delA k r:=by simp [delA,e]
   rw [h3,getA,if_pos e]
   rw [h0]at ih
   simp only [Option.isSome_none,Option.isSome_some,if_pos,List.length_cons]at ih⊢
   simp at ih⊢;omega
  ·have h3:delA k (p::r)=p::delA k r:=by simp [delA,e]
   rw [h3,getA,if_neg e,List.length_cons,List.length_cons];omega
theorem delA_none {l:List (α×β)} {k:α} (h:getA k l=none):delA k l=l:=by
 refine List.filter_eq_self.2 fun p hp=>?_
 exact decide_eq_true (getA_none.1 h p hp)
structure KeyE (κ:α→Lit) (ok:α→Prop):Prop where
 inj: ∀a b,ok a→ok b→κ a=κ b→a=b
 lit: ∀a,ok a→WideAt.IsKeyLit (κ a)
structure MapA (κ:α→Lit) (ok:α→Prop) (val:β→Value) (D:DataW Value) (l:List (α×β)):Prop where
 dis:DisA l
 tidy:Maps.Tidy D
 size:Maps.size D=l.length
 key: ∀p∈l,ok p.1
 has: ∀k,ok k→Maps.has D (κ k)=(getA k l).isSome
 val: ∀p∈l, ∀z,D.atKey (κ p.1) z=.held (val p.2)
variable {κ : α → Lit} {ok : α → Prop} {val : β → Value} {D : DataW Value} {l : List (α × β)}
theorem MapA.nil:MapA κ ok val (.map []) ([]:List (α×β)):=⟨List.nodup_nil,⟨_,rfl,.nil⟩,rfl,fun _ h=>absurd h List.not_mem_nil,fun _ _=>rfl,fun _ h=>absurd h List.not_mem_nil⟩
theorem MapA.look (h:MapA κ ok val D l) {k:α} (hk:ok k) (z:Value):D.atKey (κ k) (.held z)=.held (match getA k l with|some v=>val v|none=>z):=by
 cases hg:getA k l with
 |none=>exact Maps.atKey_of_not_has (by rw [h.has k hk,hg];rfl) _
 |some v=>exact h.val (k,v) (getA_mem hg) _
theorem MapA.del (h:MapA κ ok val D l) (E:KeyE κ ok) {k:α} (hk:ok k):MapA κ ok val (D.del (κ k)) (delA k l):=by
 have hs:=Maps.size_del (k:=κ k) h.tidy
 have hl:=delA_len h.dis k
 rw [h.has k hk]at hs
 have hsz:=h.size
 refine⟨h.dis.del k,h.tidy.del _,by omega,fun p hp=>h.key p (mem_delA.1 hp).1,fun j hj=>?_,fun p hp z=>?_⟩
 ·rw [getA_del]
  by_cases e:j=k
  ·rw [if_pos e,e,Maps.has_del_same];rfl
  ·rw [if_neg e,Maps.has_del_other fun he=>e (E.inj _ _ hj hk he),h.has j hj]
 ·obtain⟨h1,h2⟩:=mem_delA.1 hp
  rw [Maps.atKey_del_other fun he=>h2 (E.inj _ _ (h.key p h1) hk he)]
  exact h.val p h1 z
theorem MapA.put (h:MapA κ ok val D l) (E:KeyE κ ok) {k:α} (hk:ok k) (v:β):MapA κ ok val (D.put (κ k) (.held (val v))) (putA k v l):=by
 have hs:=Maps.size_put (k:=κ k) h.tidy (.held (val v))
 have hl:=delA_len h.dis k
 rw [h.has k hk]at hs
 have hsz:=h.size
 refine⟨h.dis.put k v,h.tidy.put (E.lit k hk) _,?_,fun p hp=>?_,fun j hj=>?_,fun p hp z=>?_⟩
 ·rw [putA,List.length_append,hs]
  simp only [List.length_cons,List.length_nil]
  split<;>simp_all<;>omega
 ·rcases List.mem_append.1 hp with hp|hp
  ·exact h.key p (mem_delA.1 hp).1
  ·rw [List.mem_singleton.1 hp];exact hk
 ·rw [getA_put]
  by_cases e:j=k
  ·rw [if_pos e,e,Maps.has_put_same h.tidy.isMap (E.lit k hk)];rfl
  ·rw [if_neg e,Maps.has_put_other fun he=>e (E.inj _ _ hj hk he),h.has j hj]
 ·rcases List.mem_append.1 hp with hp|hp
  ·obtain⟨h1,h2⟩:=mem_delA.1 hp
   rw [Maps.atKey_put_other fun he=>h2 (E.inj _ _ (h.key p h1) hk he)]
   exact h.val p h1 z
  ·rw [List.mem_singleton.1 hp]
   exact Maps.atKey_put_same h.tidy.isMap (E.lit k hk) _ z
end
end Go.Proofs.YtalmjkcapecpiaaGreat
