/- Several texts in one: see the remarks ahead of each part. No condition but those told there. -/
import Derived.Test.YtjfagifjajielaaGreatX1
import Derived.Test.YtjfagifjajielaaGreatX5
import Derived.Test.YtjfagifjajielaaGreatLen64
set_option linter.unusedSimpArgs false
set_option linter.unusedVariables false
namespace Go.Proofs.YtjfagifjajielaaGreat
open Go Go.RowKit
theorem Fn.of_same {P:Program} {f:FuncId} {args:Array Value} {v:Value} (h: ∀w,Calls P f args w fun e w'=>e=.returned v∧w'=w):Fn P f args [] [] (fun u L=>u=v∧L= []):=fun E w R hw _=>
 (h w).mono fun _ _ ⟨he,hw'⟩=>⟨v,[],he,⟨rfl,rfl⟩,by rw [hw'];exact hw⟩
theorem Len64_f (x:UInt64):Fn Tryz.prog 183 #[.int .u64 (x.toNat:Int)] [] [] (fun u L=>u=.int .i64 (bitLen x.toNat:Nat)∧L= []):=by
 have h:=x.toNat_lt
 have e:Lib.bitLen x.toNat=bitLen x.toNat:=libBitLen_eq (by omega)
 refine Fn.of_same fun w=>(Len64_i (x.toNat:Int) w (by omega) (by omega)).mono ?_
 rintro e1 w' ⟨rfl,rfl⟩
 rw [Int.toNat_natCast,e]
 exact⟨rfl,rfl⟩
theorem bitLen64 (x:UInt64):bitLen x.toNat≤64:=bitLen_le.2 x.toNat_lt
theorem Bits_f {N:Heaplet} {ao:Option Addr} {n cap:Nat} {l:List UInt64} (h:RSl N 1 ao n cap (u64s l)) (hn:n≤17592186044416):
 Fn Tryz.prog 167 #[.slice ao n cap] [] [N] (fun v L=>v=.int .i64 (bitLen (v64 l):Nat)∧L= []):=by
 have hlen:=h.len64
 have hcap:=h.cap63
 refine Fn.enter (vs:= [.slice ao n cap]) Tryz.func167 U U U ?_
 intro E R hR
 have h:=h.le (hR N (by simp))
 have e0:(limbsOf (v64 l)).length=(bitLen (v64 l)+63)/64:=length_limbsOf _
 change At _ _ E [R] _
 refine aC fun _ s_1=>aA (aG U U (aB (s_1 (aC fun _ s_2=>aA (aF U U (aH aZ (.cons U .nil) (Trim_f h) Tryz.func139 U U (by simp) U ?_))))))
 rintro _ _ ⟨rfl,rfl,e1,e2⟩
 show At _ _ _ [R] _
 have h2:=h.take (Nat.le_refl _) (Nat.le_trans e2 hcap.1) e2
 rw [Nat.mul_one,u64s_takeR,e1]at h2
 have hl2:=h2.len64
 refine aG U U (aB (s_2 (aC fun _ s_3=>aC fun _ s_4=>aA (aF U U (bG aD se200 U U (op_eql aD U U U (aB (s_4 (aO U (fun c7=>?_) (fun c7=>?_))))))))))
 ·refine aC fun _ s_5=>aA (aG U U (aB (s_5 (aR (aJ ((aW (L1:= []) U (.tmp U .nil) (.refl _) aM ?_)))))))
  exact⟨by rw [show bitLen (v64 l)=0 by omega];rfl,rfl⟩
 refine aQ (aE (s_3 (aC fun _ s_6=>aA (aF U U (bG aD se200 U U (op_subI aD U U (by omega) (by omega) U (op_mulI aD U U (by omega) (by omega) U (aF U U (aF U U (bG aD se200 U U (op_subI aD U U (by omega) (by omega) U (bU aD se200 U U (by assumption) (show _=((((limbsOf (v64 l)).length- 1:Nat)):Int)from by omega) (by omega) U ?_))))))))))))
 refine cC aD sc24 U (by assumption) (by first|exact get8 (by omega)|exact get64 (by omega)|exact get32 (by omega)) (by simp) U ?_
 refine aH aZ (.cons U .nil) (Len64_f _) Tryz.func183 U U (by simp) U ?_
 rintro _ _ ⟨rfl,rfl⟩
 show At _ _ _ [R] _
 have hb:=bitLen64 ((limbsOf (v64 l)).getD ((limbsOf (v64 l)).length- 1) 0)
 refine a6 aD U U (by omega) (by omega) U (aG U U (aB (s_6 (aR ((aW (L1:= []) U (.tmp U .nil) (.refl _) aM ?_))))))
 have ht:=limbsOf_top' (getD_some (l:=limbsOf (v64 l)) (j:=(limbsOf (v64 l)).length- 1) (z:=0) (by omega))
 exact⟨congrArg (Value.int .i64) (by omega),rfl⟩
theorem byte_at {l:List UInt64} {i:Nat} (h:i/8<l.length):UInt8.ofNat (shr64 (l.getD (i/8) 0) (i % 8*8)).toNat=UInt8.ofNat (v64 l/256^i):=by
 rw [←byte_of_limb h,shr64,UInt64.toNat_ofNat',Nat.mod_eq_of_lt (Nat.lt_of_le_of_lt (Nat.div_le_self _ _) (UInt64.toNat_lt _)),List.getD_eq_getElem?_getD,List.getElem?_eq_getElem h]
 rfl
theorem Bytes_f {N:Heaplet} {ao:Option Addr} {n cap:Nat} {l:List UInt64} (h:RSl N 1 ao n cap (u64s l)) (hn:n≤17592186044416):
 Fn Tryz.prog 174 #[.slice ao n cap] [] [N] (fun v L=> ∃M a,v=.slice a (bytesOf (v64 l)).length (bytesOf (v64 l)).length∧L= [M]∧Row M 5 1 a (bytesOf (v64 l)).length (bytesOf (v64 l)).length (u8s (bytesOf (v64 l)))):=by
 have hlen:=h.len64
 have hcap:=h.cap63
 have hb:bitLen (v64 l)≤64*n:=bitLen_le.2 (by rw [←hlen];exact v64_lt l)
 have hm:(bytesOf (v64 l)).length=(bitLen (v64 l)+7)/8:=length_bytesOf _
 have hB:bytesOf (v64 l)=bytesN (bytesOf (v64 l)).length (v64 l):=by rw [hm];rfl
 generalize (bytesOf (v64 l)).length=m at hm hB⊢
 refine Fn.enter (vs:= [.slice ao n cap]) Tryz.func174 U U U ?_
 intro E R hR
 have h:=h.le (hR N (by simp))
 change At _ _ E [R] _
 refine aC fun _ s_1=>aA (aG U U (aB (s_1 (aC fun _ s_2=>aA (aF U U (aH aZ (.cons U .nil) (Bits_f h hn) Tryz.func167 U U (by simp) U ?_))))))
 rintro _ _ ⟨rfl,rfl⟩
 show At _ _ _ [R] _
 refine a6 aD U U (by omega) (by omega) U (op_quoI aD U U (by omega) (by omega) (by omega) U (aG U U (aB (s_2 (aC fun _ s_3=>aA (aF U U ?_))))))
 refine op_make aZ Tryz.underlying22 te5 U U (show _=(((m:Nat)):Int)from by omega) (show _=(((m:Nat)):Int)from by omega) (by omega) (by unfold maxLen;omega) U (fun N12 a12 r12=>?_)
 rw [made_one _ _ rfl,zero_u8s]at r12
 have s12:=r12.rsl
 refine aG U U (aB (s_3 (aC fun _ s_4=>aC fun _ s_5=>aA (aF U U (bG aD se22 U U (aF U U (aB (s_5 (aT ?_)))))))))
 refine cF (fun fr_ hp_ ms_=> ∃(k:Nat) (Nq:Heaplet),fr_= [(0,.slice ao n cap),(3,.int .i64 (m:Int)),(4,.slice a12 m m),(14,.int .i64 (m:Int)),(15,.int .i64 (k:Int))]∧hp_= [Nq,R]∧m- k=ms_∧(k≤m)∧(Row Nq 5 1 a12 m m (u8s (bytesSt m (v64 l) k)))) ?_ aM ⟨0,N12,rfl,rfl,rfl,by omega,by rw [bytesSt_zero];exact r12⟩ ?_
 ·repeat first|apply bD|exact .nil|exact lkI rfl (by omega)|rfl
 rintro _ _ _ ⟨k,Nq,rfl,rfl,rfl,hk,rq⟩
 have sq:=rq.rsl
 have hlq:=sq.len8
 refine aC fun _ s_6=>aA (op_lss aD U U U (aB (s_6 (aC fun _ s_7=>aO U (fun c16=>?_) (fun c16=>?_)))))
 ·refine aQ (aE (s_7 (aC fun _ s_8=>aT (aC fun _ s_9=>aA (aF U U (aG U U (aB (s_9 (aC fun _ s_10=>aA (aF U U (op_subI aD U U (by omega) (by omega) U (aF U U (op_subI aD U U (by omega) (by omega) U (aG U U (aB (s_10 (aA (aF U U (aF U U (aF U U (aF U U (op_quoI aD U U (by omega) (by omega) (by omega) U (bU aD se200 U U (by assumption) (show _=((((m- 1- k)/8:Nat)):Int)from by omega) (by omega) U ?_)))))))))))))))))))))))
  refine cC aD sc24 U (by assumption) (by first|exact get8 (by omega)|exact get64 (by omega)|exact get32 (by omega)) (by simp) U ?_
  refine aF U U (op_rem aD U U (by omega) (by omega) U (op_mulI aD U U (by omega) (by omega) U (op_shrU aD U U (show _=((((m- 1- k) % 8*8:Nat)):Int)from by omega) U ?_)))
  refine op_conv8 aD (und_some Tryz.underlying24) Tryz.underlying5 U (by first|rfl|exact(Int.toNat_of_nonneg (by omega)).symm) U ?_
  refine bU aD se22 U U (by assumption) (show _=(((k:Nat)):Int)from by omega) (by omega) U ?_
  refine op_storeE nxQ sz5 U U U U U rq (by simp<;>omega) (by simp) sel0 (fun Nq rq=>?_)
  simp only [setL]at rq
  have sq:=rq.rsl
  refine At.opsNil (a0 (aE (s_8 (aA (a6 aD U U (by omega) (by omega) U (aF U U (aB ?_)))))))
  refine bQ ?_ aM ⟨k+1,Nq,rfl,rfl,rfl,by omega,by rw [bytesSt_succ (by omega), ←byte_at (by omega), ←set_u8s];exact rq⟩ ?_
  ·repeat first|apply bD|exact .nil|exact lkI rfl (by omega)|rfl
  ·omega
 refine bW (aK (aK (bH (aE (s_4 (aC fun _ s_11=>aA (aF U U (aG U U (aB (s_11 (aR ((aW (L1:= [Nq]) U (.tmp U .nil) (.refl _) aM ?_)))))))))))))
 obtain rfl:k=m:=by omega
 rw [bytesSt_all, ←hB]at rq
 exact⟨Nq,a12,rfl,rfl,rq⟩
theorem bytesOf_le {n k:Nat} (h:n<256^k):(bytesOf n).length≤k:=by rw [length_bytesOf];exact byteLen_le.2 h
theorem head_f (b n:Nat) (hb:b≤192) (hn:n≤1099511627776):
 Fn Tryz.prog 153 #[.int .i64 (b:Int),.int .i64 (n:Int)] [] [] (fun v L=> ∃M a cap,v=.slice a (rlpHead b n).length cap∧L= [M]∧Row M 5 1 a (rlpHead b n).length cap (u8s (rlpHead b n))):=by
 have h8:=bytesOf_le (n:=n) (k:=8) (by omega)
 refine Fn.enter (vs:= [.int .i64 (b:Int),.int .i64 (n:Int)]) Tryz.func153 U U U ?_
 intro E R hR
 change At _ _ E [R] _
 refine aC fun _ s_1=>aA (aG U U (aB (s_1 (aC fun _ s_2=>aC fun _ s_3=>aA (aF U U (op_leq aD U U U (aB (s_3 (aO U (fun c7=>?_) (fun c7=>?_))))))))))
 ·refine aC fun _ s_4=>aA (aF U U (aF U U (a6 aD U U (by omega) (by omega) U (op_conv8 aD (und_some Tryz.underlying3) Tryz.underlying5 U (show _=(((b+n:Nat)):Int)from by omega) U ?_))))
  refine op_lit aZ Tryz.underlying22 ze5 sz5 (.cons U .nil) U U (by simp [Value.cells]) U U U (fun N12 a12 r12=>?_)
  simp only [flatV,List.flatMap_cons,List.flatMap_nil,Value.cells,List.append_nil,List.cons_append,List.nil_append]at r12
  have s12:=r12.rsl
  refine aG U U (aB (s_4 (aR (aJ ((aW (L1:= [N12]) U (.tmp U .nil) (.refl _) aM ?_))))))
  have e:rlpHead b n= [UInt8.ofNat (b+n)]:=by rw [rlpHead,if_pos (by omega)]
  rw [e]
  exact⟨N12,a12,1,rfl,rfl,r12⟩
 refine aQ (aE (s_2 (aC fun _ s_5=>aA (aF U U (op_conv64 aD (und_some Tryz.underlying3) Tryz.underlying24 U (show _=(((n:Nat)):Int)from by omega) U ?_)))))
 refine op_lit aZ Tryz.underlying200 ze24 sz24 (.cons U .nil) U U (by simp [Value.cells]) U U U (fun N15 a15 r15=>?_)
 simp only [flatV,List.flatMap_cons,List.flatMap_nil,Value.cells,List.append_nil,List.cons_append,List.nil_append]at r15
 have s15:=r15.rsl
 refine aH aZ (.cons U .nil) (Bytes_f (l:= [UInt64.ofNat n]) s15 (by decide)) Tryz.func174 U U (by simp) U ?_
 rintro _ _ ⟨M16,a16,rfl,rfl,r16⟩
 show At _ _ _ [M16,N15,R] _
 rw [v64_one n (by omega)]at r16⊢
 have s16:=r16.rsl
 refine aG U U (aB (s_5 (aC fun _ s_6=>aA (aF U U (a6 aD U U (by omega) (by omega) U (aF U U (bG aD se22 U U (a6 aD U U (by omega) (by omega) U (op_conv8 aD (und_some Tryz.underlying3) Tryz.underlying5 U (show _=(((b+55+(bytesOf n).length:Nat)):Int)from by omega) U ?_)))))))))
 refine op_lit aZ Tryz.underlying22 ze5 sz5 (.cons U .nil) U U (by simp [Value.cells]) U U U (fun N23 a23 r23=>?_)
 simp only [flatV,List.flatMap_cons,List.flatMap_nil,Value.cells,List.append_nil,List.cons_append,List.nil_append]at r23
 have s23:=r23.rsl
 refine aF U U ?_
 refine op_append nxQ Tryz.underlying22 Tryz.underlying22 te5 rfl rfl r23 (by assumption) (by simp) (by first|exact one_u8s _|exact one_u64s _|exact one_u32s _|(intro u hu;simp at hu;subst hu;rfl)) (by omega) (by omega) sel0 rfl (fun N25 a25 p25 r25=>?_)
 have s25:=r25.rsl
 refine aG U U (aB (s_6 (aR ((cA (a7 (aW (L1:= [N25]) U (.tmp U .nil) (.refl _) aM ?_)))))))
 have e:rlpHead b n=UInt8.ofNat (b+55+(bytesOf n).length)::bytesOf n:=by rw [rlpHead,if_neg (by omega)]
 rw [e,List.length_cons,Nat.add_comm (bytesOf n).length 1]
 exact⟨N25,a25,p25,rfl,rfl,r25⟩
theorem run_add64' {P:Program} (x y c:UInt64) (hc:c.toNat≤1) (w:World):(add64Entry #[.int .u64 (x.toNat:Int),.int .u64 (y.toNat:Int),.int .u64 (c.toNat:Int)]).run P w=.ok (.tuple #[.int .u64 ((addS x y c).toNat:Int),.int .u64 ((addC x y c).toNat:Int)]) w:=by
 rw [run_add64 _ _ _ (by omega) (by omega) (by omega) (by omega),addS_nat,addC_nat _ _ _ hc]
 congr 5
theorem Add64_x (x y c:UInt64) (hc:c.toNat≤1) (w:World):(callFunc 163 #[.int .u64 (x.toNat:Int),.int .u64 (y.toNat:Int),.int .u64 (c.toNat:Int)]).run Tryz.prog w=.ok (.value (.tuple #[.int .u64 ((addS x y c).toNat:Int),.int .u64 ((addC x y c).toNat:Int)])) w:=by
 rw [run_callFunc_extern Tryz.func163 (by kernel_rfl) (by kernel_rfl) (by kernel_rfl) (e:=add64Entry) (by kernel_rfl),run_add64' x y c hc]
 rfl
def sub64E:Array Value→Sem Value:=fun args=>do
 let (x,y,b)←Extern.MathBitsCarry.three "Sub64" args
 pure (Extern.MathBitsCarry.pair ((x+Extern.MathBitsCarry.m64- y- b) % Extern.MathBitsCarry.m64) (if x<y+b then 1 else 0))
theorem run_sub64' {P:Program} (x y b:Nat) (hb:b≤1) (w:World):(sub64E #[.int .u64 x,.int .u64 y,.int .u64 b]).run P w=
 .ok (.tuple #[.int .u64 (((x+18446744073709551616- y- b) % 18446744073709551616:Nat):Int),.int .u64 ((if x<y+b then 1 else 0:Nat):Int)]) w:=by
 have:b=0∨b=1:=by omega
 rcases this with rfl|rfl<;>rfl
theorem Sub64_x (x y c:UInt64) (hc:c.toNat≤1) (w:World):(callFunc 165 #[.int .u64 (x.toNat:Int),.int .u64 (y.toNat:Int),.int .u64 (c.toNat:Int)]).run Tryz.prog w=.ok (.value (.tuple #[.int .u64 ((subS x y c).toNat:Int),.int .u64 ((subC x y c).toNat:Int)])) w:=by
 rw [run_callFunc_extern Tryz.func165 (by kernel_rfl) (by kernel_rfl) (by kernel_rfl) (e:=sub64E) (by kernel_rfl),run_sub64' _ _ _ hc,subS_nat,subC_nat]
 rfl
theorem LeadingZeros64_f (x:UInt64):Fn Tryz.prog 180 #[.int .u64 (x.toNat:Int)] [] [] (fun v L=>v=.int .i64 (64- (bitLen x.toNat:Nat))∧L= []):=by
 have h64:=bitLen64 x
 refine Fn.enter (vs:= [.int .u64 (x.toNat:Int)]) Tryz.func180 U U U ?_
 intro E R hR
 change At _ _ E [R] _
 refine aC fun _ s_1=>aA (aG U U (aB (s_1 (aC fun _ s_2=>aA (aF U U (aH aZ (.cons U .nil) (Len64_f x) Tryz.func183 U U (by simp) U ?_))))))
 rintro _ _ ⟨rfl,rfl⟩
 show At _ _ _ [R] _
 refine op_subI aD U U (by omega) (by omega) U (aG U U (aB (s_2 (aR ((aW (L1:= []) U (.tmp U .nil) (.refl _) aM ?_))))))
 exact⟨rfl,rfl⟩
theorem Mul64_f (x y:UInt64):Fn Tryz.prog 162 #[.int .u64 (x.toNat:Int),.int .u64 (y.toNat:Int)] [] [] (fun v L=>v=.tuple #[.int .u64 ((mulH x y).toNat:Int),.int .u64 ((x*y).toNat:Int)]∧L= []):=by
 refine Fn.enter (vs:= [.int .u64 (x.toNat:Int),.int .u64 (y.toNat:Int)]) Tryz.func162 U U U ?_
 intro E R hR
 change At _ _ E [R] _
 refine aC fun _ s_1=>aA (aG U U (aG U U (aB (s_1 (aC fun _ s_2=>aA (aF U U (op_andU (b:=4294967295) aD U U U (aG U U (aB (s_2 (aC fun _ s_3=>aA (aF U U (op_shrU aD U U (show _=((32:Nat):Int)from U) U (aG U U (aB (s_3 (aC fun _ s_4=>aA (aF U U (op_andU (b:=4294967295) aD U U U (aG U U (aB (s_4 (aC fun _ s_5=>aA (aF U U (op_shrU aD U U (show _=((32:Nat):Int)from U) U (aG U U (aB (s_5 (aC fun _ s_6=>aA (aF U U (aF U U (op_mulU aD U U U (aG U U (At.opsNil ?_))))))))))))))))))))))))))))))))))
 refine aE (s_6 (aC fun _ s_7=>aA (aF U U (aF U U (op_mulU aD U U U (aF U U (op_shrU aD U U (show _=((32:Nat):Int)from U) U (op_addU aD U U U (aG U U (aB (s_7 (aC fun _ s_8=>aA (aF U U (op_andU (b:=4294967295) aD U U U (aG U U (aB (s_8 (aC fun _ s_9=>aA (aF U U (op_shrU aD U U (show _=((32:Nat):Int)from U) U (aG U U (aB (s_9 (aC fun _ s_10=>aA (aF U U (aF U U (aF U U (op_mulU aD U U U (op_addU aD U U U (aG U U (aB (s_10 (aC fun _ s_11=>aA (aF U U (aF U U (op_mulU aD U U U ?_))))))))))))))))))))))))))))))))))))
 refine aF U U (op_addU aD U U U (aF U U (op_shrU aD U U (show _=((32:Nat):Int)from U) U (op_addU aD U U U (aG U U (aB (s_11 (aC fun _ s_12=>aA (aF U U (aF U U (op_mulU aD U U U (aG U U (aB (s_12 (aR ((bV (L1:= []) U (.tmp U (.tmp U .nil)) U (.refl _) aM ?_)))))))))))))))))
 exact⟨by rw [←mulH_eq],rfl⟩
theorem and32 (z:UInt64):(z&&&4294967295).toNat=z.toNat % 4294967296:=by
 rw [UInt64.toNat_and];exact Nat.and_two_pow_sub_one_eq_mod z.toNat 32
theorem shr32n (z:UInt64):(shr64 z 32).toNat=z.toNat/4294967296:=by rw [shr64_nat]
theorem div_pos64 {y:UInt64} (h:0<y.toNat):y.toNat*2^(64- bitLen y.toNat)<18446744073709551616∧9223372036854775808≤y.toNat*2^(64- bitLen y.toNat):=by
 have h1:=lt_bitLen y.toNat
 have h2:=bitLen64 y
 have h3:=bitLen_pos h
 have h4:2^(bitLen y.toNat- 1)≤y.toNat:=by
  rcases Nat.lt_or_ge y.toNat (2^(bitLen y.toNat- 1))with h5|h5
  ·have:=bitLen_le.2 h5;omega
  ·exact h5
 constructor
 ·have e:(18446744073709551616:Nat)=2^bitLen y.toNat*2^(64- bitLen y.toNat):=by rw [←Nat.pow_add,show bitLen y.toNat+(64- bitLen y.toNat)=64 by omega]
  rw [e]
  exact Nat.mul_lt_mul_of_pos_right h1 (Nat.pow_pos (by decide))
 ·have e:(9223372036854775808:Nat)=2^(bitLen y.toNat- 1)*2^(64- bitLen y.toNat):=by rw [←Nat.pow_add,show bitLen y.toNat- 1+(64- bitLen y.toNat)=63 by omega]
  rw [e]
  exact Nat.mul_le_mul_right _ h4
theorem un_shift {hi lo y:UInt64} {s:Nat} (hs:s≤64) (h:hi.toNat<y.toNat) (hy:y.toNat*2^s<18446744073709551616):
 (shl64 hi s |||shr64 lo (64- s)).toNat<y.toNat*2^s∧(shl64 hi s |||shr64 lo (64- s)).toNat*18446744073709551616+(shl64 lo s).toNat=(hi.toNat*18446744073709551616+lo.toNat)*2^s:=by
 have hlo:=lo.toNat_lt
 have e1:(2:Nat)^64=2^(64- s)*2^s:=by rw [←Nat.pow_add];congr 1;omega
 have hp:0<2^s:=Nat.pow_pos (by decide)
 have hq:0<2^(64- s):=Nat.pow_pos (by decide)
 have h1:hi.toNat*2^s+2^s≤y.toNat*2^s:=by
  have:=Nat.mul_le_mul_right (2^s) (show hi.toNat+1≤y.toNat by omega)
  rwa [Nat.add_mul,Nat.one_mul]at this
 have hhi:hi.toNat*2^s % 2^64=hi.toNat*2^s:=Nat.mod_eq_of_lt (by omega)
 have hlt:lo.toNat/2^(64- s)<2^s:=by
  rw [Nat.div_lt_iff_lt_mul hq,Nat.mul_comm, ←e1];exact hlo
 have hor:(shl64 hi s |||shr64 lo (64- s)).toNat=hi.toNat*2^s+lo.toNat/2^(64- s):=by
  rw [UInt64.toNat_or,shl64_nat,shr64_nat,hhi,Nat.mul_comm,Nat.two_pow_add_eq_or_of_lt hlt]
 have hl:(shl64 lo s).toNat=lo.toNat % 2^(64- s)*2^s:=by
  rw [shl64_nat,e1,Nat.mul_mod_mul_right]
 rw [hor,hl]
 refine⟨by omega,?_⟩
 have e2:(18446744073709551616:Nat)=2^(64- s)*2^s:=e1
 have e3:=Nat.div_add_mod lo.toNat (2^(64- s))
 rw [Nat.add_mul,Nat.add_mul,Nat.mul_right_comm hi.toNat,e2]
 have e4:lo.toNat*2^s=lo.toNat/2^(64- s)*(2^(64- s)*2^s)+lo.toNat % 2^(64- s)*2^s:=by
  conv=>lhs;rw [←e3]
  rw [Nat.add_mul,Nat.mul_comm (2^(64- s)),Nat.mul_assoc]
 rw [e4,Nat.add_assoc]
theorem back_shift {X y Y q r:Nat} {s:Nat} (hY:Y=y*2^s) (hq:q=X*2^s/Y) (hr:r=X*2^s % Y):q=X/y∧r/2^s=X % y:=by
 have hp:0<2^s:=Nat.pow_pos (by decide)
 subst hY
 constructor
 ·rw [hq,Nat.mul_div_mul_right _ _ hp]
 ·rw [hr,Nat.mul_mod_mul_right,Nat.mul_div_cancel _ hp]
theorem d_test {Q RH y0 u1:UInt64} (hq:Q.toNat<4294967296) (h0:y0.toNat<4294967296) (hr:RH.toNat<4294967296) (hu:u1.toNat<4294967296):
 (4294967296*RH+u1).toNat=RH.toNat*4294967296+u1.toNat∧(Q*y0).toNat=Q.toNat*y0.toNat:=by
 have h1:=Nat.mul_le_mul (show Q.toNat≤4294967295 by omega) (show y0.toNat≤4294967295 by omega)
 have e:(4294967296:UInt64).toNat=4294967296:=rfl
 constructor
 ·rw [UInt64.toNat_add,UInt64.toNat_mul,e,Nat.mul_comm,Nat.mod_eq_of_lt (show RH.toNat*4294967296<2^64 by omega),Nat.mod_eq_of_lt (show RH.toNat*4294967296+u1.toNat<2^64 by omega)]
 ·rw [UInt64.toNat_mul,Nat.mod_eq_of_lt (Nat.lt_of_le_of_lt h1 (by decide))]
theorem d_first {R y1:UInt64} (_h:0<y1.toNat):(R/y1).toNat=R.toNat/y1.toNat∧(R- R/y1*y1).toNat=R.toNat- R.toNat/y1.toNat*y1.toNat:=by
 have e1:(R/y1).toNat=R.toNat/y1.toNat:=UInt64.toNat_div ..
 have hle:R.toNat/y1.toNat*y1.toNat≤R.toNat:=Nat.div_mul_le_self _ _
 have hR:=R.toNat_lt
 have e2:(R/y1*y1).toNat=R.toNat/y1.toNat*y1.toNat:=by rw [UInt64.toNat_mul,e1,Nat.mod_eq_of_lt (Nat.lt_of_le_of_lt hle hR)]
 refine⟨e1,?_⟩
 rw [UInt64.toNat_sub_of_le _ _ (by rw [UInt64.le_iff_toNat_le,e2];exact hle),e2]
theorem sub_one64 {Q:UInt64} (h:0<Q.toNat):(Q- 1).toNat=Q.toNat- 1:=by
 rw [UInt64.toNat_sub_of_le _ _ (by rw [UInt64.le_iff_toNat_le];exact h)];rfl
theorem d_rest {R u1 Q Y:UInt64} (hY:0<Y.toNat) (hQ:Q.toNat=(R.toNat*4294967296+u1.toNat)/Y.toNat) (hu:u1.toNat<4294967296):(R*4294967296+u1- Q*Y).toNat=(R.toNat*4294967296+u1.toNat) % Y.toNat:=by
 have e:(4294967296:UInt64).toNat=4294967296:=rfl
 have h:=d_low (T:=R.toNat*4294967296+u1.toNat) (Y:=Y.toNat) (q:=Q.toNat) (B:=2^64) hQ hY (Nat.le_of_lt Y.toNat_lt) (R*4294967296+u1).toNat (Q*Y).toNat (by
  rw [UInt64.toNat_add,UInt64.toNat_mul,e,Nat.mod_mod,Nat.mod_add_mod]) (by rw [UInt64.toNat_mul,Nat.mod_mod])
 rw [←h,UInt64.toNat_sub,Nat.mod_eq_of_lt (R*4294967296+u1).toNat_lt,Nat.mod_eq_of_lt (Q*Y).toNat_lt]
 have:=(R*4294967296+u1).toNat_lt
 have:=(Q*Y).toNat_lt
 congr 1
 omega
def DivP (hi lo y:UInt64) (v:Value) (L:List Heaplet):Prop:=
 ∃q r:UInt64,v=.tuple #[.int .u64 (q.toNat:Int),.int .u64 (r.toNat:Int)]∧L= []∧q.toNat=(hi.toNat*18446744073709551616+lo.toNat)/y.toNat∧r.toNat=(hi.toNat*18446744073709551616+lo.toNat) % y.toNat
theorem div_end {hi lo y S Y un32 un10 u1 u0 un21 Q1 Q0:UInt64} (hY:Y.toNat=y.toNat*2^S.toNat) (hun:un32.toNat*18446744073709551616+un10.toNat=(hi.toNat*18446744073709551616+lo.toNat)*2^S.toNat)
 (hU:un10.toNat=u1.toNat*4294967296+u0.toNat) (hr21:un21.toNat=(un32.toNat*4294967296+u1.toNat) % Y.toNat) (hQ1:Q1.toNat=(un32.toNat*4294967296+u1.toNat)/Y.toNat)
 (hQ0:Q0.toNat=(un21.toNat*4294967296+u0.toNat)/Y.toNat) (hr:(un21*4294967296+u0- Q0*Y).toNat=(un21.toNat*4294967296+u0.toNat) % Y.toNat) (hYp:0<Y.toNat) (hlt:hi.toNat<y.toNat):
 DivP hi lo y (.tuple #[.int .u64 ((Q1*4294967296+Q0).toNat:Int),.int .u64 ((shr64 (un21*4294967296+u0- Q0*Y) S.toNat).toNat:Int)]) []:=by
 have e:(4294967296:UInt64).toNat=4294967296:=rfl
 obtain⟨k1,k2⟩:=d_two (R:=un32.toNat) (u1:=u1.toNat) (u0:=u0.toNat) hYp
 rw [←hr21]at k1 k2
 have hX:(un32.toNat*4294967296+u1.toNat)*4294967296+u0.toNat=(hi.toNat*18446744073709551616+lo.toNat)*2^S.toNat:=by
  rw [←hun,hU,Nat.add_mul,Nat.mul_assoc,Nat.add_assoc]
 rw [hX]at k1 k2
 rw [←hQ1, ←hQ0]at k1
 obtain⟨j1,j2⟩:=back_shift hY k1 k2
 have hq:(Q1*4294967296+Q0).toNat=(hi.toNat*18446744073709551616+lo.toNat)/y.toNat:=by
  rw [UInt64.toNat_add,UInt64.toNat_mul,e,Nat.mod_add_mod,j1]
  refine Nat.mod_eq_of_lt ?_
  have hl:=lo.toNat_lt
  rw [Nat.div_lt_iff_lt_mul (by omega)]
  omega
 exact⟨_,_,rfl,rfl,hq,by rw [shr64_nat,hr,j2]⟩
theorem Div64_f (hi lo y:UInt64) (h:hi.toNat<y.toNat):Fn Tryz.prog 186 #[.int .u64 (hi.toNat:Int),.int .u64 (lo.toNat:Int),.int .u64 (y.toNat:Int)] [] [] (DivP hi lo y):=by
 have hylt:=y.toNat_lt
 obtain⟨hY1,hY2⟩:=div_pos64 (show 0<y.toNat by omega)
 have hbl:=bitLen64 y
 refine Fn.enter (vs:= [.int .u64 (hi.toNat:Int),.int .u64 (lo.toNat:Int),.int .u64 (y.toNat:Int)]) Tryz.func186 U U U ?_
 intro E R hR
 change At _ _ E [R] _
 refine aC fun _ s_1=>aA (aG U U (aG U U (aB (s_1 (aC fun _ s_2=>aC fun _ s_3=>aA (aF U U (op_eql aD U U U (aB (s_3 (aO U (fun c20=>?_) (fun c20=>?_)))))))))))
 ·exfalso;omega
 refine aQ (aE (s_2 (aC fun _ s_4=>aC fun _ s_5=>aA (aF U U (aF U U (op_leq aD U U U (aB (s_5 (aO U (fun c24=>?_) (fun c24=>?_))))))))))
 ·exfalso;omega
 refine aQ (aE (s_4 (aC fun _ s_6=>aC fun _ s_7=>aA (aF U U (op_eql aD U U U (aB (s_7 (aO U (fun c27=>?_) (fun c27=>?_)))))))))
 ·refine aC fun _ s_8=>At.drawnS [R] [] [] [0,1,2,3,4,5,6,7] (by kernel_rfl) (by kernel_rfl) (.refl _) (aL (bF U U U) U U (aL (bF U U U) U U (op_quoU (bF U U U) U U (by omega) U (aL (bF U U U) U U (aL (bF U U U) U U (op_remU (bF U U U) U U (by omega) U (bX (bF U U U) U U (bX (bF U U U) U U (At.sNil (aE (s_8 (aR (aJ ((bV (L1:= []) U (.tmp U (.tmp U .nil)) U (.refl _) aM ?_)))))))))))))))
  exact⟨lo/y,lo % y,rfl,rfl,by rw [UInt64.toNat_div,show hi.toNat=0 by omega,Nat.zero_mul,Nat.zero_add],by rw [UInt64.toNat_mod,show hi.toNat=0 by omega,Nat.zero_mul,Nat.zero_add]⟩
 refine aQ (aE (s_6 (aC fun _ s_9=>aA (aF U U (aH aZ (.cons U .nil) (LeadingZeros64_f y) Tryz.func180 U U (by simp) U ?_)))))
 rintro _ _ ⟨rfl,rfl⟩
 show At _ _ _ [R] _
 refine op_conv64 aD (und_some Tryz.underlying3) Tryz.underlying222 U (show _=(((64- bitLen y.toNat:Nat)):Int)from by omega) U ?_
 have hS:(UInt64.ofNat (64- bitLen y.toNat)).toNat=64- bitLen y.toNat:=by rw [UInt64.toNat_ofNat'];omega
 generalize UInt64.ofNat (64- bitLen y.toNat)=S at*
 refine aG U U (aB (s_9 (aC fun _ s_10=>aA (aF U U (aF U U (op_shlU aD U U (by first|rfl|exact(Int.toNat_of_nonneg (by omega)).symm) U ?_))))))
 have hY:(shl64 y S.toNat).toNat=y.toNat*2^S.toNat:=by rw [shl64_nat,hS];exact Nat.mod_eq_of_lt hY1
 rw [←hS]at hY1 hY2
 rw [←hY]at hY2
 have hun:=un_shift (hi:=hi) (lo:=lo) (y:=y) (s:=S.toNat) (by omega) h hY1
 rw [←hY]at hun
 generalize shl64 y S.toNat=Y at*
 have hYlt:=Y.toNat_lt
 refine aG U U (aB (s_10 (aC fun _ s_11=>aA (aF U U (op_shrU aD U U (show _=((32:Nat):Int)from U) U ?_)))))
 have hy1:(shr64 Y 32).toNat=Y.toNat/4294967296:=shr32n Y
 generalize shr64 Y 32=y1 at*
 refine aG U U (aB (s_11 (aC fun _ s_12=>aA (aF U U (op_andU (b:=4294967295) aD U U U ?_)))))
 have hy0:(Y&&&4294967295).toNat=Y.toNat % 4294967296:=and32 Y
 generalize Y&&&4294967295=y0 at*
 refine aG U U (aB (s_12 (aC fun _ s_13=>aA (aF U U (aF U U (op_shlU aD U U (by first|rfl|exact(Int.toNat_of_nonneg (by omega)).symm) U ?_))))))
 refine aF U U (aF U U (op_subU (a:=64) aD U U U ?_))
 have h64:((64:UInt64)- S).toNat=64- S.toNat:=by
  rw [UInt64.toNat_sub_of_le _ _ (by rw [UInt64.le_iff_toNat_le];show S.toNat≤64;omega)];rfl
 refine op_shrU aD U U (by first|rfl|exact(Int.toNat_of_nonneg (by omega)).symm) U ?_
 refine op_orU aD U U U ?_
 rw [←h64]at hun
 generalize shl64 hi S.toNat |||shr64 lo ((64:UInt64)- S).toNat=un32 at*
 refine aG U U (aB (s_13 (aC fun _ s_14=>aA (aF U U (aF U U (op_shlU aD U U (by first|rfl|exact(Int.toNat_of_nonneg (by omega)).symm) U ?_))))))
 generalize shl64 lo S.toNat=un10 at*
 have h10:=un10.toNat_lt
 refine aG U U (aB (s_14 (aC fun _ s_15=>aA (aF U U (op_shrU aD U U (show _=((32:Nat):Int)from U) U ?_)))))
 have hu1:(shr64 un10 32).toNat=un10.toNat/4294967296:=shr32n un10
 generalize shr64 un10 32=u1 at*
 refine aG U U (aB (s_15 (aC fun _ s_16=>aA (aF U U (op_andU (b:=4294967295) aD U U U ?_)))))
 have hu0:(un10&&&4294967295).toNat=un10.toNat % 4294967296:=and32 un10
 generalize un10&&&4294967295=u0 at*
 have hYe:Y.toNat=y1.toNat*4294967296+y0.toNat:=by omega
 have hUe:un10.toNat=u1.toNat*4294967296+u0.toNat:=by omega
 have hR:un32.toNat<y1.toNat*4294967296+y0.toNat:=by rw [←hYe];exact hun.1
 refine aG U U (aB (s_16 (aC fun _ s_17=>aA (aF U U (aF U U (op_quoU aD U U (by omega) U (aG U U (aB (s_17 (aC fun _ s_18=>aA (aF U U (aF U U (aF U U (op_mulU aD U U U (op_subU aD U U U ?_)))))))))))))))
 obtain⟨f1,f2⟩:=d_first (R:=un32) (y1:=y1) (by omega)
 have hI:=d_start (R:=un32.toNat) (u1:=u1.toNat) (y1:=y1.toNat) (y0:=y0.toNat) hR (by omega) (by omega) (by omega)
 rw [←f2, ←f1]at hI
 have hrh:(un32- un32/y1*y1).toNat<4294967296:=by
  rw [f2]
  have e:=Nat.div_add_mod un32.toNat y1.toNat
  have hm:=Nat.mod_lt un32.toNat (show 0<y1.toNat by omega)
  rw [Nat.mul_comm]at e
  omega
 refine aG U U (aB (s_18 (aC fun _ s_19=>At.meet (fun fr_ hp_=> ∃(Q1:UInt64),fr_= [(2,.int .u64 (Y.toNat:Int)),(8,.int .u64 (S.toNat:Int)),(9,.int .u64 (y1.toNat:Int)),(10,.int .u64 (y0.toNat:Int)),(11,.int .u64 (un32.toNat:Int)),(13,.int .u64 (u1.toNat:Int)),(14,.int .u64 (u0.toNat:Int)),(15,.int .u64 (Q1.toNat:Int))]∧hp_= [R]∧(Q1.toNat=(un32.toNat*4294967296+u1.toNat)/Y.toNat)) ?_ (fun K19_ jk_19=>?_))))
 rotate_left
 ·skip
  refine aT (cF (fun fr_ hp_ ms_=> ∃(Q RH:UInt64),fr_= [(2,.int .u64 (Y.toNat:Int)),(8,.int .u64 (S.toNat:Int)),(9,.int .u64 (y1.toNat:Int)),(10,.int .u64 (y0.toNat:Int)),(11,.int .u64 (un32.toNat:Int)),(13,.int .u64 (u1.toNat:Int)),(14,.int .u64 (u0.toNat:Int)),(15,.int .u64 (Q.toNat:Int)),(16,.int .u64 (RH.toNat:Int))]∧hp_= [R]∧Q.toNat=ms_∧(DInv un32.toNat u1.toNat y1.toNat y0.toNat Q.toNat RH.toNat)∧(RH.toNat<4294967296)) ?_ aM ⟨un32/y1,un32- un32/y1*y1,rfl,rfl,rfl,hI,hrh⟩ ?_)
  ·repeat first|apply bD|exact .nil|exact lkI rfl (by omega)|rfl
  rintro _ _ _ ⟨Q,RH,rfl,rfl,rfl,hI,hrh⟩
  refine aC fun _ s_20=>aC fun _ s_21=>aA (aF U U (op_geq aD U U U (aF U U (cJ (d:=69) U (fun g69=>?_) (fun g69=>?_)))))
  ·have hgt:RH.toNat*4294967296+u1.toNat<Q.toNat*y0.toNat:=d_gt hI hR (by omega) (by omega)
   refine aU U U U U U U U (aU U U U U U U U (aU U U U U U U U (aU U U U U U U U (aU U U U U U U U (aU U U U U U U U (aU U U U U U U U (aU U U U U U U U (bO aD U U U (aB (s_21 (At.condT U (aQ (aE (s_20 (aT (aC fun _ s_22=>aA ?_))))))))))))))))
   obtain⟨m1,m2,m3⟩:=d_more hI hgt
   have q1':=sub_one64 m1
   have q2':(RH+y1).toNat=RH.toNat+y1.toNat:=by rw [UInt64.toNat_add];exact Nat.mod_eq_of_lt (by omega)
   refine aF U U (op_subU (b:=1) aD U U U (aG U U (aB (s_22 (aC fun _ s_23=>aA (aF U U (aF U U (op_addU aD U U U (aG U U (aB (s_23 (aC fun _ s_24=>aA (aF U U (op_geq aD U U U (aB (s_24 (aO U (fun c85=>?_) (fun c85=>?_))))))))))))))))))
   ·refine bW (At.inMiss U (aK (bH ?_)))
    refine aE (jk_19 ?_ aM ⟨Q- 1,rfl,rfl,by rw [hYe];rw [q1'];exact d_brk m2 m3 (by omega) (by omega) (by omega)⟩)
    repeat first|apply bD|exact .nil|exact lkI rfl (by omega)|rfl
   refine aQ (a0 (aE ?_))
   refine bQ ?_ aM ⟨Q- 1,RH+y1,rfl,rfl,rfl,by rw [q1',q2'];exact m2,by omega⟩ ?_
   ·repeat first|apply bD|exact .nil|exact lkI rfl (by omega)|rfl
   ·omega
  obtain⟨t1,t2⟩:=d_test (Q:=Q) (RH:=RH) (y0:=y0) (u1:=u1) (by omega) (by omega) (by omega) (by omega)
  refine aL (cL U U U U) U U (aL (cL U U U U) U U (op_mulU (cL U U U U) U U U (aL (cL U U U U) U U (op_mulU (a:=4294967296) (cL U U U U) U U U (aL (cL U U U U) U U (op_addU (cL U U U U) U U U (op_gtr (cL U U U U) U U U (cB aD U U U (aB (s_21 (aO U (fun c78=>?_) (fun c78=>?_))))))))))))
  ·have hgt:RH.toNat*4294967296+u1.toNat<Q.toNat*y0.toNat:=by rw [←t1, ←t2];omega
   refine aQ (aE (s_20 (aT (aC fun _ s_25=>aA ?_))))
   obtain⟨m1,m2,m3⟩:=d_more hI hgt
   have q1':=sub_one64 m1
   have q2':(RH+y1).toNat=RH.toNat+y1.toNat:=by rw [UInt64.toNat_add];exact Nat.mod_eq_of_lt (by omega)
   refine aF U U (op_subU (b:=1) aD U U U (aG U U (aB (s_25 (aC fun _ s_26=>aA (aF U U (aF U U (op_addU aD U U U (aG U U (aB (s_26 (aC fun _ s_27=>aA (aF U U (op_geq aD U U U (aB (s_27 (aO U (fun c85=>?_) (fun c85=>?_))))))))))))))))))
   ·refine bW (At.inMiss U (aK (bH ?_)))
    refine aE (jk_19 ?_ aM ⟨Q- 1,rfl,rfl,by rw [hYe];rw [q1'];exact d_brk m2 m3 (by omega) (by omega) (by omega)⟩)
    repeat first|apply bD|exact .nil|exact lkI rfl (by omega)|rfl
   refine aQ (a0 (aE ?_))
   refine bQ ?_ aM ⟨Q- 1,RH+y1,rfl,rfl,rfl,by rw [q1',q2'];exact m2,by omega⟩ ?_
   ·repeat first|apply bD|exact .nil|exact lkI rfl (by omega)|rfl
   ·omega
  refine bW (aK (aK (bH ?_)))
  refine aE (jk_19 ?_ aM ⟨Q,rfl,rfl,by rw [hYe];exact d_at hI (by rw [←t1, ←t2];omega) (by omega)⟩)
  repeat first|apply bD|exact .nil|exact lkI rfl (by omega)|rfl
 rintro _ _ ⟨Q1,rfl,rfl,hQ1⟩
 refine s_19 (aC fun _ s_28=>aA (aF U U (op_mulU (b:=4294967296) aD U U U (aF U U (op_addU aD U U U (aF U U (aF U U (op_mulU aD U U U (op_subU aD U U U ?_)))))))))
 have hr21:=d_rest (R:=un32) (u1:=u1) (Q:=Q1) (Y:=Y) (by omega) hQ1 (by omega)
 generalize un32*4294967296+u1- Q1*Y=un21 at*
 have hR2:un21.toNat<y1.toNat*4294967296+y0.toNat:=by rw [←hYe,hr21];exact Nat.mod_lt _ (by omega)
 refine aG U U (aB (s_28 (aC fun _ s_29=>aA (aF U U (aF U U (op_quoU aD U U (by omega) U (aG U U (aB (s_29 (aC fun _ s_30=>aA (aF U U (aF U U (aF U U (op_mulU aD U U U (op_subU aD U U U ?_)))))))))))))))
 obtain⟨f1,f2⟩:=d_first (R:=un21) (y1:=y1) (by omega)
 have hI:=d_start (R:=un21.toNat) (u1:=u0.toNat) (y1:=y1.toNat) (y0:=y0.toNat) hR2 (by omega) (by omega) (by omega)
 rw [←f2, ←f1]at hI
 have hrh:(un21- un21/y1*y1).toNat<4294967296:=by
  rw [f2]
  have e:=Nat.div_add_mod un21.toNat y1.toNat
  have hm:=Nat.mod_lt un21.toNat (show 0<y1.toNat by omega)
  rw [Nat.mul_comm]at e
  omega
 refine aG U U (aB (s_30 (aC fun _ s_31=>At.meet (fun fr_ hp_=> ∃(Q0:UInt64),fr_= [(2,.int .u64 (Y.toNat:Int)),(8,.int .u64 (S.toNat:Int)),(14,.int .u64 (u0.toNat:Int)),(15,.int .u64 (Q1.toNat:Int)),(17,.int .u64 (un21.toNat:Int)),(18,.int .u64 (Q0.toNat:Int))]∧hp_= [R]∧(Q0.toNat=(un21.toNat*4294967296+u0.toNat)/Y.toNat)) ?_ (fun K31_ jk_31=>?_))))
 rotate_left
 ·skip
  refine aT (cF (fun fr_ hp_ ms_=> ∃(Q RH:UInt64),fr_= [(2,.int .u64 (Y.toNat:Int)),(8,.int .u64 (S.toNat:Int)),(9,.int .u64 (y1.toNat:Int)),(10,.int .u64 (y0.toNat:Int)),(14,.int .u64 (u0.toNat:Int)),(15,.int .u64 (Q1.toNat:Int)),(17,.int .u64 (un21.toNat:Int)),(18,.int .u64 (Q.toNat:Int)),(16,.int .u64 (RH.toNat:Int))]∧hp_= [R]∧Q.toNat=ms_∧(DInv un21.toNat u0.toNat y1.toNat y0.toNat Q.toNat RH.toNat)∧(RH.toNat<4294967296)) ?_ aM ⟨un21/y1,un21- un21/y1*y1,rfl,rfl,rfl,hI,hrh⟩ ?_)
  ·repeat first|apply bD|exact .nil|exact lkI rfl (by omega)|rfl
  rintro _ _ _ ⟨Q,RH,rfl,rfl,rfl,hI,hrh⟩
  refine aC fun _ s_32=>aC fun _ s_33=>aA (aF U U (op_geq aD U U U (aF U U (cJ (d:=104) U (fun g104=>?_) (fun g104=>?_)))))
  ·have hgt:RH.toNat*4294967296+u0.toNat<Q.toNat*y0.toNat:=d_gt hI hR2 (by omega) (by omega)
   refine aU U U U U U U U (aU U U U U U U U (aU U U U U U U U (aU U U U U U U U (aU U U U U U U U (aU U U U U U U U (aU U U U U U U U (aU U U U U U U U (bO aD U U U (aB (s_33 (At.condT U (aQ (aE (s_32 (aT (aC fun _ s_34=>aA ?_))))))))))))))))
   obtain⟨m1,m2,m3⟩:=d_more hI hgt
   have q1':=sub_one64 m1
   have q2':(RH+y1).toNat=RH.toNat+y1.toNat:=by rw [UInt64.toNat_add];exact Nat.mod_eq_of_lt (by omega)
   refine aF U U (op_subU (b:=1) aD U U U (aG U U (aB (s_34 (aC fun _ s_35=>aA (aF U U (aF U U (op_addU aD U U U (aG U U (aB (s_35 (aC fun _ s_36=>aA (aF U U (op_geq aD U U U (aB (s_36 (aO U (fun c120=>?_) (fun c120=>?_))))))))))))))))))
   ·refine bW (At.inMiss U (aK (bH ?_)))
    refine aE (jk_31 ?_ aM ⟨Q- 1,rfl,rfl,by rw [hYe];rw [q1'];exact d_brk m2 m3 (by omega) (by omega) (by omega)⟩)
    repeat first|apply bD|exact .nil|exact lkI rfl (by omega)|rfl
   refine aQ (a0 (aE ?_))
   refine bQ ?_ aM ⟨Q- 1,RH+y1,rfl,rfl,rfl,by rw [q1',q2'];exact m2,by omega⟩ ?_
   ·repeat first|apply bD|exact .nil|exact lkI rfl (by omega)|rfl
   ·omega
  obtain⟨t1,t2⟩:=d_test (Q:=Q) (RH:=RH) (y0:=y0) (u1:=u0) (by omega) (by omega) (by omega) (by omega)
  refine aL (cL U U U U) U U (aL (cL U U U U) U U (op_mulU (cL U U U U) U U U (aL (cL U U U U) U U (op_mulU (a:=4294967296) (cL U U U U) U U U (aL (cL U U U U) U U (op_addU (cL U U U U) U U U (op_gtr (cL U U U U) U U U (cB aD U U U (aB (s_33 (aO U (fun c113=>?_) (fun c113=>?_))))))))))))
  ·have hgt:RH.toNat*4294967296+u0.toNat<Q.toNat*y0.toNat:=by rw [←t1, ←t2];omega
   refine aQ (aE (s_32 (aT (aC fun _ s_37=>aA ?_))))
   obtain⟨m1,m2,m3⟩:=d_more hI hgt
   have q1':=sub_one64 m1
   have q2':(RH+y1).toNat=RH.toNat+y1.toNat:=by rw [UInt64.toNat_add];exact Nat.mod_eq_of_lt (by omega)
   refine aF U U (op_subU (b:=1) aD U U U (aG U U (aB (s_37 (aC fun _ s_38=>aA (aF U U (aF U U (op_addU aD U U U (aG U U (aB (s_38 (aC fun _ s_39=>aA (aF U U (op_geq aD U U U (aB (s_39 (aO U (fun c120=>?_) (fun c120=>?_))))))))))))))))))
   ·refine bW (At.inMiss U (aK (bH ?_)))
    refine aE (jk_31 ?_ aM ⟨Q- 1,rfl,rfl,by rw [hYe];rw [q1'];exact d_brk m2 m3 (by omega) (by omega) (by omega)⟩)
    repeat first|apply bD|exact .nil|exact lkI rfl (by omega)|rfl
   refine aQ (a0 (aE ?_))
   refine bQ ?_ aM ⟨Q- 1,RH+y1,rfl,rfl,rfl,by rw [q1',q2'];exact m2,by omega⟩ ?_
   ·repeat first|apply bD|exact .nil|exact lkI rfl (by omega)|rfl
   ·omega
  refine bW (aK (aK (bH ?_)))
  refine aE (jk_31 ?_ aM ⟨Q,rfl,rfl,by rw [hYe];exact d_at hI (by rw [←t1, ←t2];omega) (by omega)⟩)
  repeat first|apply bD|exact .nil|exact lkI rfl (by omega)|rfl
 rintro _ _ ⟨Q0,rfl,rfl,hQ0⟩
 refine s_31 (aC fun _ s_40=>aA (aF U U (op_mulU (b:=4294967296) aD U U U (aF U U (op_addU aD U U U (aF U U (op_mulU (b:=4294967296) aD U U U (aF U U (op_addU aD U U U (aF U U (aF U U (op_mulU aD U U U (op_subU aD U U U (aF U U (op_shrU aD U U (by first|rfl|exact(Int.toNat_of_nonneg (by omega)).symm) U ?_)))))))))))))))
 refine aG U U (aG U U (aB (s_40 (aR ((bV (L1:= []) U (.tmp U (.tmp U .nil)) U (.refl _) aM ?_))))))
 have hr:=d_rest (R:=un21) (u1:=u0) (Q:=Q0) (Y:=Y) (by omega) hQ0 (by omega)
 exact div_end hY hun.2 hUe hr21 hQ1 hQ0 hr (by omega) h
def LimbsP (V:Nat) (v:Value) (L:List Heaplet):Prop:=
 ∃M a c,v=.slice a (limbsOf V).length c∧L= [M]∧RSl M 1 a (limbsOf V).length c (u64s (limbsOf V))
theorem RSl.trimmed {N:Heaplet} {ao:Option Addr} {n cap:Nat} {l:List UInt64} (h:RSl N 1 ao n cap (u64s l)) (ht:l.take (limbsOf (v64 l)).length=limbsOf (v64 l)) (hle:(limbsOf (v64 l)).length≤n):
 RSl N 1 ao (limbsOf (v64 l)).length (limbsOf (v64 l)).length (u64s (limbsOf (v64 l))):=by
 have:=h.take (hi:=(limbsOf (v64 l)).length) (m:=(limbsOf (v64 l)).length) (Nat.le_refl _) (Nat.le_trans hle h.2.1) hle
 rwa [Nat.mul_one,u64s_takeR,ht]at this
theorem getD_big {α:Type} {l:List α} {k:Nat} {z:α} (h:l.length≤k):l.getD k z=z:=by
 rw [List.getD_eq_getElem?_getD,List.getElem?_eq_none h];rfl
theorem set_rep {α:Type} {w:List α} {j m:Nat} {z y:α} (hw:w.length=j) (h:0<m):(w++List.replicate m z).set j y=(w++ [y])++List.replicate (m- 1) z:=by
 obtain⟨k,rfl⟩: ∃k,m=k+1:=⟨m- 1,by omega⟩
 rw [List.replicate_succ,set_mid hw];rfl
theorem getD_app {α:Type} {p r:List α} {j:Nat} {z:α} (h:j<p.length):(p++r).getD j z=p.getD j z:=by
 rw [List.getD_eq_getElem?_getD,List.getD_eq_getElem?_getD,List.getElem?_append_left h]
theorem limbs_mono {A B:Nat} (h:A≤B):(limbsOf A).length≤(limbsOf B).length:=by
 rw [length_limbsOf,length_limbsOf]
 have:=bitLen_mono h
 omega
theorem Add_f {N M:Heaplet} {ao bo:Option Addr} {n m ca cb:Nat} {a b:List UInt64} (ha:RSl N 1 ao n ca (u64s a)) (hb:RSl M 1 bo m cb (u64s b)) (hn:n≤1099511627776) (hm:m≤1099511627776):
 Fn Tryz.prog 134 #[.slice ao n ca,.slice bo m cb] [] [N,M] (LimbsP (v64 a+v64 b)):=by
 have hca:=ha.cap63
 have hcb:=hb.cap63
 have hal:=ha.len64
 have hbl:=hb.len64
 refine Fn.enter (vs:= [.slice ao n ca,.slice bo m cb]) Tryz.func134 U U U ?_
 intro E R hR
 have ha:=ha.le (hR N (by simp))
 have hb:=hb.le (hR M (by simp))
 change At _ _ E [R] _
 refine aC fun _ s_1=>aA (aG U U (aB (s_1 (aC fun _ s_2=>At.meet (fun fr_ hp_=> ∃(x y:List UInt64) (xo yo:Option Addr) (xn xc yn yc:Nat),fr_= [(0,.slice xo xn xc),(1,.slice yo yn yc)]∧hp_= [R]∧(RSl R 1 xo xn xc (u64s x))∧(RSl R 1 yo yn yc (u64s y))∧(v64 x+v64 y=v64 a+v64 b)∧(yn≤xn)∧(xn≤1099511627776)) ?_ (fun K2_ jk_2=>?_)))))
 rotate_left
 ·skip
  refine aC fun _ s_3=>aA (aF U U (bG aD se200 U U (aF U U (bG aD se200 U U (op_lss aD U U U (aB (s_3 (aO U (fun c13=>?_) (fun c13=>?_)))))))))
  ·refine aA (aF U U (aF U U (aG U U (aG U U (aB (jk_2 ?_ aM ⟨b,a,bo,ao,m,cb,n,ca,rfl,rfl,hb,ha,Nat.add_comm _ _,by omega,hm⟩))))))
   repeat first|apply bD|exact .nil|exact lkI rfl (by omega)|rfl
  refine aQ (aE (jk_2 ?_ aM ⟨a,b,ao,bo,n,ca,m,cb,rfl,rfl,ha,hb,rfl,by omega,hn⟩))
  repeat first|apply bD|exact .nil|exact lkI rfl (by omega)|rfl
 rintro _ _ ⟨x,y,xo,yo,xn,xc,yn,yc,rfl,rfl,hx,hy,hs,hle,hxn⟩
 have hxl:=hx.len64
 have hyl:=hy.len64
 have hxc:=hx.cap63
 have hyc:=hy.cap63
 refine s_2 (aC fun _ s_4=>aA (aF U U (bG aD se200 U U (a6 aD U U (by omega) (by omega) U ?_))))
 refine op_make aZ Tryz.underlying200 te24 U U (show _=(((xn+1:Nat)):Int)from by omega) (show _=(((xn+1:Nat)):Int)from by omega) (by omega) (by unfold maxLen;omega) U (fun N19 a19 r19=>?_)
 rw [made_one _ _ rfl,zero_u64s]at r19
 have s19:=r19.rsl
 refine aG U U (aG U U (aB (s_4 (aC fun _ s_5=>aC fun _ s_6=>aA (aF U U (bG aD se200 U U (aF U U (aB (s_6 (aT ?_))))))))))
 refine cF (fun fr_ hp_ ms_=> ∃(k:Nat) (c:UInt64) (w:List UInt64) (N19:Heaplet),fr_= [(0,.slice xo xn xc),(1,.slice yo yn yc),(5,.slice a19 (xn+1) (xn+1)),(6,.int .u64 (c.toNat:Int)),(21,.int .i64 (xn:Int)),(22,.int .i64 (k:Int))]∧hp_= [N19,R]∧xn- k=ms_∧(k≤xn)∧(w.length=k)∧(c.toNat≤1)∧(v64 w+c.toNat*2^(64*k)=v64 (x.take k)+v64 (y.take k))∧(Row N19 24 1 a19 (xn+1) (xn+1) (u64s (w++List.replicate (xn+1- k) 0)))) ?_ aM ⟨0,0,[],N19,rfl,rfl,rfl,by omega,rfl,by decide,by simp;rfl,r19⟩ ?_
 ·repeat first|apply bD|exact .nil|exact lkI rfl (by omega)|rfl
 rintro _ _ _ ⟨k,c,w,N19,rfl,rfl,rfl,hk,hw,hc,hv,r19⟩
 have s19:=r19.rsl
 refine aC fun _ s_7=>aA (op_lss aD U U U (aB (s_7 (aC fun _ s_8=>aO U (fun c23=>?_) (fun c23=>?_)))))
 ·refine aQ (aE (s_8 (aC fun _ s_9=>aT (aC fun _ s_10=>aA (aF U U (aG U U (aB (s_10 (aC fun _ s_11=>aA (aG U U (aB (s_11 (aC fun _ s_12=>At.meet (fun fr_ hp_=>fr_= [(0,.slice xo xn xc),(1,.slice yo yn yc),(5,.slice a19 (xn+1) (xn+1)),(6,.int .u64 (c.toNat:Int)),(7,.int .i64 (k:Int)),(8,.int .u64 ((y.getD k 0).toNat:Int)),(21,.int .i64 (xn:Int)),(22,.int .i64 (k:Int))]∧hp_= [N19,R]∧(True)) ?_ (fun K12_ jk_12=>?_))))))))))))))
  rotate_left
  ·skip
   refine aC fun _ s_13=>aA (aF U U (aF U U (bG aD se200 U U (op_lss aD U U U (aB (s_13 (aO U (fun c28=>?_) (fun c28=>?_))))))))
   ·refine aA (aF U U (aF U U (bU aD se200 U U hy (show _=(((k:Nat)):Int)from by omega) (by omega) U ?_)))
    refine cC aD sc24 U hy (by first|exact get8 (by omega)|exact get64 (by omega)|exact get32 (by omega)) (by simp) U ?_
    refine aG U U (aB (jk_12 ?_ aM ⟨rfl,rfl,trivial⟩))
    repeat first|apply bD|exact .nil|exact lkI rfl (by omega)|rfl
   have hz:(y.getD k 0).toNat=0:=by rw [getD_big (by omega)];rfl
   refine aQ (aE (jk_12 ?_ aM ⟨rfl,rfl,trivial⟩))
   repeat first|apply bD|exact .nil|exact lkI rfl (by omega)|rfl
  rintro _ _ ⟨rfl,rfl,ht⟩
  refine s_12 (aA (aF U U (aF U U (aF U U (aF U U (bU aD se200 U U hx (show _=(((k:Nat)):Int)from by omega) (by omega) U ?_))))))
  refine cC aD sc24 U hx (by first|exact get8 (by omega)|exact get64 (by omega)|exact get32 (by omega)) (by simp) U ?_
  refine aF U U (aF U U (op_ext aZ (.cons U (.cons U (.cons U .nil))) (Add64_x (x.getD k 0) (y.getD k 0) c hc) U (aF U U (aN aD U U U (aN aD U U U (bU aD se200 U U s19 (show _=(((k:Nat)):Int)from by omega) (by omega) U ?_))))))
  refine op_storeE nxQ sz24 U U U U U r19 (by simp<;>omega) (by simp) sel0 (fun N19 r19=>?_)
  simp only [setL]at r19
  rw [set_u64s,set_fill hw (by omega)]at r19
  have s19:=r19.rsl
  refine aG U U (At.opsNil (a0 (aE (s_9 (aA (a6 aD U U (by omega) (by omega) U (aF U U (aB ?_))))))))
  refine bQ ?_ aM ⟨k+1,addC (x.getD k 0) (y.getD k 0) c,w++ [addS (x.getD k 0) (y.getD k 0) c],N19,rfl,rfl,rfl,by omega,by simp;omega,(add64_law _ _ _ hc).2,add_round hw hc hv,r19⟩ ?_
  ·repeat first|apply bD|exact .nil|exact lkI rfl (by omega)|rfl
  ·omega
 refine bW (aK (aK (bH (aE (s_5 (aC fun _ s_14=>aA (aF U U (aF U U (bG aD se200 U U (aF U U (bU aD se200 U U s19 (show _=(((k:Nat)):Int)from by omega) (by omega) U ?_)))))))))))
 refine op_storeE nxQ sz24 U U U U U r19 (by simp<;>omega) (by simp) sel0 (fun N19 r19=>?_)
 simp only [setL]at r19
 rw [set_u64s,set_fill hw (by omega),show xn+1- (k+1)=0 by omega,List.replicate_zero,List.append_nil]at r19
 have hfin:v64 (w++ [c])=v64 a+v64 b:=by
  rw [v64_snoc,hw,Nat.mul_comm,hv,v64_take_all (by omega),v64_take_all (by omega),hs]
 have s19:=r19.rsl
 refine aB (s_14 (aC fun _ s_15=>aA (aF U U ?_)))
 have s19:=r19.rsl
 refine aH aZ (.cons U .nil) (Trim_f s19) Tryz.func139 U U (by simp) U ?_
 rintro _ _ ⟨rfl,rfl,t53,l53⟩
 show At _ _ _ [N19,R] _
 refine aG U U (aB (s_15 (aR ((aW (L1:= [N19]) U (.tmp U .nil) (.refl _) aM ?_)))))
 have h:=s19.trimmed t53 l53
 rw [hfin]at h⊢
 exact⟨N19,a19,_,rfl,rfl,h⟩
theorem Sub_f {N M:Heaplet} {ao bo:Option Addr} {n m ca cb:Nat} {a b:List UInt64} (ha:RSl N 1 ao n ca (u64s a)) (hb:RSl M 1 bo m cb (u64s b)) (hn:n≤1099511627776) (hm:m≤1099511627776) (hge:v64 b≤v64 a):
 Fn Tryz.prog 133 #[.slice ao n ca,.slice bo m cb] [] [N,M] (LimbsP (v64 a- v64 b)):=by
 have hca:=ha.cap63
 have hcb:=hb.cap63
 refine Fn.enter (vs:= [.slice ao n ca,.slice bo m cb]) Tryz.func133 U U U ?_
 intro E R hR
 have ha:=ha.le (hR N (by simp))
 have hb:=hb.le (hR M (by simp))
 change At _ _ E [R] _
 refine aC fun _ s_1=>aA (aG U U (aB (s_1 (aC fun _ s_2=>aA (aF U U (aH aZ (.cons U .nil) (Trim_f ha) Tryz.func139 U U (by simp) U ?_))))))
 rintro _ _ ⟨rfl,rfl,t10,l10⟩
 show At _ _ _ [R] _
 have hx:=ha.trimmed t10 l10
 refine aF U U (aH aZ (.cons U .nil) (Trim_f hb) Tryz.func139 U U (by simp) U ?_)
 rintro _ _ ⟨rfl,rfl,t12,l12⟩
 show At _ _ _ [R] _
 have hy:=hb.trimmed t12 l12
 have hxv:=v64_limbsOf (v64 a)
 have hyv:=v64_limbsOf (v64 b)
 have hle:=limbs_mono hge
 rw [←hxv, ←hyv]at hge
 have hxn:(limbsOf (v64 a)).length≤1099511627776:=by omega
 generalize hxe:limbsOf (v64 a)=x at*
 generalize hye:limbsOf (v64 b)=y at*
 refine aG U U (aG U U (aB (s_2 (aC fun _ s_3=>aA (aF U U (bG aD se200 U U ?_))))))
 refine op_make aZ Tryz.underlying200 te24 U U (show _=(((x.length:Nat)):Int)from by omega) (show _=(((x.length:Nat)):Int)from by omega) (by omega) (by unfold maxLen;omega) U (fun N15 a15 r15=>?_)
 rw [made_one _ _ rfl,zero_u64s]at r15
 have s15:=r15.rsl
 refine aG U U (aG U U (aB (s_3 (aC fun _ s_4=>aC fun _ s_5=>aA (aF U U (bG aD se200 U U (aF U U (aB (s_5 (aT ?_))))))))))
 refine cF (fun fr_ hp_ ms_=> ∃(k:Nat) (c:UInt64) (w:List UInt64) (N15:Heaplet),fr_= [(0,.slice ao x.length x.length),(1,.slice bo y.length y.length),(5,.slice a15 x.length x.length),(6,.int .u64 (c.toNat:Int)),(17,.int .i64 (x.length:Int)),(18,.int .i64 (k:Int))]∧hp_= [N15,R]∧x.length- k=ms_∧(k≤x.length)∧(w.length=k)∧(c.toNat≤1)∧(v64 w+v64 (y.take k)=v64 (x.take k)+c.toNat*2^(64*k))∧(Row N15 24 1 a15 x.length x.length (u64s (w++List.replicate (x.length- k) 0)))) ?_ aM ⟨0,0,[],N15,rfl,rfl,rfl,by omega,rfl,by decide,by simp;rfl,r15⟩ ?_
 ·repeat first|apply bD|exact .nil|exact lkI rfl (by omega)|rfl
 rintro _ _ _ ⟨k,c,w,N15,rfl,rfl,rfl,hk,hw,hc,hv,r15⟩
 have s15:=r15.rsl
 refine aC fun _ s_6=>aA (op_lss aD U U U (aB (s_6 (aC fun _ s_7=>aO U (fun c19=>?_) (fun c19=>?_)))))
 ·refine aQ (aE (s_7 (aC fun _ s_8=>aT (aC fun _ s_9=>aA (aF U U (aG U U (aB (s_9 (aC fun _ s_10=>aA (aG U U (aB (s_10 (aC fun _ s_11=>At.meet (fun fr_ hp_=>fr_= [(0,.slice ao x.length x.length),(1,.slice bo y.length y.length),(5,.slice a15 x.length x.length),(6,.int .u64 (c.toNat:Int)),(7,.int .i64 (k:Int)),(8,.int .u64 ((y.getD k 0).toNat:Int)),(17,.int .i64 (x.length:Int)),(18,.int .i64 (k:Int))]∧hp_= [N15,R]∧(True)) ?_ (fun K11_ jk_11=>?_))))))))))))))
  rotate_left
  ·skip
   refine aC fun _ s_12=>aA (aF U U (aF U U (bG aD se200 U U (op_lss aD U U U (aB (s_12 (aO U (fun c24=>?_) (fun c24=>?_))))))))
   ·refine aA (aF U U (aF U U (bU aD se200 U U hy (show _=(((k:Nat)):Int)from by omega) (by omega) U ?_)))
    refine cC aD sc24 U hy (by first|exact get8 (by omega)|exact get64 (by omega)|exact get32 (by omega)) (by simp) U ?_
    refine aG U U (aB (jk_11 ?_ aM ⟨rfl,rfl,trivial⟩))
    repeat first|apply bD|exact .nil|exact lkI rfl (by omega)|rfl
   have hz:(y.getD k 0).toNat=0:=by rw [getD_big (by omega)];rfl
   refine aQ (aE (jk_11 ?_ aM ⟨rfl,rfl,trivial⟩))
   repeat first|apply bD|exact .nil|exact lkI rfl (by omega)|rfl
  rintro _ _ ⟨rfl,rfl,ht⟩
  refine s_11 (aA (aF U U (aF U U (aF U U (aF U U (bU aD se200 U U hx (show _=(((k:Nat)):Int)from by omega) (by omega) U ?_))))))
  refine cC aD sc24 U hx (by first|exact get8 (by omega)|exact get64 (by omega)|exact get32 (by omega)) (by simp) U ?_
  refine aF U U (aF U U (op_ext aZ (.cons U (.cons U (.cons U .nil))) (Sub64_x (x.getD k 0) (y.getD k 0) c hc) U (aF U U (aN aD U U U (aN aD U U U (bU aD se200 U U s15 (show _=(((k:Nat)):Int)from by omega) (by omega) U ?_))))))
  refine op_storeE nxQ sz24 U U U U U r15 (by simp<;>omega) (by simp) sel0 (fun N15 r15=>?_)
  simp only [setL]at r15
  rw [set_u64s,set_fill hw (by omega)]at r15
  have s15:=r15.rsl
  refine aG U U (At.opsNil (a0 (aE (s_8 (aA (a6 aD U U (by omega) (by omega) U (aF U U (aB ?_))))))))
  refine bQ ?_ aM ⟨k+1,subC (x.getD k 0) (y.getD k 0) c,w++ [subS (x.getD k 0) (y.getD k 0) c],N15,rfl,rfl,rfl,by omega,by simp;omega,(sub64_law _ _ _ hc).2,sub_round hw hc hv,r15⟩ ?_
  ·repeat first|apply bD|exact .nil|exact lkI rfl (by omega)|rfl
  ·omega
 refine bW (aK (aK (bH (aE (s_4 (aC fun _ s_13=>aA (aF U U ?_)))))))
 have s15:=r15.rsl
 have hkk:k=x.length:=by omega
 rw [hkk,Nat.sub_self,List.replicate_zero,List.append_nil]at s15
 have hfin:v64 w=v64 a- v64 b:=by
  rw [hkk,v64_take_all (Nat.le_refl _),v64_take_all (by omega),hxv,hyv]at hv
  have h1:=v64_lt w
  rw [hw,hkk]at h1
  have hc2:c.toNat=0∨c.toNat=1:=by omega
  rcases hc2 with hc2|hc2
  ·rw [hc2,Nat.zero_mul]at hv;omega
  ·rw [hc2,Nat.one_mul]at hv;omega
 refine aH aZ (.cons U .nil) (Trim_f s15) Tryz.func139 U U (by simp) U ?_
 rintro _ _ ⟨rfl,rfl,t44,l44⟩
 show At _ _ _ [N15,R] _
 refine aG U U (aB (s_13 (aR ((aW (L1:= [N15]) U (.tmp U .nil) (.refl _) aM ?_)))))
 have h:=s15.trimmed t44 l44
 rw [hfin]at h⊢
 exact⟨N15,a15,_,rfl,rfl,h⟩
def cmpN (a b:Nat):Int:=if a<b then-1 else if b<a then 1 else 0
theorem cmpN_lt {a b:Nat} (h:a<b):cmpN a b= -1:=by rw [cmpN,if_pos h]
theorem cmpN_gt {a b:Nat} (h:b<a):cmpN a b=1:=by rw [cmpN,if_neg (by omega),if_pos h]
theorem cmpN_eq (a:Nat):cmpN a a=0:=by rw [cmpN,if_neg (Nat.lt_irrefl _),if_neg (Nat.lt_irrefl _)]
theorem limbs_len_lt {A B:Nat} (h:(limbsOf A).length<(limbsOf B).length):A<B:=by
 rcases Nat.lt_or_ge A B with h1|h1
 ·exact h1
 ·have:=limbs_mono h1;omega
theorem v64_split {l:List UInt64} {j:Nat} (h:j<l.length):v64 l=v64 (l.take j)+2^(64*j)*((l.getD j 0).toNat+18446744073709551616*v64 (l.drop (j+1))):=by
 have e:l=l.take (j+1)++l.drop (j+1):=(List.take_append_drop _ _).symm
 conv=>lhs;rw [e]
 rw [v64_append,List.length_take,Nat.min_eq_left (by omega),v64_take_succD,pow64,Nat.mul_add,Nat.mul_assoc,Nat.add_assoc]
theorem cmp_at {x y:List UInt64} {j:Nat} (hl:x.length=y.length) (hj:j<x.length) (hd:x.drop (j+1)=y.drop (j+1)) (hlt:(x.getD j 0).toNat<(y.getD j 0).toNat):v64 x<v64 y:=by
 rw [v64_split hj,v64_split (l:=y) (j:=j) (by omega),hd]
 have h1:=v64_take_lt x j
 have h2:=Nat.mul_le_mul_left (2^(64*j)) (show(x.getD j 0).toNat+18446744073709551616*v64 (y.drop (j+1))+1≤(y.getD j 0).toNat+18446744073709551616*v64 (y.drop (j+1)) by omega)
 rw [Nat.mul_add _ _ 1,Nat.mul_one]at h2
 omega
theorem drop_eq_succ {α:Type} {x y:List α} {j:Nat} {z:α} (hx:j<x.length) (hy:j<y.length) (he:x.getD j z=y.getD j z) (hd:x.drop (j+1)=y.drop (j+1)):x.drop j=y.drop j:=by
 rw [List.drop_eq_getElem_cons hx,List.drop_eq_getElem_cons hy,hd]
 rw [List.getD_eq_getElem?_getD,List.getD_eq_getElem?_getD,List.getElem?_eq_getElem hx,List.getElem?_eq_getElem hy]at he
 simp only [Option.getD_some]at he
 rw [he]
theorem limb_at (l:List UInt64) (i:Nat):v64 l/2^(64*i) % 2^64=(l.getD i 0).toNat:=by
 rcases Nat.lt_or_ge i l.length with h|h
 ·rw [limb_v64 h,List.getD_eq_getElem?_getD,List.getElem?_eq_getElem h];rfl
 ·rw [getD_big h,Nat.div_eq_of_lt (Nat.lt_of_lt_of_le (v64_lt l) (Nat.pow_le_pow_right (by decide) (by omega)))];rfl
def shlN (L V s:Nat):List UInt64:=limbsN L (V*2^s)
theorem length_shlN (L V s:Nat):(shlN L V s).length=L:=by simp [shlN,limbsN]
theorem shl_low {l:List UInt64} {s:Nat} (_hs:s<64):UInt64.ofNat (v64 l*2^s/2^(64*0))=shl64 (l.getD 0 0) s:=by
 apply UInt64.toNat_inj.1
 have h:=limb_at l 0
 rw [UInt64.toNat_ofNat',shl64_nat, ←h,Nat.mul_zero,Nat.pow_zero,Nat.div_one,Nat.div_one,Nat.mod_mul_mod]
theorem mid_at {l:List UInt64} {i r:Nat} (hr:r≤64):v64 l/2^(64*i+r) % 2^64=(shr64 (l.getD i 0) r |||shl64 (l.getD (i+1) 0) (64- r)).toNat:=by
 rw [Nat.pow_add, ←Nat.div_div_eq_div_mul]
 have e:v64 l/2^(64*i)=(l.getD i 0).toNat+2^64*(v64 l/2^(64*(i+1))):=by
  rw [←limb_at,pow64, ←Nat.div_div_eq_div_mul]
  exact(Nat.mod_add_div _ _).symm
 rw [e,limb_mid hr (limb_at l (i+1))]
theorem shl_at {l:List UInt64} {s i:Nat} (h0:0<i) (hs:s<64):UInt64.ofNat (v64 l*2^s/2^(64*i))=(shl64 (l.getD i 0) s |||shr64 (l.getD (i- 1) 0) (64- s)):=by
 apply UInt64.toNat_inj.1
 have h:=mid_at (l:=l) (i:=i- 1) (r:=64- s) (by omega)
 rw [show i- 1+1=i by omega,show 64- (64- s)=s by omega]at h
 rw [UInt64.toNat_ofNat',UInt64.toNat_or,Nat.or_comm, ←UInt64.toNat_or, ←h]
 have e:(2:Nat)^(64*i)=2^(64*(i- 1)+(64- s))*2^s:=by rw [←Nat.pow_add];congr 1;omega
 rw [e,Nat.mul_div_mul_right _ _ (Nat.pow_pos (by decide))]
def shSt (o:List UInt64) (L s i:Nat):List UInt64:=o.take i++(shlN L (v64 o) s).drop i
theorem length_shSt {o:List UInt64} {L s i:Nat} (ho:o.length=L) (hi:i≤L):(shSt o L s i).length=L:=by
 rw [shSt,List.length_append,List.length_take,List.length_drop,length_shlN];omega
theorem shSt_getD {o:List UInt64} {L s i j:Nat} (ho:o.length=L) (hi:i≤L) (hj:j<i):(shSt o L s i).getD j 0=o.getD j 0:=by
 rw [shSt,getD_app (by rw [List.length_take];omega),List.getD_eq_getElem?_getD,List.getD_eq_getElem?_getD,List.getElem?_take,if_pos hj]
theorem shSt_set {o:List UInt64} {L s i:Nat} (ho:o.length=L) (hi:i<L):(shSt o L s (i+1)).set i (UInt64.ofNat (v64 o*2^s/2^(64*i)))=shSt o L s i:=by
 apply List.ext_getElem
 ·rw [List.length_set,length_shSt ho (by omega),length_shSt ho (by omega)]
 ·intro j h1 h2
  rw [length_shSt ho (by omega)]at h2
  rw [List.getElem_set]
  by_cases e:i=j
  ·subst e
   rw [if_pos rfl]
   simp only [shSt]
   rw [List.getElem_append_right (by rw [List.length_take];omega)]
   simp [shlN,limbsN,ho,Nat.min_eq_left (Nat.le_of_lt hi)]
  ·rw [if_neg e]
   simp only [shSt,List.getElem_append,List.length_take]
   by_cases hlt:j<i
   ·rw [dif_pos (by omega),dif_pos (by omega)];simp
   ·rw [dif_neg (by omega),dif_neg (by omega)]
    simp only [List.getElem_drop]
    congr 1
    omega
theorem shSt_all {o:List UInt64} {L s:Nat} (ho:o.length=L):shSt o L s L=o:=by
 rw [shSt,List.drop_of_length_le (by rw [length_shlN];omega),List.append_nil,List.take_of_length_le (by omega)]
theorem shSt_none (o:List UInt64) (L s:Nat):shSt o L s 0=limbsN L (v64 o*2^s):=by simp [shSt,shlN]
theorem v64_pad (a:List UInt64) (m:Nat):v64 (a++List.replicate m 0)=v64 a:=by rw [v64_append,v64_replicate];simp
theorem v64_cons (x:UInt64) (l:List UInt64):v64 (x::l)=x.toNat+18446744073709551616*v64 l:=by simp [v64,n64,val]
theorem shSt_set' {o:List UInt64} {L s I:Nat} (ho:o.length=L) (h0:0<I) (hi:I≤L):(shSt o L s I).set (I- 1) (UInt64.ofNat (v64 o*2^s/2^(64*(I- 1))))=shSt o L s (I- 1):=by
 have h:=shSt_set (s:=s) ho (show I- 1<L by omega)
 rwa [show I- 1+1=I by omega]at h
theorem getD_set_self {α:Type} {l:List α} {j:Nat} {y z:α} (h:j<l.length):(l.set j y).getD j z=y:=by
 rw [List.getD_eq_getElem?_getD,List.getElem?_set_self h];rfl
theorem getD_set_ne {α:Type} {l:List α} {i j:Nat} {y z:α} (h:i≠j):(l.set i y).getD j z=l.getD j z:=by
 rw [List.getD_eq_getElem?_getD,List.getD_eq_getElem?_getD,List.getElem?_set_ne h]
theorem win_set {α:Type} {pre x post:List α} {o k:Nat} {d:α} (hp:pre.length=o) (hk:k<x.length):(pre++x++post).set (o+k) d=pre++x.set k d++post:=by
 subst hp
 rw [List.append_assoc,List.set_append_right _ _ (by omega),Nat.add_sub_cancel_left,List.set_append_left _ _ hk,List.append_assoc]
theorem set_drop {α:Type} {w u:List α} {k:Nat} {d:α} (hw:w.length=k) (hk:k<u.length):(w++u.drop k).set k d=(w++ [d])++u.drop (k+1):=by
 rw [List.drop_eq_getElem_cons hk,set_mid hw]
theorem getD_drop {α:Type} {w u:List α} {k:Nat} {z:α} (hw:w.length=k) (hk:k<u.length):(w++u.drop k).getD k z=u.getD k z:=by
 rw [List.drop_eq_getElem_cons hk,getD_mid hw,List.getD_eq_getElem?_getD,List.getElem?_eq_getElem hk];rfl
theorem v64_top2 {u:List UInt64} {n:Nat} (hu:u.length=n+1) (hn:1≤n):v64 u=v64 (u.take (n- 1))+2^(64*(n- 1))*((u.getD n 0).toNat*18446744073709551616+(u.getD (n- 1) 0).toNat):=by
 have h:=v64_split (l:=u) (j:=n- 1) (by omega)
 rw [show n- 1+1=n by omega]at h
 have e:v64 (u.drop n)=(u.getD n 0).toNat:=by
  rw [List.drop_eq_getElem_cons (by omega),List.drop_of_length_le (by omega),List.getD_eq_getElem?_getD,List.getElem?_eq_getElem (by omega)]
  simp [v64,n64,val]
 rw [h,e]
 congr 2
 omega
theorem v64_top1 {v:List UInt64} {n:Nat} (hv:v.length=n) (hn:1≤n):v64 v=v64 (v.take (n- 1))+2^(64*(n- 1))*(v.getD (n- 1) 0).toNat:=by
 have h:=v64_take_succD v (n- 1)
 rw [show n- 1+1=n by omega,v64_take_all (by omega)]at h
 exact h
theorem qhat_ge {u v:List UInt64} {n Q:Nat} (hu:u.length=n+1) (hv:v.length=n) (hn:1≤n) (hQ:Q*v64 v≤v64 u) (h0:0<(v.getD (n- 1) 0).toNat):
 Q≤((u.getD n 0).toNat*18446744073709551616+(u.getD (n- 1) 0).toNat)/ (v.getD (n- 1) 0).toNat:=by
 rw [Nat.le_div_iff_mul_le h0]
 have h1:=v64_top2 hu hn
 have h2:=v64_top1 hv hn
 have h3:v64 (u.take (n- 1))<2^(64*(n- 1)):=v64_take_lt _ _
 generalize (u.getD n 0).toNat*18446744073709551616+(u.getD (n- 1) 0).toNat=T at*
 generalize (v.getD (n- 1) 0).toNat=y at*
 generalize 2^(64*(n- 1))=P at*
 have h4:P*(Q*y)≤Q*v64 v:=by
  rw [h2,Nat.mul_add,Nat.mul_left_comm Q];omega
 have h5:P*(Q*y)<P*(T+1):=by rw [Nat.mul_add P T,Nat.mul_one];omega
 have h6:=Nat.lt_of_mul_lt_mul_left h5
 omega
theorem step_end {Uq V x q:Nat} (h:x+q*V=Uq) (hx:x<V):q=Uq/V∧x=Uq % V:=by
 subst h
 have hV:0<V:=by omega
 rw [Nat.add_mul_div_right _ _ hV,Nat.add_mul_mod_self_right,Nat.div_eq_of_lt hx,Nat.mod_eq_of_lt hx]
 exact⟨by omega,rfl⟩
theorem step_start {Uq V x q Q bw P:Nat} (hV:0<V) (h:x+q*V=Uq+bw*P) (hQ:Uq/V≤q) (hb:bw=0):x<V:=by
 rw [hb,Nat.zero_mul,Nat.add_zero]at h
 have h1:Uq<(q+1)*V:=by
  exact Nat.lt_mul_of_div_lt (show Uq/V<q+1 by omega) hV
 rw [Nat.add_mul,Nat.one_mul]at h1
 omega
theorem step_back {Uq V x x' q c P:Nat} (hx:x+q*V=Uq+1*P) (hU:Uq<P+V) (hP:x<P) (h:x'+c*P=x+V) (hc:c≤1) (hx':x'<P):
 0<q∧x'+(q- 1)*V=Uq+(1- c)*P∧(1- c=0→x'<V):=by
 have hq:0<q:=by
  rcases Nat.eq_zero_or_pos q with h0|h0
  ·rw [h0,Nat.zero_mul]at hx;omega
  ·exact h0
 obtain⟨p,rfl⟩: ∃p,q=p+1:=⟨q- 1,by omega⟩
 rw [Nat.add_sub_cancel]
 rw [Nat.add_mul,Nat.one_mul]at hx
 have hc2:c=0∨c=1:=by omega
 rcases hc2 with rfl|rfl
 ·rw [Nat.zero_mul,Nat.add_zero]at h
  refine⟨hq,?_,fun h=>absurd h (by decide)⟩
  rw [h];simp only [Nat.sub_zero,Nat.one_mul]at*;omega
 ·rw [Nat.one_mul]at h
  refine⟨hq,?_,fun _=>by omega⟩
  rw [Nat.sub_self,Nat.zero_mul];omega
theorem v64_drop_zero {G:List UInt64} {k n:Nat} (h:v64 (G.drop k)<2^(64*n)):v64 (G.drop (k+n))=0:=by
 have e:G.drop k=(G.drop k).take n++G.drop (k+n):=by
  conv=>lhs;rw [←List.take_append_drop n (G.drop k)]
  rw [List.drop_drop]
 rcases Nat.lt_or_ge (G.drop k).length n with h1|h1
 ·rw [List.drop_of_length_le (by rw [List.length_drop]at h1;omega)];rfl
 ·rw [e,v64_append,List.length_take,Nat.min_eq_left h1]at h
  rcases Nat.eq_zero_or_pos (v64 (G.drop (k+n)))with h2|h2
  ·exact h2
  ·have:=Nat.mul_le_mul_left (2^(64*n)) h2
   omega
theorem v64_take_drop (G:List UInt64) {k:Nat} (h:k≤G.length):v64 G=v64 (G.take k)+2^(64*k)*v64 (G.drop k):=by
 conv=>lhs;rw [←List.take_append_drop k G]
 rw [v64_append,List.length_take,Nat.min_eq_left h]
theorem win_lt {G:List UInt64} {j n V:Nat} (hj:j<G.length) (hV:v64 (G.drop (j+1))<V) (hVn:V≤2^(64*n)):
 v64 ((G.drop j).take (n+1))<V*18446744073709551616∧v64 (G.drop (j+(n+1)))=0∧v64 ((G.drop j).take (n+1))=v64 (G.drop j):=by
 have hz:v64 (G.drop (j+(n+1)))=0:=by
  rw [show j+(n+1)=(j+1)+n by omega]
  exact v64_drop_zero (Nat.lt_of_lt_of_le hV hVn)
 have e1:v64 ((G.drop j).take (n+1))=v64 (G.drop j):=by
  have h:=congrArg v64 (List.take_append_drop (n+1) (G.drop j))
  rw [v64_append,List.drop_drop,hz,Nat.mul_zero,Nat.add_zero]at h
  exact h
 refine⟨?_,hz,e1⟩
 have e2:v64 (G.drop j)=(G.getD j 0).toNat+18446744073709551616*v64 (G.drop (j+1)):=by
  rw [List.drop_eq_getElem_cons hj,v64_cons,List.getD_eq_getElem?_getD,List.getElem?_eq_getElem hj]
  rfl
 have h1:=(G.getD j 0).toNat_lt
 rw [e1,e2]
 omega
theorem div_round {G u' qs h:List UInt64} {j n V Uq:Nat} {q:UInt64} (hj:j+(n+1)≤G.length) (hqs:qs=List.replicate (j+1) 0++h) (hv:v64 G+v64 qs*V=Uq) (hw:v64 ((G.drop j).take (n+1))=v64 (G.drop j)) (hz:v64 (G.drop (j+(n+1)))=0)
 (hu:u'.length=n+1) (hq:q.toNat=v64 ((G.drop j).take (n+1))/V) (hr:v64 u'=v64 ((G.drop j).take (n+1)) % V) (hV:0<V):
 v64 (G.take j++u'++G.drop (j+(n+1)))+v64 (qs.set j q)*V=Uq∧v64 ((G.take j++u'++G.drop (j+(n+1))).drop j)<V∧qs.set j q=List.replicate j 0++(q::h):=by
 have e0:qs.set j q=List.replicate j 0++(q::h):=by
  rw [hqs,List.replicate_succ',List.append_assoc,List.cons_append,List.nil_append,set_mid (by simp)]
  simp
 have e1:v64 (qs.set j q)=v64 qs+2^(64*j)*q.toNat:=by
  rw [e0,hqs,v64_append,v64_append,v64_replicate,v64_replicate,List.length_replicate,List.length_replicate,pow64]
  have:v64 (q::h)=q.toNat+18446744073709551616*v64 h:=by simp [v64,n64,val]
  rw [this,Nat.mul_add,Nat.mul_assoc]
  omega
 have e2:v64 (G.take j++u'++G.drop (j+(n+1)))=v64 (G.take j)+2^(64*j)*v64 u':=by
  rw [v64_append,hz,v64_append,List.length_take,Nat.min_eq_left (by omega)];simp
 have e3:=v64_take_drop G (k:=j) (by omega)
 rw [←hw]at e3
 have e4:=Nat.div_add_mod (v64 ((G.drop j).take (n+1))) V
 rw [←hr, ←hq]at e4
 refine⟨?_,?_,e0⟩
 ·rw [e2,e1,Nat.add_mul, ←hv,e3, ←e4,Nat.mul_add (2^(64*j)),Nat.mul_comm V,Nat.mul_assoc]
  omega
 ·rw [List.append_assoc,List.drop_append_of_le_length (by rw [List.length_take];omega),List.drop_of_length_le (by rw [List.length_take];omega),List.nil_append,v64_append,hz,hr]
  simp only [Nat.mul_zero,Nat.add_zero]
  exact Nat.mod_lt _ hV
theorem limbsN_succ (k N:Nat):limbsN (k+1) N=limbsN k N++ [UInt64.ofNat (N/2^(64*k))]:=by
 simp [limbsN,List.range_succ]
theorem shl64_64 (x:UInt64):shl64 x 64=0:=by
 apply UInt64.toNat_inj.1
 rw [shl64_nat,Nat.mul_mod_left];rfl
theorem rest_at {l:List UInt64} {i r:Nat} (hr:r≤64):UInt64.ofNat (v64 l/2^r/2^(64*i))=(shr64 (l.getD i 0) r |||shl64 (l.getD (i+1) 0) (64- r)):=by
 apply UInt64.toNat_inj.1
 rw [UInt64.toNat_ofNat', ←mid_at hr,Nat.div_div_eq_div_mul, ←Nat.pow_add,Nat.add_comm r]
theorem rest_at0 {l:List UInt64} {i:Nat} :UInt64.ofNat (v64 l/2^0/2^(64*i))=shr64 (l.getD i 0) 0:=by
 rw [rest_at (by omega),shl64_64]
 apply UInt64.toNat_inj.1
 rw [UInt64.toNat_or];simp
theorem norm_ge {b:List UInt64} {n:Nat} (hb:b.length=n) (hn:1≤n) (h0:0<(b.getD (n- 1) 0).toNat):
 2^(64*(n- 1))*9223372036854775808≤v64 b*2^(64- bitLen (b.getD (n- 1) 0).toNat)∧v64 b*2^(64- bitLen (b.getD (n- 1) 0).toNat)<2^(64*n):=by
 have h1:=v64_top1 hb hn
 obtain⟨h2,h3⟩:=div_pos64 h0
 have h4:v64 (b.take (n- 1))<2^(64*(n- 1)):=v64_take_lt _ _
 have e:2^(64*n)=2^(64*(n- 1))*18446744073709551616:=by
  have:=pow64 (n- 1);rwa [show n- 1+1=n by omega]at this
 have hb64:=bitLen64 (b.getD (n- 1) 0)
 have hbl:=lt_bitLen (b.getD (n- 1) 0).toNat
 have e2:2^bitLen (b.getD (n- 1) 0).toNat*2^(64- bitLen (b.getD (n- 1) 0).toNat)=18446744073709551616:=by
  rw [←Nat.pow_add,show bitLen (b.getD (n- 1) 0).toNat+(64- bitLen (b.getD (n- 1) 0).toNat)=64 by omega]
 generalize (b.getD (n- 1) 0).toNat=y at*
 generalize 2^(64*(n- 1))=P at*
 generalize 2^(64- bitLen y)=S at*
 constructor
 ·rw [h1,Nat.add_mul,Nat.mul_assoc]
  have:=Nat.mul_le_mul_left P h3
  omega
 ·rw [e,h1]
  have h5:v64 (b.take (n- 1))+P*y<P*2^bitLen y:=by
   have:=Nat.mul_le_mul_left P (show y+1≤2^bitLen y by omega)
   rw [Nat.mul_add,Nat.mul_one]at this
   omega
  have hS:0<S:=by
   rcases Nat.eq_zero_or_pos S with h|h
   ·rw [h,Nat.mul_zero]at e2;omega
   ·exact h
  have h6:=Nat.mul_lt_mul_of_pos_right h5 hS
  rwa [Nat.mul_assoc,e2]at h6
end Go.Proofs.YtjfagifjajielaaGreat
