/- Several texts in one: see the remarks ahead of each part. No condition but those told there. -/
import Derived.Test.YtdpjbefeabokgaaU5
import Derived.Test.YtdpjbefeabokgaaLen64
import Derived.Test.YtdpjbefeabokgaaU2
import Derived.Test.YtdpjbefeabokgaaU4
import Derived.Lib.Mul64
set_option linter.unusedSimpArgs false
set_option linter.unusedVariables false
/- limb.Bits, limb.Bytes: how many bits a number has, and its bytes; rlp.head: a payload's head. No condition. -/
namespace Go.Proofs.Ytdpjbefeabokgaa
open Go Go.RowKit
theorem Fn.of_same {P:Program} {f:FuncId} {args:Array Value} {v:Value} (h: ∀w,Calls P f args w fun e w'=>e=.returned v∧w'=w):Fn P f args [] [] (fun u L=>u=v∧L= []):=fun E w R hw _=>
 (h w).mono fun _ _ ⟨he,hw'⟩=>⟨v,[],he,⟨rfl,rfl⟩,by rw [hw'];exact hw⟩
theorem Len64_f (x:UInt64):Fn Try.prog 95 #[.int .u64 (x.toNat:Int)] [] [] (fun u L=>u=.int .i64 (bitLen x.toNat:Nat)∧L= []):=by
 have h:=x.toNat_lt
 have e:Lib.bitLen x.toNat=bitLen x.toNat:=libBitLen_eq (by omega)
 refine Fn.of_same fun w=>(Len64_i (x.toNat:Int) w (by omega) (by omega)).mono ?_
 rintro e1 w' ⟨rfl,rfl⟩
 rw [Int.toNat_natCast,e]
 exact⟨rfl,rfl⟩
theorem bitLen64 (x:UInt64):bitLen x.toNat≤64:=bitLen_le.2 x.toNat_lt
theorem Bits_f {N:Heaplet} {ao:Option Addr} {n cap:Nat} {l:List UInt64} (h:RSl N 1 ao n cap (u64s l)) (hn:n≤17592186044416):
 Fn Try.prog 104 #[.slice ao n cap] [] [N] (fun v L=>v=.int .i64 (bitLen (v64 l):Nat)∧L= []):=by
 have hlen:=h.len64
 have hcap:=h.cap63
 refine Fn.enter (vs:= [.slice ao n cap]) Try.func104 rfl rfl rfl ?_
 intro E R hR
 have h:=h.le (hR N (by simp))
 have e0:(limbsOf (v64 l)).length=(bitLen (v64 l)+63)/64:=length_limbsOf _
 change At _ _ E [R] _
 refine At.seq fun _ s_1=>At.region (aE (aD rfl) rfl rfl (aB (aA (s_1 (At.seq fun _ s_2=>At.region (aC (aD rfl) rfl rfl (aH (aX rfl) (.cons rfl .nil) (Trim_f h) Try.func106 rfl rfl (by simp) rfl ?_)))))))
 rintro v4 L4 ⟨rfl,rfl,e1,e2⟩
 change At _ _ _ [R] _
 have h2:=h.take (Nat.le_refl _) (Nat.le_trans e2 hcap.1) e2
 rw [Nat.mul_one,u64s_takeR,e1]at h2
 have hl2:=h2.len64
 refine aE (aD rfl) rfl rfl (aB (aA (s_2 (At.seq fun _ s_3=>At.seq fun _ s_4=>At.region (aC (aD rfl) rfl rfl (aS (aD rfl) se135 rfl rfl (op_eql (aD rfl) rfl rfl rfl (aB (aA (s_4 (aL rfl (fun c7=>?_) (fun c7=>?_))))))))))))
 ·refine At.seq fun _ s_5=>At.region (aE (aD rfl) rfl rfl (aB (aA (s_5 (At.ret (bA ((aQ (L1:= []) rfl (.tmp rfl .nil) (.refl _) (.refl _) ?_))))))))
  exact⟨by rw [show bitLen (v64 l)=0 by omega];rfl,rfl⟩
 refine At.skip (aA (s_3 (At.seq fun _ s_6=>At.region (aC (aD rfl) rfl rfl (aS (aD rfl) se135 rfl rfl (op_subI (aD rfl) rfl rfl (by omega) (by omega) rfl (op_mulI (aD rfl) rfl rfl (by omega) (by omega) rfl (aC (aD rfl) rfl rfl (aC (aD rfl) rfl rfl (aS (aD rfl) se135 rfl rfl (op_subI (aD rfl) rfl rfl (by omega) (by omega) rfl (op_idx1 (aD rfl) se135 rfl rfl (by assumption) (show _=((((limbsOf (v64 l)).length- 1:Nat)):Int)from by omega) (by omega) rfl ?_))))))))))))
 refine aR (aD rfl) sc78 rfl (by assumption) (by first|exact get8 (by omega)|exact get64 (by omega)|exact get32 (by omega)) (by first|exact aN|exact aV|exact aZ|exact mem3|exact mem4|exact mem5|exact mem6|exact mem7|exact mem8|exact mem9) rfl ?_
 refine aH (aX rfl) (.cons rfl .nil) (Len64_f _) Try.func95 rfl rfl (by simp) rfl ?_
 rintro v18 L18 ⟨rfl,rfl⟩
 change At _ _ _ [R] _
 have hb:=bitLen64 ((limbsOf (v64 l)).getD ((limbsOf (v64 l)).length- 1) 0)
 refine aO (aD rfl) rfl rfl (by omega) (by omega) rfl (aE (aD rfl) rfl rfl (aB (aA (s_6 (At.ret ((aQ (L1:= []) rfl (.tmp rfl .nil) (.refl _) (.refl _) ?_)))))))
 have ht:=limbsOf_top' (getD_some (l:=limbsOf (v64 l)) (j:=(limbsOf (v64 l)).length- 1) (z:=0) (by omega))
 exact⟨congrArg (Value.int .i64) (by omega),rfl⟩
theorem byte_at {l:List UInt64} {i:Nat} (h:i/8<l.length):UInt8.ofNat (shr64 (l.getD (i/8) 0) (i % 8*8)).toNat=UInt8.ofNat (v64 l/256^i):=by
 rw [←byte_of_limb h,shr64,UInt64.toNat_ofNat',Nat.mod_eq_of_lt (Nat.lt_of_le_of_lt (Nat.div_le_self _ _) (UInt64.toNat_lt _)),List.getD_eq_getElem?_getD,List.getElem?_eq_getElem h]
 rfl
theorem Bytes_f {N:Heaplet} {ao:Option Addr} {n cap:Nat} {l:List UInt64} (h:RSl N 1 ao n cap (u64s l)) (hn:n≤17592186044416):
 Fn Try.prog 96 #[.slice ao n cap] [] [N] (fun v L=> ∃M a,v=.slice a (bytesOf (v64 l)).length (bytesOf (v64 l)).length∧L= [M]∧Row M 5 1 a (bytesOf (v64 l)).length (bytesOf (v64 l)).length (u8s (bytesOf (v64 l)))):=by
 have hlen:=h.len64
 have hcap:=h.cap63
 have hb:bitLen (v64 l)≤64*n:=bitLen_le.2 (by rw [←hlen];exact v64_lt l)
 have hm:(bytesOf (v64 l)).length=(bitLen (v64 l)+7)/8:=length_bytesOf _
 have hB:bytesOf (v64 l)=bytesN (bytesOf (v64 l)).length (v64 l):=by rw [hm];rfl
 generalize (bytesOf (v64 l)).length=m at hm hB⊢
 refine Fn.enter (vs:= [.slice ao n cap]) Try.func96 rfl rfl rfl ?_
 intro E R hR
 have h:=h.le (hR N (by simp))
 change At _ _ E [R] _
 refine At.seq fun _ s_1=>At.region (aE (aD rfl) rfl rfl (aB (aA (s_1 (At.seq fun _ s_2=>At.region (aC (aD rfl) rfl rfl (aH (aX rfl) (.cons rfl .nil) (Bits_f h hn) Try.func104 rfl rfl (by simp) rfl ?_)))))))
 rintro v8 L8 ⟨rfl,rfl⟩
 change At _ _ _ [R] _
 refine aO (aD rfl) rfl rfl (by omega) (by omega) rfl (op_quoI (aD rfl) rfl rfl (by omega) (by omega) (by omega) rfl (aE (aD rfl) rfl rfl (aB (aA (s_2 (At.seq fun _ s_3=>At.region (aC (aD rfl) rfl rfl ?_)))))))
 refine op_make (aX rfl) Try.underlying33 te5 rfl rfl (show _=(((m:Nat)):Int)from by omega) (show _=(((m:Nat)):Int)from by omega) (by omega) (by unfold maxLen;omega) rfl (fun N12 a12 r12=>?_)
 rw [made_one _ _ rfl,zero_u8s]at r12
 have s12:=r12.rsl
 refine aE (aD rfl) rfl rfl (aB (aA (s_3 (At.seq fun _ s_4=>At.seq fun _ s_5=>At.region (aC (aD rfl) rfl rfl (aS (aD rfl) se33 rfl rfl (aC (aD rfl) rfl rfl (aB (aA (s_5 (At.block ?_)))))))))))
 refine At.loop (fun fr_ hp_ ms_=> ∃(k:Nat) (Nq:Heaplet),fr_= [(0,.slice ao n cap),(3,.int .i64 (m:Int)),(4,.slice a12 m m),(14,.int .i64 (m:Int)),(15,.int .i64 (k:Int))]∧hp_= [Nq,R]∧m- k=ms_∧(k≤m)∧(Row Nq 5 1 a12 m m (u8s (bytesSt m (v64 l) k)))) ?_ (.refl _) ⟨0,N12,rfl,rfl,rfl,by omega,by rw [bytesSt_zero];exact r12⟩ ?_
 ·exact .cons (by first|exact aK rfl (by omega)|rfl) (.cons (by first|exact aK rfl (by omega)|rfl) (.cons (by first|exact aK rfl (by omega)|rfl) (.cons (by first|exact aK rfl (by omega)|rfl) (.cons (by first|exact aK rfl (by omega)|rfl) .nil))))
 rintro _ _ _ ⟨k,Nq,rfl,rfl,rfl,hk,rq⟩
 have sq:=rq.rsl
 have hlq:=sq.len8
 refine At.seq fun _ s_6=>At.region (op_lss (aD rfl) rfl rfl rfl (aB (aA (s_6 (At.seq fun _ s_7=>aL rfl (fun c16=>?_) (fun c16=>?_))))))
 ·refine At.skip (aA (s_7 (At.seq fun _ s_8=>At.block (At.seq fun _ s_9=>At.region (aC (aD rfl) rfl rfl (aE (aD rfl) rfl rfl (aB (aA (s_9 (At.seq fun _ s_10=>At.region (aC (aD rfl) rfl rfl (op_subI (aD rfl) rfl rfl (by omega) (by omega) rfl (aC (aD rfl) rfl rfl (op_subI (aD rfl) rfl rfl (by omega) (by omega) rfl (aE (aD rfl) rfl rfl (aB (aA (s_10 (At.region (aC (aD rfl) rfl rfl ?_))))))))))))))))))))
  refine aC (aD rfl) rfl rfl (aC (aD rfl) rfl rfl (aC (aD rfl) rfl rfl (op_quoI (aD rfl) rfl rfl (by omega) (by omega) (by omega) rfl (op_idx1 (aD rfl) se135 rfl rfl (by assumption) (show _=((((m- 1- k)/8:Nat)):Int)from by omega) (by omega) rfl ?_))))
  refine aR (aD rfl) sc78 rfl (by assumption) (by first|exact get8 (by omega)|exact get64 (by omega)|exact get32 (by omega)) (by first|exact aN|exact aV|exact aZ|exact mem3|exact mem4|exact mem5|exact mem6|exact mem7|exact mem8|exact mem9) rfl ?_
  refine aC (aD rfl) rfl rfl (op_rem (aD rfl) rfl rfl (by omega) (by omega) rfl (op_mulI (aD rfl) rfl rfl (by omega) (by omega) rfl (op_shrU (aD rfl) rfl rfl (show _=((((m- 1- k) % 8*8:Nat)):Int)from by omega) rfl ?_)))
  refine op_conv8 (aD rfl) (und_some Try.underlying78) Try.underlying5 rfl (by first|rfl|exact(Int.toNat_of_nonneg (by omega)).symm) rfl ?_
  refine op_idx1 (aD rfl) se33 rfl rfl (by assumption) (show _=(((k:Nat)):Int)from by omega) (by omega) rfl ?_
  refine op_storeE (nxl rfl) sz5 rfl rfl rfl rfl rfl rq (by simp<;>omega) (by simp) sel0 (fun Nq rq=>?_)
  simp only [setL]at rq
  have sq:=rq.rsl
  refine aB (aP (aA (s_8 (At.region (aO (aD rfl) rfl rfl (by omega) (by omega) rfl (aC (aD rfl) rfl rfl (aB (aA ?_))))))))
  refine bB ?_ (.refl _) ⟨k+1,Nq,rfl,rfl,rfl,by omega,by rw [bytesSt_succ (by omega), ←byte_at (by omega), ←set_u8s];exact rq⟩ ?_
  ·exact .cons (by first|exact aK rfl (by omega)|rfl) (.cons (by first|exact aK rfl (by omega)|rfl) (.cons (by first|exact aK rfl (by omega)|rfl) (.cons (by first|exact aK rfl (by omega)|rfl) (.cons (by first|exact aK rfl (by omega)|rfl) .nil))))
  ·omega
 refine At.exit (aF (aF (aU (aA (s_4 (At.seq fun _ s_11=>At.region (aC (aD rfl) rfl rfl (aE (aD rfl) rfl rfl (aB (aA (s_11 (At.ret ((aQ (L1:= [Nq]) rfl (.tmp rfl .nil) (.refl _) (.refl _) ?_))))))))))))))
 obtain rfl:k=m:=by omega
 rw [bytesSt_all, ←hB]at rq
 exact⟨Nq,a12,rfl,rfl,rq⟩
theorem bytesOf_le {n k:Nat} (h:n<256^k):(bytesOf n).length≤k:=by rw [length_bytesOf];exact byteLen_le.2 h
theorem head_f (b n:Nat) (hb:b≤192) (hn:n≤1099511627776):
 Fn Try.prog 81 #[.int .i64 (b:Int),.int .i64 (n:Int)] [] [] (fun v L=> ∃M a cap,v=.slice a (rlpHead b n).length cap∧L= [M]∧Row M 5 1 a (rlpHead b n).length cap (u8s (rlpHead b n))):=by
 have h8:=bytesOf_le (n:=n) (k:=8) (by omega)
 refine Fn.enter (vs:= [.int .i64 (b:Int),.int .i64 (n:Int)]) Try.func81 rfl rfl rfl ?_
 intro E R hR
 change At _ _ E [R] _
 refine At.seq fun _ s_1=>At.region (aE (aD rfl) rfl rfl (aB (aA (s_1 (At.seq fun _ s_2=>At.seq fun _ s_3=>At.region (aC (aD rfl) rfl rfl (op_leq (aD rfl) rfl rfl rfl (aB (aA (s_3 (aL rfl (fun c7=>?_) (fun c7=>?_))))))))))))
 ·refine At.seq fun _ s_4=>At.region (aC (aD rfl) rfl rfl (aC (aD rfl) rfl rfl (aO (aD rfl) rfl rfl (by omega) (by omega) rfl (op_conv8 (aD rfl) (und_some Try.underlying3) Try.underlying5 rfl (show _=(((b+n:Nat)):Int)from by omega) rfl ?_))))
  refine op_lit (aX rfl) Try.underlying33 ze5 sz5 (.cons rfl .nil) rfl rfl (by simp [Value.cells]) rfl rfl rfl (fun N12 a12 r12=>?_)
  simp only [flatV,List.flatMap_cons,List.flatMap_nil,Value.cells,List.append_nil,List.cons_append,List.nil_append]at r12
  have s12:=r12.rsl
  refine aE (aD rfl) rfl rfl (aB (aA (s_4 (At.ret (bA ((aQ (L1:= [N12]) rfl (.tmp rfl .nil) (.refl _) (.refl _) ?_)))))))
  have e:rlpHead b n= [UInt8.ofNat (b+n)]:=by rw [rlpHead,if_pos (by omega)]
  rw [e]
  exact⟨N12,a12,1,rfl,rfl,r12⟩
 refine At.skip (aA (s_2 (At.seq fun _ s_5=>At.region (aC (aD rfl) rfl rfl (op_conv64 (aD rfl) (und_some Try.underlying3) Try.underlying78 rfl (show _=(((n:Nat)):Int)from by omega) rfl ?_)))))
 refine op_lit (aX rfl) Try.underlying135 ze78 sz78 (.cons rfl .nil) rfl rfl (by simp [Value.cells]) rfl rfl rfl (fun N15 a15 r15=>?_)
 simp only [flatV,List.flatMap_cons,List.flatMap_nil,Value.cells,List.append_nil,List.cons_append,List.nil_append]at r15
 have s15:=r15.rsl
 refine aH (aX rfl) (.cons rfl .nil) (Bytes_f (l:= [UInt64.ofNat n]) s15 (by decide)) Try.func96 rfl rfl (by simp) rfl ?_
 rintro v16 L16 ⟨M16,a16,rfl,rfl,r16⟩
 change At _ _ _ [M16,N15,R] _
 rw [v64_one n (by omega)]at r16⊢
 have s16:=r16.rsl
 refine aE (aD rfl) rfl rfl (aB (aA (s_5 (At.seq fun _ s_6=>At.region (aC (aD rfl) rfl rfl (aO (aD rfl) rfl rfl (by omega) (by omega) rfl (aC (aD rfl) rfl rfl (aS (aD rfl) se33 rfl rfl (aO (aD rfl) rfl rfl (by omega) (by omega) rfl (op_conv8 (aD rfl) (und_some Try.underlying3) Try.underlying5 rfl (show _=(((b+55+(bytesOf n).length:Nat)):Int)from by omega) rfl ?_))))))))))
 refine op_lit (aX rfl) Try.underlying33 ze5 sz5 (.cons rfl .nil) rfl rfl (by simp [Value.cells]) rfl rfl rfl (fun N23 a23 r23=>?_)
 simp only [flatV,List.flatMap_cons,List.flatMap_nil,Value.cells,List.append_nil,List.cons_append,List.nil_append]at r23
 have s23:=r23.rsl
 refine aC (aD rfl) rfl rfl ?_
 refine bD (nxl rfl) Try.underlying33 Try.underlying33 te5 rfl rfl r23 (by assumption) (by first|exact aN|exact aV|exact aZ|exact mem3|exact mem4|exact mem5|exact mem6|exact mem7|exact mem8|exact mem9) (by first|exact one_u8s _|exact one_u64s _|exact one_u32s _|(intro u hu;simp at hu;subst hu;rfl)) (by omega) (by omega) sel0 rfl (fun N25 a25 p25 r25=>?_)
 have s25:=r25.rsl
 refine aE (aD rfl) rfl rfl (aB (aA (s_6 (At.ret ((At.sub (L':= [N25,R]) (.cons_cons _ (.cons _ (.cons _ (.cons_cons _ (.slnil))))) (aQ (L1:= [N25]) rfl (.tmp rfl .nil) (.refl _) (.refl _) ?_)))))))
 have e:rlpHead b n=UInt8.ofNat (b+55+(bytesOf n).length)::bytesOf n:=by rw [rlpHead,if_neg (by omega)]
 rw [e,List.length_cons,Nat.add_comm (bytesOf n).length 1]
 exact⟨N25,a25,p25,rfl,rfl,r25⟩
end Go.Proofs.Ytdpjbefeabokgaa
/- package word's From, Bits, Bytes, Short; the reference's N, Short. No condition. -/
namespace Go.Proofs.Ytdpjbefeabokgaa
open Go Go.RowKit
end Go.Proofs.Ytdpjbefeabokgaa
/- package word's Bytes, Short; the reference's N, Short. No condition. -/
namespace Go.Proofs.Ytdpjbefeabokgaa
open Go Go.RowKit
end Go.Proofs.Ytdpjbefeabokgaa
/- package word's Bytes, Short. No condition. -/
namespace Go.Proofs.Ytdpjbefeabokgaa
open Go Go.RowKit
theorem setL_at (vs:List Value): ∀(p cs:List Value),cs.length=vs.length→setL (p++cs) p.length vs=p++vs:=by
 induction vs with
 |nil=>intro p cs h;rw [List.eq_nil_of_length_eq_zero h];rfl
 |cons v t ih=>
  intro p cs h
  match cs,h with
  |c::cs,h=>
   rw [setL]
   have e:(p++c::cs).set p.length v=(p++ [v])++cs:=by simp
   rw [e]
   have:=ih (p++ [v]) cs (by simpa using h)
   rw [List.length_append]at this
   simpa using this
theorem setL_whole {cs vs:List Value} (h:cs.length=vs.length):setL cs 0 vs=vs:=by simpa using setL_at vs [] cs h
end Go.Proofs.Ytdpjbefeabokgaa
/- Plain law: the first item of bytes. No condition. -/
namespace Go.Proofs.Ytdpjbefeabokgaa
/-- The payload of n bytes from place i on, and what is behind it. -/
def cutAt (b:List UInt8) (i n:Nat):Option (Bool×List UInt8×List UInt8):=
 if b.length- i<n then none
 else if 192≤(b.getD 0 0).toNat then some (true,(b.drop i).take n,b.drop (i+n))
 else if n=1∧(b.getD i 0).toNat<128 then none
 else some (false,(b.drop i).take n,b.drop (i+n))
/-- What the head's first byte says of the length. -/
def hdr (b:List UInt8):Nat:=((b.getD 0 0).toNat- 128) % 64
/-- The length that is written out. -/
def lng (b:List UInt8):Nat:=be ((b.drop 1).take (hdr b- 54- 1))
/-- The first item's kind and payload, and what is behind it. -/
def cutF (b:List UInt8):Option (Bool×List UInt8×List UInt8):=
 if b.length=0 then none
 else if (b.getD 0 0).toNat<128 then some (false,b.take 1,b.drop 1)
 else if hdr b≤55 then cutAt b 1 (hdr b)
 else if b.length<hdr b- 54∨(b.getD 1 0).toNat=0 then none
 else if lng b≤55∨b.length<lng b then none
 else cutAt b (hdr b- 54) (lng b)
end Go.Proofs.Ytdpjbefeabokgaa
/- rlp.cut takes the first item's payload apart from what is behind it. No condition. -/
namespace Go.Proofs.Ytdpjbefeabokgaa
open Go Go.RowKit
end Go.Proofs.Ytdpjbefeabokgaa
/- Items: trees of byte strings, their forms, and how they lie in memory. No condition. -/
namespace Go.Proofs.Ytdpjbefeabokgaa
open Go Go.RowKit
/-- An item: whether it is a list, its bytes, its items. -/
inductive It where
 |mk (list:Bool) (bytes:List UInt8) (items:List It)
mutual
def It.form:It→List UInt8
 |.mk false bs _=>match bs with
  | [x]=>if x<128 then [x]else rlpHead 128 1++ [x]
  |bs=>rlpHead 128 bs.length++bs
 |.mk true _ its=>rlpHead 192 (It.forms its).length++It.forms its
def It.forms:List It→List UInt8
 | []=> []
 |t::ts=>It.form t++It.forms ts
end
mutual
def It.depth:It→Nat
 |.mk false _ _=>0
 |.mk true _ its=>It.depths its+1
def It.depths:List It→Nat
 | []=>0
 |t::ts=>max (It.depth t) (It.depths ts)
end
mutual
theorem It.ind_it {P:It→Prop} (h: ∀l bs its,(∀t∈its,P t)→P (.mk l bs its)): ∀t,P t
 |.mk l bs its=>h l bs its (It.ind_its h its)
theorem It.ind_its {P:It→Prop} (h: ∀l bs its,(∀t∈its,P t)→P (.mk l bs its)): ∀its:List It, ∀t∈its,P t
 | [],_,ht=>by cases ht
 |x::xs,t,ht=>by
  rcases List.mem_cons.1 ht with e|ht
  ·rw [e];exact It.ind_it h x
  ·exact It.ind_its h xs t ht
end
theorem forms_append (a b:List It):It.forms (a++b)=It.forms a++It.forms b:=by
 induction a with
 |nil=>rfl
 |cons t ts ih=>simp only [List.cons_append,It.forms,ih,List.append_assoc]
theorem forms_take_succ {its:List It} {k:Nat} {t:It} (h:its[k]? =some t):It.forms (its.take (k+1))=It.forms (its.take k)++t.form:=by
 obtain⟨hlt,rfl⟩:=List.getElem?_eq_some_iff.1 h
 rw [List.take_succ_eq_append_getElem hlt,forms_append]
 simp [It.forms]
theorem forms_take_le (its:List It) (k:Nat):(It.forms (its.take k)).length≤(It.forms its).length:=by
 conv=>rhs;rw [←List.take_append_drop k its]
 rw [forms_append,List.length_append]
 omega
theorem form_le {its:List It} {t:It} (h:t∈its):t.form.length≤(It.forms its).length:=by
 obtain⟨a,b,rfl⟩:=List.append_of_mem h
 rw [forms_append,It.forms]
 simp
 omega
theorem depths_le {its:List It} {d:Nat} :It.depths its≤d↔ ∀t∈its,t.depth≤d:=by
 induction its with
 |nil=>simp [It.depths]
 |cons t ts ih=>simp [It.depths,Nat.max_le,ih]
/-- One byte below 128. -/
def small:List UInt8→Bool
 | [x]=>decide (x<128)
 |_=>false
theorem form_false (bs:List UInt8) (its:List It):(It.mk false bs its).form=if small bs then bs else rlpHead 128 bs.length++bs:=by
 cases bs with
 |nil=>simp [It.form,small]
 |cons x xs=>
  cases xs with
  |nil=>simp [It.form,small]
  |cons y ys=>simp [It.form,small]
theorem form_true (bs:List UInt8) (its:List It):(It.mk true bs its).form=rlpHead 192 (It.forms its).length++It.forms its:=by simp [It.form]
theorem small_iffI {bs:List UInt8} :small bs=true↔bs.length=1∧(bs.getD 0 0).toNat<128:=by
 cases bs with
 |nil=>simp [small]
 |cons x xs=>
  cases xs with
  |nil=>simp [small,UInt8.lt_iff_toNat_lt]
  |cons y ys=>simp [small]
theorem one_eq {bs:List UInt8} (h:bs.length=1):bs= [bs.getD 0 0]:=by
 cases bs with
 |nil=>simp at h
 |cons x xs=>cases xs with
  |nil=>rfl
  |cons y ys=>simp at h
/-- An item's three values. -/
structure IV where
 l:Bool
 ab:Option Addr
 nb:Nat
 cb:Nat
 ai:Option Addr
 ni:Nat
 ci:Nat
def IV.cells (x:IV):List Value:= [.bool x.l,.slice x.ab x.nb x.cb,.slice x.ai x.ni x.ci]
def cellsI (xs:List IV):List Value:=xs.flatMap IV.cells
theorem length_cellsI (xs:List IV):(cellsI xs).length=xs.length*3:=by
 induction xs with
 |nil=>rfl
 |cons x t ih=>simp only [cellsI,List.flatMap_cons,List.length_append,List.length_cons]at ih⊢;rw [ih];simp [IV.cells];omega
theorem cells_at {xs:List IV} {k:Nat} {x:IV} (h:xs[k]? =some x):((cellsI xs).drop (k*3)).take 3= [.bool x.l,.slice x.ab x.nb x.cb,.slice x.ai x.ni x.ci]:=by
 induction xs generalizing k with
 |nil=>simp at h
 |cons y t ih=>
  cases k with
  |zero=>simp at h;subst h;simp [cellsI,IV.cells]
  |succ k=>
   have:=ih (k:=k) (by simpa using h)
   rw [←this]
   have e:cellsI (y::t)=y.cells++cellsI t:=by simp [cellsI]
   have hl:y.cells.length=3:=rfl
   rw [e,show(k+1)*3=y.cells.length+k*3 from by rw [hl];omega,List.drop_append,List.drop_eq_nil_of_le (by omega),List.nil_append,Nat.add_sub_cancel_left]
mutual
/-- The item's values read so in N. -/
def ItN (N:Heaplet):It→IV→Prop
 |.mk l bs its,x=>x.l=l∧RSl N 1 x.ab x.nb x.cb (u8s bs)∧ ∃xs,RSl N 3 x.ai x.ni x.ci (cellsI xs)∧ItsN N its xs
def ItsN (N:Heaplet):List It→List IV→Prop
 | [],xs=>xs= []
 |t::ts,xs=> ∃x r,xs=x::r∧ItN N t x∧ItsN N ts r
end
mutual
theorem ItN.le {N M:Heaplet} (hl:N.le M): ∀ {t:It} {x:IV},ItN N t x→ItN M t x
 |.mk l bs its,x,h=>by
  simp only [ItN]at h⊢
  obtain⟨h1,h2,xs,h3,h4⟩:=h
  exact⟨h1,h2.le hl,xs,h3.le hl,ItsN.le hl h4⟩
theorem ItsN.le {N M:Heaplet} (hl:N.le M): ∀ {ts:List It} {xs:List IV},ItsN N ts xs→ItsN M ts xs
 | [],xs,h=>h
 |t::ts,xs,h=>by
  simp only [ItsN]at h⊢
  obtain⟨x,r,e,h1,h2⟩:=h
  exact⟨x,r,e,ItN.le hl h1,ItsN.le hl h2⟩
end
theorem ItsN.length {N:Heaplet} : ∀ {ts:List It} {xs:List IV},ItsN N ts xs→xs.length=ts.length
 | [],xs,h=>by simp only [ItsN]at h;subst h;rfl
 |t::ts,xs,h=>by
  simp only [ItsN]at h
  obtain⟨x,r,rfl,_,h2⟩:=h
  simp [h2.length]
theorem ItsN.get {N:Heaplet} : ∀ {ts:List It} {xs:List IV} {k:Nat} {t:It},ItsN N ts xs→ts[k]? =some t→ ∃x,xs[k]? =some x∧ItN N t x
 | [],xs,k,t,_,h=>by simp at h
 |t'::ts,xs,0,t,h,hk=>by
  simp only [ItsN]at h
  obtain⟨x,r,rfl,h1,_⟩:=h
  simp at hk;subst hk
  exact⟨x,rfl,h1⟩
 |t'::ts,xs,k+1,t,h,hk=>by
  simp only [ItsN]at h
  obtain⟨x,r,rfl,_,h2⟩:=h
  obtain⟨y,hy,hi⟩:=h2.get (k:=k) (by simpa using hk)
  exact⟨y,by simpa using hy,hi⟩
theorem ItsN.snoc {N:Heaplet} : ∀ {ts:List It} {xs:List IV} {t:It} {x:IV},ItsN N ts xs→ItN N t x→ItsN N (ts++ [t]) (xs++ [x])
 | [],xs,t,x,h,hi=>by simp only [ItsN]at h;subst h;exact⟨x,[],rfl,hi,rfl⟩
 |t'::ts,xs,t,x,h,hi=>by
  simp only [ItsN]at h
  obtain⟨y,r,rfl,h1,h2⟩:=h
  exact⟨y,r++ [x],rfl,h1,h2.snoc hi⟩
theorem ItN.mk {N:Heaplet} {l:Bool} {bs:List UInt8} {its:List It} {ab ai:Option Addr} {nb cb ni ci:Nat} {xs:List IV} (h1:RSl N 1 ab nb cb (u8s bs)) (h2:RSl N 3 ai ni ci (cellsI xs)) (h3:ItsN N its xs):ItN N (.mk l bs its) ⟨l,ab,nb,cb,ai,ni,ci⟩:=⟨rfl,h1,xs,h2,h3⟩
end Go.Proofs.Ytdpjbefeabokgaa
/- Plain law: the item that bytes tell. No condition. -/
namespace Go.Proofs.Ytdpjbefeabokgaa
def exMap {α:Type} (f:List α→List α):Except Nat (List α)→Except Nat (List α)
 |.ok l=>.ok (f l)
 |.error e=>.error e
/-- Items one behind the other. -/
def itemsF (dec:List UInt8→Except Nat (It×List UInt8)):Nat→List UInt8→Except Nat (List It)
 |_,[]=>.ok []
 |0,_::_=>.error 2
 |f+1,c::b=>match dec (c::b)with
  |.error e=>.error e
  |.ok (t,q)=>exMap (t:: ·) (itemsF dec f q)
def itF (dec:List UInt8→Except Nat (It×List UInt8)) (b:List UInt8):Except Nat (List It):=itemsF dec b.length b
/-- The first item and what is behind it, or the error's number; k more lists may be nested. -/
def decF:Nat→List UInt8→Except Nat (It×List UInt8)
 |0,b=>match cutF b with
  |none=>.error 2
  |some (false,p,r)=>.ok (.mk false p [],r)
  |some (true,_,_)=>.error 7
 |k+1,b=>match cutF b with
  |none=>.error 2
  |some (false,p,r)=>.ok (.mk false p [],r)
  |some (true,p,r)=>match itF (decF k) p with
   |.error e=>.error e
   |.ok its=>.ok (.mk true [] its,r)
end Go.Proofs.Ytdpjbefeabokgaa
/- rlp.decode, rlp.Decode read the item that bytes tell. No condition but that they are not longer than a machine holds. -/
namespace Go.Proofs.Ytdpjbefeabokgaa
open Go Go.RowKit
set_option maxRecDepth 100000
/-- What decode tells. -/
def DecP (ao:Option Addr) (n cap:Nat) (b:List UInt8) (r:Except Nat (It×List UInt8)) (v:Value) (L:List Heaplet):Prop:=
 (∃t q M, ∃x:IV, ∃aq cq,r=.ok (t,q)∧v=.tuple #[.agg #[.bool x.l,.slice x.ab x.nb x.cb,.slice x.ai x.ni x.ci],.slice aq q.length cq,.int .i64 0]∧L= [M]∧ItN M t x∧ ∀N,RSl N 1 ao n cap (u8s b)→RSl N 1 aq q.length cq (u8s q))∨
 (∃e:Nat,r=.error e∧v=.tuple #[.agg #[.bool false,.slice none 0 0,.slice none 0 0],.slice none 0 0,.int .i64 (e:Int)]∧L= []∧e≠0)
end Go.Proofs.Ytdpjbefeabokgaa
/- rlp.encode, rlp.Encode write any item. No condition but that the form is not longer than a machine holds. -/
namespace Go.Proofs.Ytdpjbefeabokgaa
open Go Go.RowKit
set_option maxRecDepth 100000
theorem rlpHead_le (b n:Nat) (h:n<256^8):(rlpHead b n).length≤9:=by
 unfold rlpHead
 split
 ·simp
 ·have:=bytesOf_le h
  simp;omega
/-- What encode tells: the form, or that it is too deep. -/
def EncP (t:It) (lists:Nat) (v:Value) (L:List Heaplet):Prop:=
 (∃M a cap,v=.tuple #[.slice a t.form.length cap,.int .i64 0]∧L= [M]∧Row M 5 1 a t.form.length cap (u8s t.form)∧lists+t.depth≤1024)∨
 (v=.tuple #[.slice none 0 0,.int .i64 7]∧L= []∧ ¬lists+t.depth≤1024)
theorem encode_bs {N:Heaplet} {bs:List UInt8} {its:List It} {ab ai:Option Addr} {nb cb ni ci:Nat} (h:RSl N 1 ab nb cb (u8s bs)) (lists:Nat) (q:Int) (hl:lists≤1024) (hlen:(It.mk false bs its).form.length≤1099511627776):
 Fn Try.prog 69 #[.agg #[.bool false,.slice ab nb cb,.slice ai ni ci],.int .i64 q] [] [N] (EncP (.mk false bs its) lists):=by
 have hn:=h.len8
 have hcap:=h.cap63
 have hd:lists+(It.mk false bs its).depth≤1024:=by simpa [It.depth]using hl
 have hf:=form_false bs its
 have hsm:= @small_iffI bs
 have hub:small bs≠true→(rlpHead 128 nb).length+nb≤1099511627776:=fun e=>by rw [hf,if_neg e,List.length_append,hn]at hlen;exact hlen
 refine Fn.enter (vs:= [.agg #[.bool false,.slice ab nb cb,.slice ai ni ci],.int .i64 q]) Try.func69 rfl rfl rfl ?_
 intro E R hR
 have h:=h.le (hR N (by simp))
 change At _ _ E [R] _
 refine At.seq fun _ s_1=>At.region (op_box (aX rfl) rfl rfl rfl (fun N2 b2 B2=>aE (aD rfl) rfl rfl (aE (aD rfl) rfl rfl (aB (aA (s_1 (At.seq fun _ s_2=>At.seq fun _ s_3=>At.region (aG (aD rfl) fl84_0 rfl rfl (aJ (aD rfl) sc4 rfl B2 (by first|rfl) aN rfl ?_)))))))))
 refine op_not (aD rfl) rfl rfl (aB (aA (s_3 (At.condT rfl (At.seq fun _ s_4=>At.seq fun _ s_5=>At.region (aG (aD rfl) fl84_1 rfl rfl (aJ (aD rfl) sc33 rfl B2 (by first|rfl) aN rfl ?_)))))))
 refine aS (aD rfl) se33 rfl rfl (op_eql (aD rfl) rfl rfl rfl (aC (aD rfl) rfl rfl (At.partP (d:=18) rfl (fun g18=>?_) (fun g18=>?_))))
 ·refine aG (nxgf rfl rfl rfl rfl) fl84_1 rfl rfl (aJ (nxgf rfl rfl rfl rfl) sc33 rfl B2 (by first|rfl) aN rfl ?_)
  refine op_idx1 (nxgf rfl rfl rfl rfl) se33 rfl rfl (by assumption) (show _=(((0:Nat)):Int)from by omega) (by omega) rfl ?_
  refine aR (nxgf rfl rfl rfl rfl) sc5 rfl (by assumption) (by first|exact get8 (by omega)|exact get64 (by omega)|exact get32 (by omega)) (by first|exact aN|exact aV|exact aZ|exact mem3|exact mem4|exact mem5|exact mem6|exact mem7|exact mem8|exact mem9) rfl ?_
  refine op_lss (nxgf rfl rfl rfl rfl) rfl rfl rfl (op_pickT (aD rfl) rfl rfl rfl (aB (aA (s_5 (aL rfl (fun c24=>?_) (fun c24=>?_))))))
  ·refine At.seq fun _ s_6=>At.region (aG (aD rfl) fl84_1 rfl rfl (aJ (aD rfl) sc33 rfl B2 (by first|rfl) aN rfl ?_))
   refine op_idx1 (aD rfl) se33 rfl rfl (by assumption) (show _=((0:Nat):Int)from rfl) (by omega) rfl ?_
   refine aR (aD rfl) sc5 rfl (by assumption) (by first|exact get8 (by omega)|exact get64 (by omega)|exact get32 (by omega)) (by first|exact aN|exact aV|exact aZ|exact mem3|exact mem4|exact mem5|exact mem6|exact mem7|exact mem8|exact mem9) rfl ?_
   refine op_lit (aX rfl) Try.underlying33 ze5 sz5 (.cons rfl .nil) rfl rfl (by simp [Value.cells]) rfl rfl rfl (fun N29 a29 r29=>?_)
   simp only [flatV,List.flatMap_cons,List.flatMap_nil,Value.cells,List.append_nil,List.cons_append,List.nil_append]at r29
   have s29:=r29.rsl
   refine aE (aD rfl) rfl rfl (aE (aD rfl) rfl rfl (aB (aA (s_6 (At.ret (bA (bA ((At.sub (L':= [N29,R]) (.cons_cons _ (.cons _ (.cons_cons _ (.slnil)))) (At.retN (L1:= [N29]) rfl (.tmp rfl (.tmp rfl .nil)) rfl (.refl _) (.refl _) ?_))))))))))
   have e:(It.mk false bs its).form= [bs.getD 0 0]:=by
    rw [hf,if_pos (hsm.2 ⟨by omega,by omega⟩)]
    exact one_eq (by omega)
   exact .inl ⟨N29,a29,1,by rw [e];rfl,rfl,by rw [e];exact r29,hd⟩
  refine At.skip (aA (s_4 (At.seq fun _ s_7=>At.drawn [6] [0,1,2,4,5,3,6,7,8] (by kernel_rfl) (by kernel_rfl) (aG (aI rfl rfl rfl (by kernel_rfl)) fl84_1 rfl rfl (aJ (aI rfl rfl rfl (by kernel_rfl)) sc33 rfl B2 (by first|rfl) aN rfl ?_)))))
  refine aS (aI rfl rfl rfl (by kernel_rfl)) se33 rfl rfl (aG (aI rfl rfl rfl (by kernel_rfl)) fl84_1 rfl rfl (aJ (aI rfl rfl rfl (by kernel_rfl)) sc33 rfl B2 (by first|rfl) aN rfl ?_))
  have hub':=hub (fun e=>by have:=hsm.1 e;omega)
  refine aH (nxoa rfl rfl rfl) (.cons rfl (.cons rfl .nil)) (head_f 128 nb (by omega) (by omega)) Try.func81 rfl rfl (by simp) rfl ?_
  rintro v33 L33 ⟨M33,a33,p33,rfl,rfl,r33⟩
  change At _ _ _ [M33,N2,R] _
  refine bD (nxos rfl rfl rfl rfl) Try.underlying33 Try.underlying33 te5 rfl rfl r33 (by assumption) (by first|exact aN|exact aV|exact aZ|exact mem3|exact mem4|exact mem5|exact mem6|exact mem7|exact mem8|exact mem9) (by first|exact one_u8s _|exact one_u64s _|exact one_u32s _|(intro u hu;simp at hu;subst hu;rfl)) (by omega) (by omega) sel0 rfl (fun N36 a36 p36 r36=>?_)
  have s36:=r36.rsl
  refine aE (aI rfl rfl rfl (by kernel_rfl)) rfl rfl (aE (aI rfl rfl rfl (by kernel_rfl)) rfl rfl (At.oneNil (aA (s_7 (At.ret (bA ((At.sub (L':= [N36,R]) (.cons_cons _ (.cons _ (.cons_cons _ (.slnil)))) (At.retN (L1:= [N36]) rfl (.tmp rfl (.tmp rfl .nil)) rfl (.refl _) (.refl _) ?_)))))))))
  have e:(It.mk false bs its).form=rlpHead 128 nb++bs:=by rw [hf,if_neg (fun e=>by have:=hsm.1 e;omega),hn]
  exact .inl ⟨N36,a36,p36,by rw [e,List.length_append,hn],rfl,by rw [e,List.length_append,hn,u8s,List.map_append];exact r36,hd⟩
 refine aY rfl rfl rfl rfl rfl rfl rfl (aY rfl rfl rfl rfl rfl rfl rfl (aY rfl rfl rfl rfl rfl rfl rfl (aY rfl rfl rfl rfl rfl rfl rfl (aY rfl rfl rfl rfl rfl rfl rfl (op_pickF (aD rfl) rfl rfl rfl (aB (aA (s_5 (At.condF rfl (At.skip (aA (s_4 (At.seq fun _ s_8=>At.drawn [6] [0,1,2,4,5,3,6,7,8] (by kernel_rfl) (by kernel_rfl) (aG (aI rfl rfl rfl (by kernel_rfl)) fl84_1 rfl rfl (aJ (aI rfl rfl rfl (by kernel_rfl)) sc33 rfl B2 (by first|rfl) aN rfl ?_)))))))))))))))
 refine aS (aI rfl rfl rfl (by kernel_rfl)) se33 rfl rfl (aG (aI rfl rfl rfl (by kernel_rfl)) fl84_1 rfl rfl (aJ (aI rfl rfl rfl (by kernel_rfl)) sc33 rfl B2 (by first|rfl) aN rfl ?_))
 have hub':=hub (fun e=>by have:=hsm.1 e;omega)
 refine aH (nxoa rfl rfl rfl) (.cons rfl (.cons rfl .nil)) (head_f 128 nb (by omega) (by omega)) Try.func81 rfl rfl (by simp) rfl ?_
 rintro v33 L33 ⟨M33,a33,p33,rfl,rfl,r33⟩
 change At _ _ _ [M33,N2,R] _
 refine bD (nxos rfl rfl rfl rfl) Try.underlying33 Try.underlying33 te5 rfl rfl r33 (by assumption) (by first|exact aN|exact aV|exact aZ|exact mem3|exact mem4|exact mem5|exact mem6|exact mem7|exact mem8|exact mem9) (by first|exact one_u8s _|exact one_u64s _|exact one_u32s _|(intro u hu;simp at hu;subst hu;rfl)) (by omega) (by omega) sel0 rfl (fun N36 a36 p36 r36=>?_)
 have s36:=r36.rsl
 refine aE (aI rfl rfl rfl (by kernel_rfl)) rfl rfl (aE (aI rfl rfl rfl (by kernel_rfl)) rfl rfl (At.oneNil (aA (s_8 (At.ret (bA ((At.sub (L':= [N36,R]) (.cons_cons _ (.cons _ (.cons_cons _ (.slnil)))) (At.retN (L1:= [N36]) rfl (.tmp rfl (.tmp rfl .nil)) rfl (.refl _) (.refl _) ?_)))))))))
 have e:(It.mk false bs its).form=rlpHead 128 nb++bs:=by rw [hf,if_neg (fun e=>by have:=hsm.1 e;omega),hn]
 exact .inl ⟨N36,a36,p36,by rw [e,List.length_append,hn],rfl,by rw [e,List.length_append,hn,u8s,List.map_append];exact r36,hd⟩
theorem encode_its {N:Heaplet} {its:List It} {xs:List IV} {ab ai:Option Addr} {nb cb ni ci:Nat} {bs:List UInt8} (hI:RSl N 3 ai ni ci (cellsI xs)) (hX:ItsN N its xs) (lists:Nat) (q:Int) (hq:q=lists) (hl:lists≤1024) (hlen:(It.mk true bs its).form.length≤1099511627776)
 (ih: ∀t∈its, ∀(N:Heaplet) (x:IV) (lists:Nat) (q:Int),ItN N t x→q=lists→lists≤1024→t.form.length≤1099511627776→Fn Try.prog 69 #[.agg #[.bool x.l,.slice x.ab x.nb x.cb,.slice x.ai x.ni x.ci],.int .i64 q] [] [N] (EncP t lists)):
 Fn Try.prog 69 #[.agg #[.bool true,.slice ab nb cb,.slice ai ni ci],.int .i64 q] [] [N] (EncP (.mk true bs its) lists):=by
 have hn:xs.length=ni:=by have:=hI.1;rw [length_cellsI]at this;omega
 have hn2:=hX.length
 have hcap:=hI.cap63
 have hf:=form_true bs its
 have hlf:(rlpHead 192 (It.forms its).length).length+(It.forms its).length≤1099511627776:=by rw [hf,List.length_append]at hlen;exact hlen
 have hdep:(It.mk true bs its).depth=It.depths its+1:=by simp [It.depth]
 refine Fn.enter (vs:= [.agg #[.bool true,.slice ab nb cb,.slice ai ni ci],.int .i64 q]) Try.func69 rfl rfl rfl ?_
 intro E R hR
 have hI:=hI.le (hR N (by simp))
 have hX:=hX.le (hR N (by simp))
 change At _ _ E [R] _
 refine At.seq fun _ s_1=>At.region (op_box (aX rfl) rfl rfl rfl (fun N2 b2 B2=>aE (aD rfl) rfl rfl (aE (aD rfl) rfl rfl (aB (aA (s_1 (At.seq fun _ s_2=>At.seq fun _ s_3=>At.region (aG (aD rfl) fl84_0 rfl rfl (aJ (aD rfl) sc4 rfl B2 (by first|rfl) aN rfl ?_)))))))))
 refine op_not (aD rfl) rfl rfl (aB (aA (s_3 (At.condF rfl (At.skip (aA (s_2 (At.seq fun _ s_4=>At.seq fun _ s_5=>At.region (aC (aD rfl) rfl rfl (op_eql (aD rfl) rfl rfl rfl (aB (aA (s_5 (aL rfl (fun c38=>?_) (fun c38=>?_)))))))))))))))
 ·refine At.seq fun _ s_6=>At.region (aE (aD rfl) rfl rfl (aE (aD rfl) rfl rfl (aB (aA (s_6 (At.ret (bA ((At.sub (L':= [R]) (.cons _ (.cons_cons _ (.slnil))) (At.retN (L1:= []) rfl (.tmp rfl (.tmp rfl .nil)) rfl (.refl _) (.refl _) ?_))))))))))
  exact .inr ⟨rfl,rfl,by omega⟩
 refine At.skip (aA (s_4 (At.seq fun _ s_7=>At.region (aE (aD rfl) rfl rfl (aB (aA (s_7 (At.seq fun _ s_8=>At.seq fun _ s_9=>At.region (aG (aD rfl) fl84_2 rfl rfl (aJ (aD rfl) sc82 rfl B2 (by first|rfl) aN rfl ?_))))))))))
 refine aS (aD rfl) se82 rfl rfl (aC (aD rfl) rfl rfl (aB (aA (s_9 (At.block (At.empty (At.perm sel2 (At.perm sel1 (At.perm sel2 (At.loop (fun fr_ hp_ ms_=> ∃(k np:Nat) (ap:Option Addr) (cp:Nat) (Np:Heaplet),fr_= [(1,.int .i64 q),(2,.pointer (some ⟨b2,0,none⟩)),(6,.slice ap np cp),(40,.slice ai ni ci),(41,.int .i64 (ni:Int)),(42,.int .i64 (k:Int))]∧hp_= [N2,Np,R]∧ni- k=ms_∧(k≤ni)∧(np=(It.forms (its.take k)).length)∧(Row Np 5 1 ap np cp (u8s (It.forms (its.take k))))∧(∀t∈its.take k,lists+1+t.depth≤1024)) ?_ (.refl _) ⟨0,0,none,0,nilH,rfl,rfl,rfl,by omega,by simp [It.forms],by simpa [It.forms,u8s]using Row.nil nilH 5 1,by simp⟩ ?_))))))))))
 ·exact .cons (by first|exact aK rfl (by omega)|rfl) (.cons (by first|exact aK rfl (by omega)|rfl) (.cons (by first|exact aK rfl (by omega)|rfl) (.cons (by first|exact aK rfl (by omega)|rfl) (.cons (by first|exact aK rfl (by omega)|rfl) (.cons (by first|exact aK rfl (by omega)|rfl) .nil)))))
 rintro _ _ _ ⟨k,np,ap,cp,Np,rfl,rfl,rfl,hk,hnp,rp,hd⟩
 have sp:=rp.rsl
 have hle:=forms_take_le its k
 refine At.seq fun _ s_10=>At.region (op_lss (aD rfl) rfl rfl rfl (aB (aA (s_10 (At.seq fun _ s_11=>aL rfl (fun c43=>?_) (fun c43=>?_))))))
 ·have hlt:k<its.length:=by omega
  obtain⟨x,hx,hi⟩:=hX.get (List.getElem?_eq_getElem hlt)
  have hts:=forms_take_succ (List.getElem?_eq_getElem hlt)
  have hfe:=form_le (List.getElem_mem hlt)
  have hle2:=forms_take_le its (k+1)
  have hsum:np+(its[k]).form.length≤(It.forms its).length:=by rw [hts,List.length_append]at hle2;omega
  refine At.skip (aA (s_11 (At.seq fun _ s_12=>At.block (At.seq fun _ s_13=>At.region (op_idxE (aD rfl) se82 rfl rfl (by assumption) (show _=(((k:Nat)):Int)from by omega) (by omega) rfl ?_)))))
  refine op_loadAggE (aD rfl) ag84 rfl (by assumption) (by exact cells_at hx) (by rfl) (by omega) (by first|exact aN|exact aV|exact aZ|exact mem3|exact mem4|exact mem5|exact mem6|exact mem7|exact mem8|exact mem9) rfl ?_
  refine op_alloc (aX rfl) ze84 rfl (fun N8 b8 B8=>?_)
  change Blk N8 b8 _ [.bool false,.slice none 0 0,.slice none 0 0]at B8
  refine aW (nxl rfl) sz84 rfl rfl rfl rfl rfl B8 (by simp) sel0 (fun N8 B8=>?_)
  simp only [setL,List.set]at B8
  refine aB (aA (s_13 (At.seq fun _ s_14=>At.region (op_loadAggB (ds:= [_,_,_]) (aD rfl) ag84 rfl B8 rfl rfl aN rfl (aC (aD rfl) rfl rfl (aO (aD rfl) rfl rfl (by omega) (by omega) rfl (aH (aX rfl) (.cons rfl (.cons rfl .nil)) (ih its[k] (List.getElem_mem hlt) R x (lists+1) (q+1) hi (by omega) (by omega) (by omega)) Try.func69 rfl rfl (by simp) rfl ?_)))))))
  rintro v50 L50 (⟨M50,a50,p50,rfl,rfl,r50,hd50⟩|⟨rfl,rfl,hd50⟩)
  ·change At _ _ _ [M50,N8,N2,Np,R] _
   have s50:=r50.rsl
   refine aC (aD rfl) rfl rfl (op_extract (aD rfl) rfl rfl rfl (op_extract (aD rfl) rfl rfl rfl (aE (aD rfl) rfl rfl (aE (aD rfl) rfl rfl (aB (aA (s_14 (At.seq fun _ s_15=>At.seq fun _ s_16=>At.region (aC (aD rfl) rfl rfl (op_neq (aD rfl) rfl rfl rfl (aB (aA (s_16 (At.condF rfl (At.skip (aA (s_15 (At.region (aC (aD rfl) rfl rfl (aC (aD rfl) rfl rfl ?_))))))))))))))))))))
   refine bD (nxl rfl) Try.underlying33 Try.underlying33 te5 rfl rfl rp (by assumption) (by first|exact aN|exact aV|exact aZ|exact mem3|exact mem4|exact mem5|exact mem6|exact mem7|exact mem8|exact mem9) (by first|exact one_u8s _|exact one_u64s _|exact one_u32s _|(intro u hu;simp at hu;subst hu;rfl)) (by omega) (by omega) sel3 rfl (fun N58 a58 p58 r58=>?_)
   have s58:=r58.rsl
   refine aE (aD rfl) rfl rfl (aB (aP (aA (s_12 (At.region (aO (aD rfl) rfl rfl (by omega) (by omega) rfl (aC (aD rfl) rfl rfl (aB (aA (At.sub (L':= [N58,N2,R]) (.cons_cons _ (.cons _ (.cons _ (.cons_cons _ (.cons_cons _ (.slnil)))))) (At.perm sel2 (At.perm sel1 (At.perm sel2 ?_)))))))))))))
   refine bB ?_ (.refl _) ⟨k+1,np+(its[k]).form.length,a58,p58,N58,rfl,rfl,rfl,by omega,by rw [hts,List.length_append,hnp],by rw [hts,u8s,List.map_append];exact r58,fun t ht=>by rw [List.take_succ_eq_append_getElem hlt,List.mem_append]at ht;rcases ht with ht|ht;exact hd t ht;rw [List.mem_singleton.1 ht];exact hd50⟩ ?_
   ·exact .cons (by first|exact aK rfl (by omega)|rfl) (.cons (by first|exact aK rfl (by omega)|rfl) (.cons (by first|exact aK rfl (by omega)|rfl) (.cons (by first|exact aK rfl (by omega)|rfl) (.cons (by first|exact aK rfl (by omega)|rfl) (.cons (by first|exact aK rfl (by omega)|rfl) .nil)))))
   ·omega
  change At _ _ _ [N8,N2,Np,R] _
  refine aC (aD rfl) rfl rfl (op_extract (aD rfl) rfl rfl rfl (op_extract (aD rfl) rfl rfl rfl (aE (aD rfl) rfl rfl (aE (aD rfl) rfl rfl (aB (aA (s_14 (At.seq fun _ s_17=>At.seq fun _ s_18=>At.region (aC (aD rfl) rfl rfl (op_neq (aD rfl) rfl rfl rfl (aB (aA (s_18 (At.condT rfl (At.seq fun _ s_19=>At.region (aC (aD rfl) rfl rfl (aE (aD rfl) rfl rfl (aE (aD rfl) rfl rfl (aB ?_)))))))))))))))))))
  refine aA (s_19 (At.ret (bA (At.inRet (bA (bA (At.inRet (bA ((At.sub (L':= [R]) (.cons _ (.cons _ (.cons _ (.cons_cons _ (.slnil))))) (At.retN (L1:= []) rfl (.tmp rfl (.tmp rfl .nil)) rfl (.refl _) (.refl _) (.inr ⟨rfl,rfl,fun h=>hd50 ?_⟩))))))))))))
  have:=depths_le.1 (Nat.le_refl _) _ (List.getElem_mem hlt)
  omega
 refine At.exit (aF (aF (aU (aA (s_8 (At.seq fun _ s_20=>At.region (aC (aD rfl) rfl rfl (aS (aD rfl) se33 rfl rfl (aH (aX rfl) (.cons rfl (.cons rfl .nil)) (head_f 192 np (by omega) (by omega)) Try.func81 rfl rfl (by simp) rfl ?_)))))))))
 rintro v62 L62 ⟨M62,a62,p62,rfl,rfl,r62⟩
 change At _ _ _ [M62,N2,Np,R] _
 refine aC (aD rfl) rfl rfl ?_
 have h9:=rlpHead_le 192 np (by omega)
 refine bD (nxl rfl) Try.underlying33 Try.underlying33 te5 rfl rfl r62 (by assumption) (by first|exact aN|exact aV|exact aZ|exact mem3|exact mem4|exact mem5|exact mem6|exact mem7|exact mem8|exact mem9) (by first|exact one_u8s _|exact one_u64s _|exact one_u32s _|(intro u hu;simp at hu;subst hu;rfl)) (by omega) (by omega) sel0 rfl (fun N64 a64 p64 r64=>?_)
 have s64:=r64.rsl
 refine aE (aD rfl) rfl rfl (aE (aD rfl) rfl rfl (aB (aA (s_20 (At.ret ((At.sub (L':= [N64,R]) (.cons_cons _ (.cons _ (.cons _ (.cons_cons _ (.slnil))))) (At.retN (L1:= [N64]) rfl (.tmp rfl (.tmp rfl .nil)) rfl (.refl _) (.refl _) ?_))))))))
 obtain rfl:k=its.length:=by omega
 rw [List.take_length]at hnp hd r64
 subst hnp
 refine .inl ⟨N64,a64,p64,by rw [hf,List.length_append],rfl,by rw [hf,List.length_append,u8s,List.map_append];exact r64,?_⟩
 rw [hdep]
 by_cases hz:its= []
 ·subst hz;simp [It.depths];omega
 ·have:It.depths its≤1024- lists- 1:=depths_le.2 fun t ht=>by have:=hd t ht;omega
  obtain⟨t,ht⟩:=List.exists_mem_of_ne_nil _ hz
  have:=hd t ht
  omega
theorem encode_f (t:It): ∀(N:Heaplet) (x:IV) (lists:Nat) (q:Int),ItN N t x→q=lists→lists≤1024→t.form.length≤1099511627776→Fn Try.prog 69 #[.agg #[.bool x.l,.slice x.ab x.nb x.cb,.slice x.ai x.ni x.ci],.int .i64 q] [] [N] (EncP t lists):=by
 induction t using It.ind_it with|h l bs its ih=>?_
 intro N x lists q h hq hl hlen
 simp only [ItN]at h
 obtain⟨rfl,h1,xs,h2,h3⟩:=h
 cases hb:x.l with
 |false=>rw [hb]at hlen;exact encode_bs h1 lists q hl hlen
 |true=>rw [hb]at hlen;exact encode_its h2 h3 lists q hq hl hlen ih
theorem Encode_f {N:Heaplet} {t:It} {x:IV} (h:ItN N t x) (hlen:t.form.length≤1099511627776):Fn Try.prog 49 #[.agg #[.bool x.l,.slice x.ab x.nb x.cb,.slice x.ai x.ni x.ci]] [] [N] (EncP t 0):=by
 refine Fn.enter (vs:= [.agg #[.bool x.l,.slice x.ab x.nb x.cb,.slice x.ai x.ni x.ci]]) Try.func49 rfl rfl rfl ?_
 intro E R hR
 have h:=h.le (hR N (by simp))
 change At _ _ E [R] _
 refine At.seq fun _ s_1=>At.region (op_box (aX rfl) rfl rfl rfl (fun N1 b1 B1=>aE (aD rfl) rfl rfl (aE (aD rfl) rfl rfl (aB (aA (s_1 (At.seq fun _ s_2=>At.region (op_loadAggB (ds:= [_,_,_]) (aD rfl) ag84 rfl B1 rfl rfl aN rfl (aH (aX rfl) (.cons rfl (.cons rfl .nil)) (encode_f t R x 0 0 h rfl (by omega) hlen) Try.func69 rfl rfl (by simp) rfl ?_)))))))))
 rintro v5 L5 (⟨M5,a5,p5,rfl,rfl,r5,hd5⟩|⟨rfl,rfl,hd5⟩)
 ·change At _ _ _ [M5,N1,R] _
  refine op_extract (aD rfl) rfl rfl rfl (op_extract (aD rfl) rfl rfl rfl (aE (aD rfl) rfl rfl (aE (aD rfl) rfl rfl (aB (aA (s_2 (At.ret ((At.sub (L':= [M5,R]) (.cons_cons _ (.cons _ (.cons_cons _ (.slnil)))) (At.retN (L1:= [M5]) rfl (.tmp rfl (.tmp rfl .nil)) rfl (.refl _) (.refl _) ?_))))))))))
  exact .inl ⟨M5,a5,p5,rfl,rfl,r5,hd5⟩
 change At _ _ _ [N1,R] _
 refine op_extract (aD rfl) rfl rfl rfl (op_extract (aD rfl) rfl rfl rfl (aE (aD rfl) rfl rfl (aE (aD rfl) rfl rfl (aB (aA (s_2 (At.ret ((At.sub (L':= [R]) (.cons _ (.cons_cons _ (.slnil))) (At.retN (L1:= []) rfl (.tmp rfl (.tmp rfl .nil)) rfl (.refl _) (.refl _) ?_))))))))))
 exact .inr ⟨rfl,rfl,hd5⟩
end Go.Proofs.Ytdpjbefeabokgaa
/- rlp.Decode; quarrylaw05.wakes holds. No condition but that bytes are not longer than a machine holds. -/
namespace Go.Proofs.Ytdpjbefeabokgaa
open Go Go.RowKit
/-- The item that bytes tell, or the error's number. -/
def decodeF (b:List UInt8):Except Nat It:=match decF 1024 b with
 |.error e=>.error e
 |.ok (t,q)=>if q.length=0 then .ok t else .error 2
def DecodeP (r:Except Nat It) (v:Value) (L:List Heaplet):Prop:=
 (∃t M, ∃x:IV,r=.ok t∧v=.tuple #[.agg #[.bool x.l,.slice x.ab x.nb x.cb,.slice x.ai x.ni x.ci],.int .i64 0]∧L= [M]∧ItN M t x)∨
 (∃e:Nat,r=.error e∧v=.tuple #[.agg #[.bool false,.slice none 0 0,.slice none 0 0],.int .i64 (e:Int)]∧L= []∧e≠0)
end Go.Proofs.Ytdpjbefeabokgaa
/- quarrylaw05.wakes holds. No condition. -/
namespace Go.Proofs.Ytdpjbefeabokgaa
open Go Go.RowKit
def wakeT:It:=.mk true [] [.mk true [] [],.mk false [97] []]
theorem Encode_ok {N:Heaplet} {t:It} {x:IV} (h:ItN N t x) (hlen:t.form.length≤1099511627776) (hd:t.depth≤1024):Fn Try.prog 49 #[.agg #[.bool x.l,.slice x.ab x.nb x.cb,.slice x.ai x.ni x.ci]] [] [N] (fun v L=> ∃M a cap,v=.tuple #[.slice a t.form.length cap,.int .i64 0]∧L= [M]∧Row M 5 1 a t.form.length cap (u8s t.form)):=
 (Encode_f h hlen).mono fun v L hp=>by
  rcases hp with ⟨M,a,cap,h1,h2,h3,_⟩|⟨_,_,h3⟩
  ·exact⟨M,a,cap,h1,h2,h3⟩
  ·exact absurd (by omega) h3
end Go.Proofs.Ytdpjbefeabokgaa
/- quarryref05's head, Depth, form, Encode: the document's forms of items. No condition but that the form is not longer than a machine holds. -/
namespace Go.Proofs.Ytdpjbefeabokgaa
open Go Go.RowKit
set_option maxRecDepth 100000
theorem rhead_f (b n:Nat) (hb:b≤192) (hn:n≤1099511627776):
 Fn Try.prog 73 #[.int .i64 (b:Int),.int .i64 (n:Int)] [] [] (fun v L=> ∃M a cap,v=.slice a (rlpHead b n).length cap∧L= [M]∧Row M 5 1 a (rlpHead b n).length cap (u8s (rlpHead b n))):=by
 have h8:=bytesOf_le (n:=n) (k:=8) (by omega)
 have hn64:(UInt64.ofNat n).toNat=n:=by rw [UInt64.toNat_ofNat'];exact Nat.mod_eq_of_lt (by omega)
 refine Fn.enter (vs:= [.int .i64 (b:Int),.int .i64 (n:Int)]) Try.func73 rfl rfl rfl ?_
 intro E R hR
 change At _ _ E [R] _
 refine At.seq fun _ s_1=>At.region (aE (aD rfl) rfl rfl (aB (aA (s_1 (At.seq fun _ s_2=>At.seq fun _ s_3=>At.region (aC (aD rfl) rfl rfl (op_leq (aD rfl) rfl rfl rfl (aB (aA (s_3 (aL rfl (fun c7=>?_) (fun c7=>?_))))))))))))
 ·refine At.seq fun _ s_4=>At.region (aC (aD rfl) rfl rfl (aC (aD rfl) rfl rfl (aO (aD rfl) rfl rfl (by omega) (by omega) rfl (op_conv8 (aD rfl) (und_some Try.underlying3) Try.underlying5 rfl (show _=(((b+n:Nat)):Int)from by omega) rfl ?_))))
  refine op_lit (aX rfl) Try.underlying33 ze5 sz5 (.cons rfl .nil) rfl rfl (by simp [Value.cells]) rfl rfl rfl (fun N12 a12 r12=>?_)
  simp only [flatV,List.flatMap_cons,List.flatMap_nil,Value.cells,List.append_nil,List.cons_append,List.nil_append]at r12
  have s12:=r12.rsl
  refine aE (aD rfl) rfl rfl (aB (aA (s_4 (At.ret (bA ((aQ (L1:= [N12]) rfl (.tmp rfl .nil) (.refl _) (.refl _) ?_)))))))
  have e:rlpHead b n= [UInt8.ofNat (b+n)]:=by rw [rlpHead,if_pos (by omega)]
  rw [e]
  exact⟨N12,a12,1,rfl,rfl,r12⟩
 refine At.skip (aA (s_2 (At.seq fun _ s_5=>At.region (aC (aD rfl) rfl rfl (op_conv64 (aD rfl) (und_some Try.underlying3) Try.underlying78 rfl (show _=(((n:Nat)):Int)from by omega) rfl ?_)))))
 refine aH (aX rfl) (.cons rfl .nil) (Of32_f (UInt64.ofNat n)) Try.func83 rfl rfl (by simp) rfl ?_
 rintro v15 L15 ⟨M15,a15,p15,rfl,rfl,s15⟩
 change At _ _ _ [M15,R] _
 have hl15:=s15.len32
 have hdl:(digsOf (UInt64.ofNat n).toNat).length≤2:=by rw [length_digsOf];exact digLen_le.2 (UInt64.toNat_lt _)
 refine aH (aX rfl) (.cons rfl .nil) (Bytes32_f s15 (by omega)) Try.func82 rfl rfl (by simp) rfl ?_
 rintro v16 L16 ⟨M16,a16,p16,rfl,rfl,r16⟩
 change At _ _ _ [M16,M15,R] _
 rw [v32_digsOf,hn64]at r16⊢
 have s16:=r16.rsl
 refine aE (aD rfl) rfl rfl (aB (aA (s_5 (At.seq fun _ s_6=>At.region (aC (aD rfl) rfl rfl (aO (aD rfl) rfl rfl (by omega) (by omega) rfl (aC (aD rfl) rfl rfl (aS (aD rfl) se33 rfl rfl (aO (aD rfl) rfl rfl (by omega) (by omega) rfl (op_conv8 (aD rfl) (und_some Try.underlying3) Try.underlying5 rfl (show _=(((b+55+(bytesOf n).length:Nat)):Int)from by omega) rfl ?_))))))))))
 refine op_lit (aX rfl) Try.underlying33 ze5 sz5 (.cons rfl .nil) rfl rfl (by simp [Value.cells]) rfl rfl rfl (fun N23 a23 r23=>?_)
 simp only [flatV,List.flatMap_cons,List.flatMap_nil,Value.cells,List.append_nil,List.cons_append,List.nil_append]at r23
 have s23:=r23.rsl
 refine aC (aD rfl) rfl rfl ?_
 refine bD (nxl rfl) Try.underlying33 Try.underlying33 te5 rfl rfl r23 (by assumption) (by first|exact aN|exact aV|exact aZ|exact mem3|exact mem4|exact mem5|exact mem6|exact mem7|exact mem8|exact mem9) (by first|exact one_u8s _|exact one_u64s _|exact one_u32s _|(intro u hu;simp at hu;subst hu;rfl)) (by omega) (by omega) sel0 rfl (fun N25 a25 p25 r25=>?_)
 have s25:=r25.rsl
 refine aE (aD rfl) rfl rfl (aB (aA (s_6 (At.ret ((At.sub (L':= [N25,R]) (.cons_cons _ (.cons _ (.cons _ (.cons_cons _ (.slnil))))) (aQ (L1:= [N25]) rfl (.tmp rfl .nil) (.refl _) (.refl _) ?_)))))))
 have e:rlpHead b n=UInt8.ofNat (b+55+(bytesOf n).length)::bytesOf n:=by rw [rlpHead,if_neg (by omega)]
 rw [e,List.length_cons,Nat.add_comm (bytesOf n).length 1]
 exact⟨N25,a25,p25,rfl,rfl,r25⟩
theorem form_f (t:It): ∀(N:Heaplet) (x:IV),ItN N t x→t.form.length≤1099511627776→Fn Try.prog 58 #[.agg #[.bool x.l,.slice x.ab x.nb x.cb,.slice x.ai x.ni x.ci]] [] [N] (fun v L=> ∃M a cap,v=.slice a t.form.length cap∧L= [M]∧Row M 5 1 a t.form.length cap (u8s t.form)):=by
 induction t using It.ind_it with|h l bs its ih=>?_
 intro N x h hlen
 simp only [ItN]at h
 obtain⟨rfl,h1,xs,hI,hX⟩:=h
 have hn:xs.length=x.ni:=by have:=hI.1;rw [length_cellsI]at this;omega
 have hn2:=hX.length
 have hcap:=hI.cap63
 cases hb:x.l with
 |false=>
  rw [hb]at hlen
  have hnb:=h1.len8
  have hcb:=h1.cap63
  have hf:=form_false bs its
  have hsm:= @small_iffI bs
  have hub:small bs≠true→(rlpHead 128 x.nb).length+x.nb≤1099511627776:=fun e=>by rw [hf,if_neg e,List.length_append,hnb]at hlen;exact hlen
  refine Fn.enter (vs:= [.agg #[.bool false,.slice x.ab x.nb x.cb,.slice x.ai x.ni x.ci]]) Try.func58 rfl rfl rfl ?_
  intro E R hR
  have h1:=h1.le (hR N (by simp))
  change At _ _ E [R] _
  refine At.seq fun _ s_1=>At.region (op_box (aX rfl) rfl rfl rfl (fun N1 b1 B1=>aE (aD rfl) rfl rfl (aB (aA (s_1 (At.seq fun _ s_2=>At.seq fun _ s_3=>At.region (aG (aD rfl) fl84_0 rfl rfl (aJ (aD rfl) sc4 rfl B1 (by first|rfl) aN rfl ?_))))))))
  refine op_not (aD rfl) rfl rfl (aB (aA (s_3 (At.condT rfl (At.seq fun _ s_4=>At.seq fun _ s_5=>At.region (aG (aD rfl) fl84_1 rfl rfl (aJ (aD rfl) sc33 rfl B1 (by first|rfl) aN rfl ?_)))))))
  refine aS (aD rfl) se33 rfl rfl (op_eql (aD rfl) rfl rfl rfl (aC (aD rfl) rfl rfl (At.partP (d:=12) rfl (fun g12=>?_) (fun g12=>?_))))
  ·refine aG (nxgf rfl rfl rfl rfl) fl84_1 rfl rfl (aJ (nxgf rfl rfl rfl rfl) sc33 rfl B1 (by first|rfl) aN rfl ?_)
   refine op_idx1 (nxgf rfl rfl rfl rfl) se33 rfl rfl (by assumption) (show _=(((0:Nat)):Int)from by omega) (by omega) rfl ?_
   refine aR (nxgf rfl rfl rfl rfl) sc5 rfl (by assumption) (by first|exact get8 (by omega)|exact get64 (by omega)|exact get32 (by omega)) (by first|exact aN|exact aV|exact aZ|exact mem3|exact mem4|exact mem5|exact mem6|exact mem7|exact mem8|exact mem9) rfl ?_
   refine op_lss (nxgf rfl rfl rfl rfl) rfl rfl rfl (op_pickT (aD rfl) rfl rfl rfl (aB (aA (s_5 (aL rfl (fun c18=>?_) (fun c18=>?_))))))
   ·refine At.seq fun _ s_6=>At.region (op_lit (aX rfl) Try.underlying33 ze5 sz5 .nil rfl rfl (by simp [Value.cells]) rfl rfl rfl (fun N19 a19 r19=>?_))
    simp only [flatV,List.flatMap_cons,List.flatMap_nil,Value.cells,List.append_nil,List.cons_append,List.nil_append]at r19
    have s19:=r19.rsl
    refine aG (aD rfl) fl84_1 rfl rfl (aJ (aD rfl) sc33 rfl B1 (by first|rfl) aV rfl ?_)
    refine bD (nxl rfl) Try.underlying33 Try.underlying33 te5 rfl rfl r19 (by assumption) (by first|exact aN|exact aV|exact aZ|exact mem3|exact mem4|exact mem5|exact mem6|exact mem7|exact mem8|exact mem9) (by first|exact one_u8s _|exact one_u64s _|exact one_u32s _|(intro u hu;simp at hu;subst hu;rfl)) (by omega) (by omega) sel0 rfl (fun N22 a22 p22 r22=>?_)
    have s22:=r22.rsl
    refine aE (aD rfl) rfl rfl (aB (aA (s_6 (At.ret (bA (bA ((At.sub (L':= [N22,R]) (.cons_cons _ (.cons _ (.cons_cons _ (.slnil)))) (aQ (L1:= [N22]) rfl (.tmp rfl .nil) (.refl _) (.refl _) ?_)))))))))
    have e:(It.mk false bs its).form=bs:=by rw [hf,if_pos (hsm.2 ⟨by omega,by omega⟩)]
    rw [List.nil_append,Nat.zero_add]at r22
    exact⟨N22,a22,p22,by rw [e,hnb,Nat.zero_add],rfl,by rw [e,hnb];exact r22⟩
   refine At.skip (aA (s_4 (At.seq fun _ s_7=>At.drawn [6] [0,1,2,4,5,3,6,7] (by kernel_rfl) (by kernel_rfl) (aG (aI rfl rfl rfl (by kernel_rfl)) fl84_1 rfl rfl (aJ (aI rfl rfl rfl (by kernel_rfl)) sc33 rfl B1 (by first|rfl) aN rfl ?_)))))
   refine aS (aI rfl rfl rfl (by kernel_rfl)) se33 rfl rfl (aG (aI rfl rfl rfl (by kernel_rfl)) fl84_1 rfl rfl (aJ (aI rfl rfl rfl (by kernel_rfl)) sc33 rfl B1 (by first|rfl) aN rfl ?_))
   have hub':=hub (fun e=>by have:=hsm.1 e;omega)
   refine aH (nxoa rfl rfl rfl) (.cons rfl (.cons rfl .nil)) (rhead_f 128 x.nb (by omega) (by omega)) Try.func73 rfl rfl (by simp) rfl ?_
   rintro v26 L26 ⟨M26,a26,p26,rfl,rfl,r26⟩
   change At _ _ _ [M26,N1,R] _
   refine bD (nxos rfl rfl rfl rfl) Try.underlying33 Try.underlying33 te5 rfl rfl r26 (by assumption) (by first|exact aN|exact aV|exact aZ|exact mem3|exact mem4|exact mem5|exact mem6|exact mem7|exact mem8|exact mem9) (by first|exact one_u8s _|exact one_u64s _|exact one_u32s _|(intro u hu;simp at hu;subst hu;rfl)) (by omega) (by omega) sel0 rfl (fun N29 a29 p29 r29=>?_)
   have s29:=r29.rsl
   refine aE (aI rfl rfl rfl (by kernel_rfl)) rfl rfl (At.oneNil (aA (s_7 (At.ret (bA ((At.sub (L':= [N29,R]) (.cons_cons _ (.cons _ (.cons_cons _ (.slnil)))) (aQ (L1:= [N29]) rfl (.tmp rfl .nil) (.refl _) (.refl _) ?_))))))))
   have e:(It.mk false bs its).form=rlpHead 128 x.nb++bs:=by rw [hf,if_neg (fun e=>by have:=hsm.1 e;omega),hnb]
   exact⟨N29,a29,p29,by rw [e,List.length_append,hnb],rfl,by rw [e,List.length_append,hnb,u8s,List.map_append];exact r29⟩
  refine aY rfl rfl rfl rfl rfl rfl rfl (aY rfl rfl rfl rfl rfl rfl rfl (aY rfl rfl rfl rfl rfl rfl rfl (aY rfl rfl rfl rfl rfl rfl rfl (aY rfl rfl rfl rfl rfl rfl rfl (op_pickF (aD rfl) rfl rfl rfl (aB (aA (s_5 (At.condF rfl (At.skip (aA (s_4 (At.seq fun _ s_8=>At.drawn [6] [0,1,2,4,5,3,6,7] (by kernel_rfl) (by kernel_rfl) (aG (aI rfl rfl rfl (by kernel_rfl)) fl84_1 rfl rfl (aJ (aI rfl rfl rfl (by kernel_rfl)) sc33 rfl B1 (by first|rfl) aN rfl ?_)))))))))))))))
  refine aS (aI rfl rfl rfl (by kernel_rfl)) se33 rfl rfl (aG (aI rfl rfl rfl (by kernel_rfl)) fl84_1 rfl rfl (aJ (aI rfl rfl rfl (by kernel_rfl)) sc33 rfl B1 (by first|rfl) aN rfl ?_))
  have hub':=hub (fun e=>by have:=hsm.1 e;omega)
  refine aH (nxoa rfl rfl rfl) (.cons rfl (.cons rfl .nil)) (rhead_f 128 x.nb (by omega) (by omega)) Try.func73 rfl rfl (by simp) rfl ?_
  rintro v26 L26 ⟨M26,a26,p26,rfl,rfl,r26⟩
  change At _ _ _ [M26,N1,R] _
  refine bD (nxos rfl rfl rfl rfl) Try.underlying33 Try.underlying33 te5 rfl rfl r26 (by assumption) (by first|exact aN|exact aV|exact aZ|exact mem3|exact mem4|exact mem5|exact mem6|exact mem7|exact mem8|exact mem9) (by first|exact one_u8s _|exact one_u64s _|exact one_u32s _|(intro u hu;simp at hu;subst hu;rfl)) (by omega) (by omega) sel0 rfl (fun N29 a29 p29 r29=>?_)
  have s29:=r29.rsl
  refine aE (aI rfl rfl rfl (by kernel_rfl)) rfl rfl (At.oneNil (aA (s_8 (At.ret (bA ((At.sub (L':= [N29,R]) (.cons_cons _ (.cons _ (.cons_cons _ (.slnil)))) (aQ (L1:= [N29]) rfl (.tmp rfl .nil) (.refl _) (.refl _) ?_))))))))
  have e:(It.mk false bs its).form=rlpHead 128 x.nb++bs:=by rw [hf,if_neg (fun e=>by have:=hsm.1 e;omega),hnb]
  exact⟨N29,a29,p29,by rw [e,List.length_append,hnb],rfl,by rw [e,List.length_append,hnb,u8s,List.map_append];exact r29⟩
 |true=>
  rw [hb]at hlen
  have hf:=form_true bs its
  have hlf:(rlpHead 192 (It.forms its).length).length+(It.forms its).length≤1099511627776:=by rw [hf,List.length_append]at hlen;exact hlen
  refine Fn.enter (vs:= [.agg #[.bool true,.slice x.ab x.nb x.cb,.slice x.ai x.ni x.ci]]) Try.func58 rfl rfl rfl ?_
  intro E R hR
  have hI:=hI.le (hR N (by simp))
  have hX:=hX.le (hR N (by simp))
  change At _ _ E [R] _
  refine At.seq fun _ s_1=>At.region (op_box (aX rfl) rfl rfl rfl (fun N1 b1 B1=>aE (aD rfl) rfl rfl (aB (aA (s_1 (At.seq fun _ s_2=>At.seq fun _ s_3=>At.region (aG (aD rfl) fl84_0 rfl rfl (aJ (aD rfl) sc4 rfl B1 (by first|rfl) aN rfl ?_))))))))
  refine op_not (aD rfl) rfl rfl (aB (aA (s_3 (At.condF rfl (At.skip (aA (s_2 (At.seq fun _ s_4=>At.region (aE (aD rfl) rfl rfl (aB (aA (s_4 (At.seq fun _ s_5=>At.seq fun _ s_6=>At.region (aE (aD rfl) rfl rfl (aB (aA (s_6 (At.block (At.empty (At.perm sel2 (At.perm sel1 ?_)))))))))))))))))))))
  refine At.perm sel2 (At.loop (fun fr_ hp_ ms_=> ∃(k np:Nat) (ap:Option Addr) (cp:Nat) (Np:Heaplet),fr_= [(1,.pointer (some ⟨b1,0,none⟩)),(3,.slice ap np cp),(4,.int .i64 (k:Int))]∧hp_= [N1,Np,R]∧x.ni- k=ms_∧(k≤x.ni)∧(np=(It.forms (its.take k)).length)∧(Row Np 5 1 ap np cp (u8s (It.forms (its.take k))))) ?_ (.refl _) ⟨0,0,none,0,nilH,rfl,rfl,rfl,by omega,by simp [It.forms],by simpa [It.forms,u8s]using Row.nil nilH 5 1⟩ ?_)
  ·exact .cons (by first|exact aK rfl (by omega)|rfl) (.cons (by first|exact aK rfl (by omega)|rfl) (.cons (by first|exact aK rfl (by omega)|rfl) .nil))
  rintro _ _ _ ⟨k,np,ap,cp,Np,rfl,rfl,rfl,hk,hnp,rp⟩
  have sp:=rp.rsl
  have hle:=forms_take_le its k
  refine At.seq fun _ s_7=>At.seq fun _ s_8=>At.region (aC (aD rfl) rfl rfl (aG (aD rfl) fl84_2 rfl rfl (aJ (aD rfl) sc82 rfl B1 (by first|rfl) aN rfl ?_)))
  refine aS (aD rfl) se82 rfl rfl (op_lss (aD rfl) rfl rfl rfl (aB (aA (s_8 (aL rfl (fun c34=>?_) (fun c34=>?_))))))
  ·have hlt:k<its.length:=by omega
   obtain⟨y,hy,hi⟩:=hX.get (List.getElem?_eq_getElem hlt)
   have hts:=forms_take_succ (List.getElem?_eq_getElem hlt)
   have hfe:=form_le (List.getElem_mem hlt)
   have hle2:=forms_take_le its (k+1)
   have hsum:np+(its[k]).form.length≤(It.forms its).length:=by rw [hts,List.length_append]at hle2;omega
   refine At.skip (aA (s_7 (At.seq fun _ s_9=>At.block (At.region (aC (aD rfl) rfl rfl (aG (aD rfl) fl84_2 rfl rfl (aJ (aD rfl) sc82 rfl B1 (by first|rfl) aN rfl ?_)))))))
   refine aC (aD rfl) rfl rfl (op_idxE (aD rfl) se82 rfl rfl (by assumption) (show _=(((k:Nat)):Int)from by omega) (by omega) rfl ?_)
   refine op_loadAggE (aD rfl) ag84 rfl (by assumption) (by exact cells_at hy) (by rfl) (by omega) (by first|exact aN|exact aV|exact aZ|exact mem3|exact mem4|exact mem5|exact mem6|exact mem7|exact mem8|exact mem9) rfl ?_
   refine aH (aX rfl) (.cons rfl .nil) (ih its[k] (List.getElem_mem hlt) R y hi (by omega)) Try.func58 rfl rfl (by simp) rfl ?_
   rintro v43 L43 ⟨M43,a43,p43,rfl,rfl,r43⟩
   change At _ _ _ [M43,N1,Np,R] _
   have s43:=r43.rsl
   refine bD (nxl rfl) Try.underlying33 Try.underlying33 te5 rfl rfl rp (by assumption) (by first|exact aN|exact aV|exact aZ|exact mem3|exact mem4|exact mem5|exact mem6|exact mem7|exact mem8|exact mem9) (by first|exact one_u8s _|exact one_u64s _|exact one_u32s _|(intro u hu;simp at hu;subst hu;rfl)) (by omega) (by omega) sel2 rfl (fun N44 a44 p44 r44=>?_)
   have s44:=r44.rsl
   refine aE (aD rfl) rfl rfl (aB (aP (aA (s_9 (At.region (aC (aD rfl) rfl rfl (aO (aD rfl) rfl rfl (by omega) (by omega) rfl (aE (aD rfl) rfl rfl (aB (aA (At.sub (L':= [N44,N1,R]) (.cons_cons _ (.cons _ (.cons_cons _ (.cons_cons _ (.slnil))))) (At.perm sel2 (At.perm sel1 (At.perm sel2 ?_))))))))))))))
   refine bB ?_ (.refl _) ⟨k+1,np+(its[k]).form.length,a44,p44,N44,rfl,rfl,rfl,by omega,by rw [hts,List.length_append,hnp],by rw [hts,u8s,List.map_append];exact r44⟩ ?_
   ·exact .cons (by first|exact aK rfl (by omega)|rfl) (.cons (by first|exact aK rfl (by omega)|rfl) (.cons (by first|exact aK rfl (by omega)|rfl) .nil))
   ·omega
  refine At.exit (aF (aF (aU (aA (s_5 (At.seq fun _ s_10=>At.region (aC (aD rfl) rfl rfl (aS (aD rfl) se33 rfl rfl (aH (aX rfl) (.cons rfl (.cons rfl .nil)) (rhead_f 192 np (by omega) (by omega)) Try.func73 rfl rfl (by simp) rfl ?_)))))))))
  rintro v47 L47 ⟨M47,a47,p47,rfl,rfl,r47⟩
  change At _ _ _ [M47,N1,Np,R] _
  refine aC (aD rfl) rfl rfl ?_
  have h9:=rlpHead_le 192 np (by omega)
  refine bD (nxl rfl) Try.underlying33 Try.underlying33 te5 rfl rfl r47 (by assumption) (by first|exact aN|exact aV|exact aZ|exact mem3|exact mem4|exact mem5|exact mem6|exact mem7|exact mem8|exact mem9) (by first|exact one_u8s _|exact one_u64s _|exact one_u32s _|(intro u hu;simp at hu;subst hu;rfl)) (by omega) (by omega) sel0 rfl (fun N49 a49 p49 r49=>?_)
  have s49:=r49.rsl
  refine aE (aD rfl) rfl rfl (aB (aA (s_10 (At.ret ((At.sub (L':= [N49,R]) (.cons_cons _ (.cons _ (.cons _ (.cons_cons _ (.slnil))))) (aQ (L1:= [N49]) rfl (.tmp rfl .nil) (.refl _) (.refl _) ?_)))))))
  obtain rfl:k=its.length:=by omega
  rw [List.take_length]at hnp r49
  subst hnp
  exact⟨N49,a49,p49,by rw [hf,List.length_append],rfl,by rw [hf,List.length_append,u8s,List.map_append];exact r49⟩
end Go.Proofs.Ytdpjbefeabokgaa
/- quarrykeep.Twin, and quarrylaw05's nested, Twin, cut. No condition. -/
namespace Go.Proofs.Ytdpjbefeabokgaa
open Go Go.RowKit
theorem KTwin_f {N:Heaplet} {ao:Option Addr} {n cap:Nat} {l:List UInt8} (h:RSl N 1 ao n cap (u8s l)) (m:Nat) (q:Int) (hq:q=(m:Int)) (hm:m≤140737488351232):
 Fn Try.prog 18 #[.slice ao n cap,.int .i64 q] [] [N] (fun v L=> ∃M a c,v=.slice a (l.take m).length c∧L= [M]∧Row M 5 1 a (l.take m).length c (u8s (l.take m))):=by
 have hlen:=h.len8
 have hcap:=h.cap63
 refine Fn.enter (vs:= [.slice ao n cap,.int .i64 q]) Try.func18 rfl rfl rfl ?_
 intro E R hR
 have h:=h.le (hR N (by simp))
 change At _ _ E [R] _
 refine At.seq fun _ s_1=>At.region (aE (aD rfl) rfl rfl (aB (aA (s_1 (At.seq fun _ s_2=>At.seq fun _ s_3=>At.region (aC (aD rfl) rfl rfl (aS (aD rfl) se33 rfl rfl (aC (aD rfl) rfl rfl (op_gtr (aD rfl) rfl rfl rfl (aB (aA (s_3 (aL rfl (fun c8=>?_) (fun c8=>?_))))))))))))))
 ·refine At.region (aC (aD rfl) rfl rfl (aC (aD rfl) rfl rfl (op_slice0 (aD rfl) se33 rfl (.some rfl (show _=(((m:Nat)):Int)from by omega)) .none (by omega) (by omega) (by simp) rfl ?_)))
  have s11:=h.take8 (hi:=m) (m:=cap) (by omega) (by omega) (by omega)
  refine aE (aD rfl) rfl rfl (aB (aA (s_2 (At.seq fun _ s_4=>At.region (op_lit (aX rfl) Try.underlying33 ze5 sz5 .nil rfl rfl (by simp [Value.cells]) rfl rfl rfl (fun N12 a12 r12=>?_))))))
  simp only [flatV,List.flatMap_cons,List.flatMap_nil,Value.cells,List.append_nil,List.cons_append,List.nil_append]at r12
  have s12:=r12.rsl
  refine aC (aD rfl) rfl rfl ?_
  refine bD (nxl rfl) Try.underlying33 Try.underlying33 te5 rfl rfl r12 (by assumption) (by first|exact aN|exact aV|exact aZ|exact mem3|exact mem4|exact mem5|exact mem6|exact mem7|exact mem8|exact mem9) (by first|exact one_u8s _|exact one_u64s _|exact one_u32s _|(intro u hu;simp at hu;subst hu;rfl)) (by omega) (by omega) sel0 rfl (fun N14 a14 p14 r14=>?_)
  have s14:=r14.rsl
  refine aE (aD rfl) rfl rfl (aB (aA (s_4 (At.ret ((aQ (L1:= [N14]) rfl (.tmp rfl .nil) (.refl _) (.refl _) ?_))))))
  rw [List.nil_append,Nat.zero_add]at r14
  exact⟨N14,a14,p14,by rw [List.length_take,hlen,Nat.min_eq_left (by omega),Nat.zero_add],rfl,by rw [List.length_take,hlen,Nat.min_eq_left (by omega)];exact r14⟩
 refine At.skip (aA (s_2 (At.seq fun _ s_5=>At.region (op_lit (aX rfl) Try.underlying33 ze5 sz5 .nil rfl rfl (by simp [Value.cells]) rfl rfl rfl (fun N12 a12 r12=>?_)))))
 simp only [flatV,List.flatMap_cons,List.flatMap_nil,Value.cells,List.append_nil,List.cons_append,List.nil_append]at r12
 have s12:=r12.rsl
 refine aC (aD rfl) rfl rfl ?_
 refine bD (nxl rfl) Try.underlying33 Try.underlying33 te5 rfl rfl r12 (by assumption) (by first|exact aN|exact aV|exact aZ|exact mem3|exact mem4|exact mem5|exact mem6|exact mem7|exact mem8|exact mem9) (by first|exact one_u8s _|exact one_u64s _|exact one_u32s _|(intro u hu;simp at hu;subst hu;rfl)) (by omega) (by omega) sel0 rfl (fun N14 a14 p14 r14=>?_)
 have s14:=r14.rsl
 refine aE (aD rfl) rfl rfl (aB (aA (s_5 (At.ret ((aQ (L1:= [N14]) rfl (.tmp rfl .nil) (.refl _) (.refl _) ?_))))))
 rw [List.nil_append,Nat.zero_add]at r14
 have e:l.take m=l:=List.take_of_length_le (by omega)
 exact⟨N14,a14,p14,by rw [e,hlen,Nat.zero_add],rfl,by rw [e,hlen];exact r14⟩
/-- So many lists around an item. -/
def nestN:Nat→It→It
 |0,t=>t
 |k+1,t=>.mk true [] [nestN k t]
end Go.Proofs.Ytdpjbefeabokgaa
/- quarrylaw05.RlpEnvelope answers true. No condition. -/
namespace Go.Proofs.Ytdpjbefeabokgaa
open Go Go.RowKit
/-- Kind and body. -/
def envF (b:List UInt8):Option (Nat×List UInt8):=
 if b.length=0∨(128≤(b.getD 0 0).toNat∧(b.getD 0 0).toNat<192)then none
 else if 192≤(b.getD 0 0).toNat then some (0,b)
 else some ((b.getD 0 0).toNat,b.drop 1)
/-- What is told of it. -/
def EnvP (N:Heaplet) (r:Option (Nat×List UInt8)) (v:Value):Prop:=
 (r=none∧v=.tuple #[.int .i64 0,.slice none 0 0,.int .i64 2])∨
 (∃k p a c,r=some (k,p)∧v=.tuple #[.int .i64 (k:Int),.slice a p.length c,.int .i64 0]∧RSl N 1 a p.length c (u8s p))
theorem EnvP.mk {N:Heaplet} {r:Option (Nat×List UInt8)} {k n c:Nat} {q:Int} {a:Option Addr} {p:List UInt8} (hr:r=some (k,p)) (hq:q=(k:Int)) (h:RSl N 1 a n c (u8s p)):EnvP N r (.tuple #[.int .i64 q,.slice a n c,.int .i64 0]):=by
 have e:=h.len8
 subst e;subst hq
 exact .inr ⟨k,p,a,c,hr,rfl,h⟩
end Go.Proofs.Ytdpjbefeabokgaa
/- quarrylaw05.Same, the reference's Decode; quarrylaw05.RlpDecode answers true. No condition but that bytes are not longer than a machine holds. -/
namespace Go.Proofs.Ytdpjbefeabokgaa
open Go Go.RowKit
mutual
/-- The same item? -/
def It.same:It→It→Bool
 |.mk l bs its,.mk l' bs' its'=>decide (l=l')&&(decide (bs=bs')&&It.sames its its')
def It.sames:List It→List It→Bool
 | [],[]=>true
 |t::ts,u::us=>It.same t u&&It.sames ts us
 |_,_=>false
end
mutual
theorem It.same_self: ∀t:It,It.same t t=true
 |.mk l bs its=>by simp [It.same,It.sames_self its]
theorem It.sames_self: ∀ts:List It,It.sames ts ts=true
 | []=>by simp [It.sames]
 |t::ts=>by simp [It.sames,It.same_self t,It.sames_self ts]
end
end Go.Proofs.Ytdpjbefeabokgaa
/- Numbers: rlp.Number, rlp.Of and the reference's. No condition. -/
namespace Go.Proofs.Ytdpjbefeabokgaa
open Go Go.RowKit
/-- The error's number. -/
def numE (b:List UInt8):Nat:=if 0<b.length∧(b.getD 0 0).toNat=0 then 2 else if 32<b.length then 3 else 0
/-- The number. -/
def numV (b:List UInt8):Nat:=if numE b=0 then be b else 0
def NumP (b:List UInt8) (v:Value) (L:List Heaplet):Prop:=
 ∃wa wb wc wd:UInt64,v=.tuple #[.agg #[.int .u64 (wa.toNat:Int),.int .u64 (wb.toNat:Int),.int .u64 (wc.toNat:Int),.int .u64 (wd.toNat:Int)],.int .i64 (numE b:Int)]∧L= []∧v64 [wa,wb,wc,wd]=numV b
theorem NumP.good {b:List UInt8} {wa wb wc wd:UInt64} (h:numE b=0) (hv:v64 [wa,wb,wc,wd]=be b):NumP b (.tuple #[.agg #[.int .u64 (wa.toNat:Int),.int .u64 (wb.toNat:Int),.int .u64 (wc.toNat:Int),.int .u64 (wd.toNat:Int)],.int .i64 0]) []:=
 ⟨wa,wb,wc,wd,by rw [h];rfl,rfl,by rw [numV,if_pos h,hv]⟩
def OfP (a b c d:UInt64) (v:Value) (L:List Heaplet):Prop:=
 ∃M p k,v=.agg #[.bool false,.slice p (bytesOf (v64 [a,b,c,d])).length k,.slice none 0 0]∧L= [M]∧Row M 5 1 p (bytesOf (v64 [a,b,c,d])).length k (u8s (bytesOf (v64 [a,b,c,d])))
end Go.Proofs.Ytdpjbefeabokgaa
/- Layer 14: check, must, the closure that recovers, ReadTx of no bytes. No condition. -/
namespace Go.Proofs.Ytdpjbefeabokgaa
open Go Go.RowKit
set_option maxRecDepth 100000
section
variable {bt be : Nat} {Nt Ne : Heaplet} {cs : List Value} {x : Value} {e : Int}
end
end Go.Proofs.Ytdpjbefeabokgaa
/- Plain laws: sums, differences and products of limbs, as package math/bits reckons them. No condition. -/
namespace Go.Proofs.Ytdpjbefeabokgaa
open Go Go.RowKit
/-- The sum and what is carried. -/
def addS (x y c:UInt64):UInt64:=UInt64.ofNat ((x.toNat+y.toNat+c.toNat) % 2^64)
def addC (x y c:UInt64):UInt64:=UInt64.ofNat ((x.toNat+y.toNat+c.toNat)/2^64)
/-- The difference and what is borrowed. -/
def subS (x y c:UInt64):UInt64:=UInt64.ofNat ((x.toNat+2^64- y.toNat- c.toNat) % 2^64)
def subC (x y c:UInt64):UInt64:=if x.toNat<y.toNat+c.toNat then 1 else 0
/-- The product's upper half. -/
def mulH (x y:UInt64):UInt64:=UInt64.ofNat (x.toNat*y.toNat/2^64)
end Go.Proofs.Ytdpjbefeabokgaa
