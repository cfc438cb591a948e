/- Several texts in one: see the remarks ahead of each part. No condition but those told there. -/
import Derived.Test.YtjfagifjajielaaGreatX1
import Derived.Test.YtjfagifjajielaaGreatX5
import Derived.Test.YtjfagifjajielaaGreatX4
set_option linter.unusedSimpArgs false
set_option linter.unusedVariables false
namespace Go.Proofs.YtjfagifjajielaaGreat
open Go Go.RowKit
theorem get64A {bs:List UInt64} {j:Nat} (h:j<bs.length):(u64s bs)[0+j*1]? =some (.int .u64 ((bs.getD j 0).toNat:Int)):=by rw [Nat.zero_add,Nat.mul_one];exact get64 h
theorem get8A {bs:List UInt8} {j:Nat} (h:j<bs.length):(u8s bs)[0+j*1]? =some (.int .u8 ((bs.getD j 0).toNat:Int)):=by rw [Nat.zero_add,Nat.mul_one];exact get8 h
theorem set64A (l:List UInt64) (j:Nat) (x:UInt64):setL (u64s l) (0+j*1) [.int .u64 (x.toNat:Int)]=u64s (l.set j x):=by rw [Nat.zero_add,Nat.mul_one,setL,setL,set_u64s]
theorem set8A (l:List UInt8) (j:Nat) (x:UInt8):setL (u8s l) (0+j*1) [.int .u8 (x.toNat:Int)]=u8s (l.set j x):=by rw [Nat.zero_add,Nat.mul_one,setL,setL,set_u8s]
theorem four {α:Type} {l:List α} (h:l.length=4): ∃a b c d,l= [a,b,c,d]:=by
 match l,h with
 | [a,b,c,d],_=>exact⟨a,b,c,d,rfl⟩
def wv (l:List UInt64):Value:=.agg (u64s l).toArray
theorem eq_words4 {l m:List UInt64} (hl:l.length=4) (hm:m.length=4) (h:v64 l=v64 m):l=m:=v64_inj (by omega) h
section
variable {P : Program} {n : Nat} {l : List (Nat × Value)} {E : World} {L Ls : List Heaplet} {X Y : Act → World → Prop} {d : Nat} {t ty e : TypeId} {x y : Operand}
theorem op_buildA {alen size:Nat} {parts:List (Nat×Operand)} {vs:List (Nat×Value)} {zs out:List Value} {pos:_} {aft:_} {g:_} (s:NxF P n l E L Ls ⟨some d,.build t parts.toArray,ty,pos,aft,g⟩ X Y) (hz:zer P t=some (.agg zs.toArray)) (hp:aelt P t=some (alen,e,size)) (hv:Pts l parts vs) (ho:fillL ((List.range alen).map fun i=>(i*size,size)) zs vs=some out) (hn:Nat.ble (d+1) n=true) (h:At n ((d,.agg out.toArray)::l) E L Y):At n l E L X:=
 op_val s (fun a w hf hw=>by
  obtain⟨i,hi,hiz⟩:=Option.bind_eq_some_iff.1 hz
  obtain⟨hu,j,hj,hjs⟩:=aelt_spec hp
  have hzr:(zeroValue t).run P w=.ok (.agg zs.toArray) w:=by simp [zeroValue,typeInfo,hi,hiz]
  have hfill:=fill_fillL (place:=fun i=>some (i*size,size)) (fun i o h=>by
   rw [List.getElem?_map]at h
   obtain⟨k,hk,rfl⟩:=Option.map_eq_some_iff.1 h
   obtain⟨_,rfl⟩:=List.getElem?_eq_some_iff.1 hk
   simp) vs zs out ho
  have hpv:(parts.toArray.map fun(x:Nat×Operand)=>(x.1,a.eval x.2))=vs.toArray:=by rw [List.map_toArray,hv.map hf]
  have hb:(Instr.build t vs.toArray).run P w=.ok (.agg out.toArray) w:=by
   unfold Instr.build
   rw [Sem.run_bind,hzr]
   simp only [Result.andThen_ok]
   rw [Sem.run_bind,run_underlying hu]
   simp only [Result.andThen_ok]
   rw [Sem.run_bind,run_sizeOf hj,hjs]
   simp only [Result.andThen_ok,Value.cells,hfill,Sem.run_pure]
  show((do pure (.value (←Instr.build t (parts.toArray.map fun(x:Nat×Operand)=>(x.1,a.eval x.2)))):Sem Next)).run P w=_
  rw [hpv,Sem.run_bind,hb]
  rfl) rfl hn h
theorem op_idxV {alen j:Nat} {k:IntKind} {p:Int} {v:Value} {cs:Array Value} {pos:_} {aft:_} {g:_} (s:NxF P n l E L Ls ⟨some d,.index t x y,ty,pos,aft,g⟩ X Y) (ht:aelt P t=some (alen,e,1)) (he:scal P e=true) (hx:ev l x=some (.agg cs)) (hy:ev l y=some (.int k p)) (hj:p=(j:Int)) (hlt:j<alen) (hc:cs[j]? =some v) (hn:Nat.ble (d+1) n=true) (h:At n ((d,v)::l) E L Y):At n l E L X:=by
 obtain⟨hu,i,hi,hsz⟩:=aelt_spec ht
 refine op_val s (fun a w hf hw=>?_) U hn h
 subst hj
 simp only [execOp,hf.eval hx,hf.eval hy,Instr.index,asIntOf,Sem.run_bind,Sem.run_pure,Result.andThen_ok,run_underlying hu]
 have h0:(0:Int)≤(j:Int)∧(j:Int)<(alen:Int):=by omega
 simp only [if_pos h0,Sem.run_bind,run_sizeOf hi,hsz,Result.andThen_ok,Int.toNat_natCast,Nat.mul_one]
 simp only [part,Sem.run_bind]
 rw [run_isAgg_scal he]
 simp only [Result.andThen_ok,Bool.false_eq_true,if_false,hc,Sem.run_pure]
end
theorem or_set64 {a:List UInt64} {q s w x:Nat} (hq:q<a.length) (hs:v64 a<2^(64*q+s)) (hx:x<2^w) (hw:s+w≤64):
 v64 (a.set q (a.getD q 0 |||UInt64.ofNat (x*2^s)))=v64 a+x*2^(64*q+s):=by
 have hset:=v64_set (a:=a) (i:=q) (y:=a.getD q 0 |||UInt64.ofNat (x*2^s)) hq
 have hdig:=limb_v64 hq
 have hL:a[q].toNat<2^s:=by
  rw [←hdig]
  refine Nat.lt_of_le_of_lt (Nat.mod_le _ _) ?_
  rw [Nat.div_lt_iff_lt_mul (Nat.pow_pos (by decide)), ←Nat.pow_add]
  rwa [Nat.add_comm s]
 have hc:x*2^s<2^64:=by
  refine Nat.lt_of_lt_of_le (Nat.mul_lt_mul_of_pos_right hx (Nat.pow_pos (by decide))) ?_
  rw [←Nat.pow_add]
  exact Nat.pow_le_pow_right (by decide) (by omega)
 have hor:(a.getD q 0 |||UInt64.ofNat (x*2^s)).toNat=a[q].toNat+x*2^s:=by
  rw [List.getD_eq_getElem?_getD,List.getElem?_eq_getElem hq,Option.getD_some,UInt64.toNat_or,UInt64.toNat_ofNat',Nat.mod_eq_of_lt hc,Nat.or_comm,nat_join s _ _ (Nat.mul_mod_left _ _) hL,Nat.add_comm]
 rw [hor,Nat.add_mul,Nat.mul_assoc, ←Nat.pow_add,Nat.add_comm s]at hset
 omega
theorem v32_take_succ {l:List UInt32} {k:Nat} (h:k<l.length):v32 (l.take (k+1))=v32 (l.take k)+(l.getD k 0).toNat*2^(32*k):=by
 rw [List.take_succ_eq_append_getElem h,v32_append,List.length_take,Nat.min_eq_left (by omega),List.getD_eq_getElem?_getD,List.getElem?_eq_getElem h]
 simp only [v32,n32,val,List.map_cons,List.map_nil,Option.getD_some,Nat.mul_zero,Nat.add_zero]
 rw [Nat.mul_comm (2^(32*k))]
theorem v32_take_lt (l:List UInt32) (k:Nat):v32 (l.take k)<2^(32*k):=by
 refine Nat.lt_of_lt_of_le (v32_lt _) (Nat.pow_le_pow_right (by decide) ?_)
 have:=List.length_take_le k l
 omega
theorem v32_take_mod (l:List UInt32) (k:Nat):v32 (l.take k)=v32 l % 2^(32*k):=by
 have h:=v32_take_lt l k
 by_cases hk:k≤l.length
 ·have e:v32 l=v32 (l.take k)+2^(32*k)*v32 (l.drop k):=by
   conv=>lhs;rw [←List.take_append_drop k l]
   rw [v32_append,List.length_take,Nat.min_eq_left hk]
  rw [e,Nat.add_mul_mod_self_left,Nat.mod_eq_of_lt h]
 ·rw [List.take_of_length_le (by omega)]at h⊢
  rw [Nat.mod_eq_of_lt h]
theorem w_step {m:List UInt64} {l:List UInt32} {k:Nat} (hm:m.length=4) (hv:v64 m=v32 (l.take k)) (hk:k<8) (hl:k<l.length):
 v64 (m.set (k/2) (m.getD (k/2) 0 |||UInt64.ofNat ((l.getD k 0).toNat*2^(32*(k % 2)))))=v32 (l.take (k+1)):=by
 have hx:=(l.getD k 0).toNat_lt
 have e:64*(k/2)+32*(k % 2)=32*k:=by omega
 rw [or_set64 (w:=32) (by omega) (by rw [hv,e];exact v32_take_lt l k) hx (by omega),e,hv,v32_take_succ hl]
theorem shl64_of (x:Nat) (hx:x<2^64) (m:Nat):shl64 (UInt64.ofNat x) m=UInt64.ofNat (x*2^m):=by
 unfold shl64
 rw [UInt64.toNat_ofNat',Nat.mod_eq_of_lt hx]
theorem shl32_of (x:Nat) (hx:x<2^32) (m:Nat):shl32 (UInt32.ofNat x) m=UInt32.ofNat (x*2^m):=by
 unfold shl32
 rw [UInt32.toNat_ofNat',Nat.mod_eq_of_lt hx]
theorem ofNat_shl32 (x:UInt8) (m:Nat):shl32 (UInt32.ofNat x.toNat) m=UInt32.ofNat (x.toNat*2^m):=shl32_of _ (by have:=x.toNat_lt;omega) m
theorem rFrom_f {N:Heaplet} {ao:Option Addr} {n cap:Nat} {l:List UInt8} (h:RSl N 1 ao n cap (u8s l)) (hn:n≤140737488351232):
 Fn Tryz.prog 149 #[.slice ao n cap] [] [N] (fun v L=> ∃M a c,v=.slice a (digsOf (be l)).length c∧L= [M]∧RSl M 1 a (digsOf (be l)).length c (u32s (digsOf (be l)))):=by
 have hlen:=h.len8
 have hcap:=h.cap63
 refine Fn.enter (vs:= [.slice ao n cap]) Tryz.func149 U U U ?_
 intro E R hR
 have h:=h.le (hR N (by simp))
 change At _ _ E [R] _
 refine aC fun _ s_1=>aA (aR U U (aB (s_1 (aC fun _ s_2=>aA (aH U U (cF aE se22 U U (cU aE U U (by omega) (by omega) U (op_quoI aE U U (by omega) (by omega) (by omega) U ?_))))))))
 refine op_make bU Tryz.underlying168 te172 U U (show _=((((n+3)/4:Nat)):Int)from by omega) (show _=((((n+3)/4:Nat)):Int)from by omega) (by omega) (by unfold maxLen;omega) U (fun N10 a10 r10=>?_)
 rw [made_one _ _ rfl,zero_u32s]at r10
 have s10:=r10.rsl
 refine aR U U (aB (s_2 (aC fun _ s_3=>aC fun _ s_4=>aA (aR U U (aB (s_4 (bZ (At.loop (fun fr_ hp_ ms_=> ∃(k:Nat) (Nq:Heaplet),fr_= [(0,.slice ao n cap),(3,.slice a10 ((n+3)/4) ((n+3)/4)),(4,.int .i64 (k:Int))]∧hp_= [Nq,R]∧n- k=ms_∧(k≤n)∧(Row Nq 172 1 a10 ((n+3)/4) ((n+3)/4) (u32s (rfromSt l k)))) ?_ aJ ⟨0,N10,rfl,rfl,rfl,by omega,by simpa [rfromSt,hlen]using r10⟩ ?_))))))))
 ·repeat first|apply cW|exact .nil|exact lkI rfl (by omega)|rfl
 rintro _ _ _ ⟨k,Nq,rfl,rfl,rfl,hk,rq⟩
 have sq:=rq.rsl
 have hlq:=sq.len32
 refine aC fun _ s_5=>aC fun _ s_6=>aA (aH U U (aH U U (cF aE se22 U U (op_lss aE U U U (aB (s_6 (aQ U (fun c14=>?_) (fun c14=>?_))))))))
 ·refine aT (aI (s_5 (aC fun _ s_7=>bZ (aC fun _ s_8=>aA (aH U U (cF aE se22 U U (op_subI aE U U (by omega) (by omega) U (aH U U (op_subI aE U U (by omega) (by omega) U (aR U U (aB (s_8 (At.drawn [19] [0,1,2,3,4,5,6,7,8,9,10,11,12,13,14,15,16,17,18,19] (by kernel_rfl) (by kernel_rfl) (aP (bP U U U (by kernel_rfl)) U U (aP (bP U U U (by kernel_rfl)) U U (op_quoI (bP U U U (by kernel_rfl)) U U (by omega) (by omega) (by omega) U (aP (bP U U U (by kernel_rfl)) U U (aP (bP U U U (by kernel_rfl)) U U (op_quoI (bP U U U (by kernel_rfl)) U U (by omega) (by omega) (by omega) U (cZ (bP U U U (by kernel_rfl)) se168 U U (by assumption) (show _=(((k/4:Nat)):Int)from by omega) (by omega) U ?_))))))))))))))))))))
  refine cO (bP U U U (by kernel_rfl)) sc172 U (by assumption) (by first|exact get8 (by omega)|exact get64 (by omega)|exact get32 (by omega)) (by simp) U ?_
  refine aP (bP U U U (by kernel_rfl)) U U (aP (bP U U U (by kernel_rfl)) U U (cZ (bP U U U (by kernel_rfl)) se22 U U (by assumption) (show _=(((n- 1- k:Nat)):Int)from by omega) (by omega) U ?_))
  refine cO (bP U U U (by kernel_rfl)) sc5 U (by assumption) (by first|exact get8 (by omega)|exact get64 (by omega)|exact get32 (by omega)) (by simp) U ?_
  refine op_conv32 (bP U U U (by kernel_rfl)) (und_some Tryz.underlying5) Tryz.underlying172 U (by first|rfl|exact(Int.toNat_of_nonneg (by omega)).symm) U ?_
  refine aP (bP U U U (by kernel_rfl)) U U (op_rem (bP U U U (by kernel_rfl)) U U (by omega) (by omega) U (op_mulI (bP U U U (by kernel_rfl)) U U (by omega) (by omega) U (op_shlU32 (bP U U U (by kernel_rfl)) U U (show _=(((8*(k % 4):Nat)):Int)from by omega) U ?_)))
  refine op_orU32 (bP U U U (by kernel_rfl)) U U U (cZ (bP U U U (by kernel_rfl)) se168 U U (by assumption) (show _=(((k/4:Nat)):Int)from by omega) (by omega) U ?_)
  refine op_storeE (nxos U U U U) sz172 U U U U U rq (by simp<;>omega) (by simp) dB (fun Nq rq=>?_)
  simp only [setL]at rq
  have sq:=rq.rsl
  refine dK (cS (aI (s_7 (aA (aH U U (cU aE U U (by omega) (by omega) U (aR U U (aB ?_))))))))
  refine At.back ?_ aJ ⟨k+1,Nq,rfl,rfl,rfl,by omega,by rw [rfromSt,rfromStep,hlen, ←ofNat_shl32, ←set_u32s];exact rq⟩ ?_
  ·repeat first|apply cW|exact .nil|exact lkI rfl (by omega)|rfl
  ·omega
 refine At.exit (bB (bB (dE (aI (s_3 (aC fun _ s_9=>aA (aH U U (bD bU (.cons U .nil) (trim32_f sq) Tryz.func150 U U (by simp) U ?_))))))))
 rintro _ _ ⟨rfl,rfl,e1,e2⟩
 show At _ _ _ [Nq,R] _
 refine aR U U (aB (s_9 (a0 ((cI (L1:= [Nq]) U (.tmp U .nil) (.refl _) aJ ?_)))))
 obtain rfl:k=l.length:=by omega
 rw [rfromSt_all]at e1 e2⊢
 have h2:=sq.take e2 (Nat.le_refl _) e2
 rw [Nat.mul_one,u32s_take,e1]at h2
 exact⟨Nq,a10,_,rfl,rfl,h2⟩
def cmpI (x y:Nat):Int:=if x<y then-1 else if y<x then 1 else 0
theorem digs_lt {x y:Nat} (h:(digsOf x).length<(digsOf y).length):x<y:=by
 rw [length_digsOf,length_digsOf]at h
 rcases Nat.lt_or_ge x y with h1|h1
 ·exact h1
 ·have:=bitLen_mono h1;omega
theorem digs_eq_len {x y:Nat} (h:(digsOf x).length=(digsOf y).length):x/2^(32*(digsOf x).length)=y/2^(32*(digsOf x).length):=by
 have h1:=v32_lt (digsOf x)
 have h2:=v32_lt (digsOf y)
 rw [v32_digsOf]at h1 h2
 rw [Nat.div_eq_of_lt h1,h,Nat.div_eq_of_lt h2]
theorem digs_at {x j:Nat} (h:j<(digsOf x).length):x/2^(32*j)=x/2^(32*(j+1))*2^32+((digsOf x).getD j 0).toNat:=by
 have e:=dig_v32 h
 rw [v32_digsOf]at e
 rw [List.getD_eq_getElem?_getD,List.getElem?_eq_getElem h,Option.getD_some, ←e,show 32*(j+1)=32*j+32 by omega,Nat.pow_add, ←Nat.div_div_eq_div_mul]
 omega
theorem lt_of_div {x y p:Nat} (h:x/p<y/p):x<y:=by
 rcases Nat.lt_or_ge x y with h1|h1
 ·exact h1
 ·have:=Nat.div_le_div_right (c:=p) h1;omega
theorem cmpI_le {x y:Nat} :cmpI x y≤0↔x≤y:=by
 unfold cmpI
 split
 ·omega
 ·split<;>omega
theorem Cmp32_f {N M:Heaplet} {ax ay:Option Addr} {nx ny cx cy x y:Nat} (hx:RSl N 1 ax nx cx (u32s (digsOf x))) (hy:RSl M 1 ay ny cy (u32s (digsOf y))):
 Fn Tryz.prog 99 #[.slice ax nx cx,.slice ay ny cy] [] [N,M] (fun v L=>v=.int .i64 (cmpI x y)∧L= []):=by
 have lx:=hx.len32
 have ly:=hy.len32
 have hcx:=hx.cap63
 have hcy:=hy.cap63
 refine Fn.enter (vs:= [.slice ax nx cx,.slice ay ny cy]) Tryz.func99 U U U ?_
 intro E R hR
 have hx:=hx.le (hR N (by simp))
 have hy:=hy.le (hR M (by simp))
 change At _ _ E [R] _
 refine aC fun _ s_1=>aA (aR U U (aB (s_1 (aC fun _ s_2=>aC fun _ s_3=>aA (aH U U (cF aE se168 U U (aH U U (cF aE se168 U U (dG aE U U U (aB (s_3 (aQ U (fun c10=>?_) (fun c10=>?_)))))))))))))
 ·refine aC fun _ s_4=>aC fun _ s_5=>aA (aH U U (cF aE se168 U U (aH U U (cF aE se168 U U (op_lss aE U U U (aB (s_5 (aQ U (fun c15=>?_) (fun c15=>?_)))))))))
  ·refine aC fun _ s_6=>aA (aR U U (aB (s_6 (a0 (aS (aS ((cI (L1:= []) U (.tmp U .nil) (.refl _) aJ ?_))))))))
   have:= @digs_lt x y (by omega);exact⟨by rw [cmpI,if_pos this],rfl⟩
  refine aT (aI (s_4 (aC fun _ s_7=>aA (aR U U (aB (s_7 (a0 (aS ((cI (L1:= []) U (.tmp U .nil) (.refl _) aJ ?_))))))))))
  have:= @digs_lt y x (by omega);exact⟨by rw [cmpI,if_neg (by omega),if_pos this],rfl⟩
 refine aT (aI (s_2 (aC fun _ s_8=>aC fun _ s_9=>aA (aH U U (cF aE se168 U U (op_subI aE U U (by omega) (by omega) U (aR U U (aB (s_9 (bZ ?_))))))))))
 refine At.loop (fun fr_ hp_ ms_=> ∃(j:Nat),fr_= [(0,.slice ax nx cx),(1,.slice ay ny cy),(5,.int .i64 ((j:Int)- 1))]∧hp_= [R]∧j=ms_∧(j≤nx)∧(x/2^(32*j)=y/2^(32*j))) ?_ aJ ⟨nx,rfl,rfl,rfl,Nat.le_refl _,by have e:=digs_eq_len (x:=x) (y:=y) (by omega);rwa [lx]at e⟩ ?_
 ·repeat first|apply cW|exact .nil|exact lkI rfl (by omega)|rfl
 rintro _ _ _ ⟨j,rfl,rfl,rfl,hj,hd⟩
 have hat:0<j→x/2^(32*(j- 1))=x/2^(32*j)*2^32+((digsOf x).getD (j- 1) 0).toNat∧y/2^(32*(j- 1))=y/2^(32*j)*2^32+((digsOf y).getD (j- 1) 0).toNat:=fun h0=>by
  have e1:=digs_at (x:=x) (j:=j- 1) (by omega)
  have e2:=digs_at (x:=y) (j:=j- 1) (by omega)
  rw [show j- 1+1=j by omega]at e1 e2
  exact⟨e1,e2⟩
 refine aC fun _ s_10=>aC fun _ s_11=>aA (aH U U (op_geq aE U U U (aB (s_11 (aQ U (fun c20=>?_) (fun c20=>?_))))))
 ·refine aT (aI (s_10 (aC fun _ s_12=>bZ (aC fun _ s_13=>aC fun _ s_14=>At.drawn [] [0,1,2,3,4,5,6,7,8] (by kernel_rfl) (by kernel_rfl) (aP (bP U U U (by kernel_rfl)) U U (aP (bP U U U (by kernel_rfl)) U U (cZ (bP U U U (by kernel_rfl)) se168 U U (by assumption) (show _=(((j- 1:Nat)):Int)from by omega) (by omega) U ?_)))))))
  refine cO (bP U U U (by kernel_rfl)) sc172 U (by assumption) (by first|exact get8 (by omega)|exact get64 (by omega)|exact get32 (by omega)) (by simp) U ?_
  refine aP (bP U U U (by kernel_rfl)) U U (aP (bP U U U (by kernel_rfl)) U U (cZ (bP U U U (by kernel_rfl)) se168 U U (by assumption) (show _=(((j- 1:Nat)):Int)from by omega) (by omega) U ?_))
  refine cO (bP U U U (by kernel_rfl)) sc172 U (by assumption) (by first|exact get8 (by omega)|exact get64 (by omega)|exact get32 (by omega)) (by simp) U ?_
  refine op_lss (bP U U U (by kernel_rfl)) U U U (dK (aI (s_14 (aQ U (fun c31=>?_) (fun c31=>?_)))))
  ·refine aC fun _ s_15=>aA (aR U U (aB (s_15 (a0 (aS (At.inRet (aS (aS (At.inRet (aS ((cI (L1:= []) U (.tmp U .nil) (.refl _) aJ ?_))))))))))))
   have ⟨e1,e2⟩:=hat (by omega)
   have:=lt_of_div (x:=x) (y:=y) (p:=2^(32*(j- 1))) (by rw [e1,e2,hd];omega)
   exact⟨by rw [cmpI,if_pos this],rfl⟩
  refine aT (aI (s_13 (aC fun _ s_16=>At.drawn [] [0,1,2,3,4,5,6,7,8] (by kernel_rfl) (by kernel_rfl) (aP (bP U U U (by kernel_rfl)) U U (aP (bP U U U (by kernel_rfl)) U U (cZ (bP U U U (by kernel_rfl)) se168 U U (by assumption) (show _=(((j- 1:Nat)):Int)from by omega) (by omega) U ?_))))))
  refine cO (bP U U U (by kernel_rfl)) sc172 U (by assumption) (by first|exact get8 (by omega)|exact get64 (by omega)|exact get32 (by omega)) (by simp) U ?_
  refine aP (bP U U U (by kernel_rfl)) U U (aP (bP U U U (by kernel_rfl)) U U (cZ (bP U U U (by kernel_rfl)) se168 U U (by assumption) (show _=(((j- 1:Nat)):Int)from by omega) (by omega) U ?_))
  refine cO (bP U U U (by kernel_rfl)) sc172 U (by assumption) (by first|exact get8 (by omega)|exact get64 (by omega)|exact get32 (by omega)) (by simp) U ?_
  refine op_gtr (bP U U U (by kernel_rfl)) U U U (dK (aI (s_16 (aQ U (fun c40=>?_) (fun c40=>?_)))))
  ·refine aC fun _ s_17=>aA (aR U U (aB (s_17 (a0 (At.inRet (aS (aS (At.inRet (aS ((cI (L1:= []) U (.tmp U .nil) (.refl _) aJ ?_)))))))))))
   have ⟨e1,e2⟩:=hat (by omega)
   have:=lt_of_div (x:=y) (y:=x) (p:=2^(32*(j- 1))) (by rw [e1,e2,hd];omega)
   exact⟨by rw [cmpI,if_neg (by omega),if_pos this],rfl⟩
  refine aT (cS (aI (s_12 (aA (aH U U (op_subI aE U U (by omega) (by omega) U (aR U U (aB ?_))))))))
  refine At.back ?_ aJ ⟨j- 1,rfl,rfl,rfl,by omega,by have ⟨e1,e2⟩:=hat (by omega);rw [e1,e2,hd];omega⟩ ?_
  ·repeat first|apply cW|exact .nil|exact lkI rfl (by omega)|rfl
  ·omega
 refine At.exit (bB (bB (dE (aI (s_8 (aC fun _ s_18=>aA (aR U U (aB (s_18 (a0 ((cI (L1:= []) U (.tmp U .nil) (.refl _) aJ ?_))))))))))))
 obtain rfl:j=0:=by omega
 simp only [Nat.mul_zero,Nat.pow_zero,Nat.div_one]at hd
 exact⟨by rw [cmpI,if_neg (by omega),if_neg (by omega)],rfl⟩
theorem rW_f {N:Heaplet} {ao:Option Addr} {n cap:Nat} {l:List UInt32} (h:RSl N 1 ao n cap (u32s l)):
 Fn Tryz.prog 104 #[.slice ao n cap] [] [N] (fun v L=>L= []∧ ∃a b c d:UInt64,v=.agg #[.int .u64 (a.toNat:Int),.int .u64 (b.toNat:Int),.int .u64 (c.toNat:Int),.int .u64 (d.toNat:Int)]∧v64 [a,b,c,d]=v32 l % 2^256):=by
 have hlen:=h.len32
 have hcap:=h.cap63
 refine Fn.enter (vs:= [.slice ao n cap]) Tryz.func104 U U U ?_
 intro E R hR
 have h:=h.le (hR N (by simp))
 change At _ _ E [R] _
 refine aC fun _ s_1=>aA (bK bU ze26 U (fun N2 b2 B2=>?_))
 change Blk N2 b2 _ [.int .u64 0,.int .u64 0,.int .u64 0,.int .u64 0]at B2
 refine aB (s_1 (aC fun _ s_2=>aA (bK bU ze26 U (fun N3 b3 B3=>?_))))
 change Blk N3 b3 _ [.int .u64 0,.int .u64 0,.int .u64 0,.int .u64 0]at B3
 change Blk N3 b3 _ (u64s [0,0,0,0])at B3
 refine aB (s_2 (aC fun _ s_3=>aC fun _ s_4=>aA (aR U U (aB (s_4 (bZ (aM (bO (aM (At.loop (fun fr_ hp_ ms_=> ∃(k:Nat) (m:List UInt64) (N3:Heaplet),fr_= [(0,.slice ao n cap),(2,.pointer (some ⟨b2,0,none⟩)),(3,.pointer (some ⟨b3,0,none⟩)),(4,.int .i64 (k:Int))]∧hp_= [N2,N3,R]∧8- k=ms_∧(k≤8)∧(k≤n)∧(m.length=4)∧(v64 m=v32 (l.take k))∧(Blk N3 b3 26 (u64s m))) ?_ aJ ⟨0,[0,0,0,0],N3,rfl,rfl,rfl,by omega,by omega,rfl,rfl,B3⟩ ?_))))))))))
 ·repeat first|apply cW|exact .nil|exact lkI rfl (by omega)|rfl
 rintro _ _ _ ⟨k,m,N3,rfl,rfl,rfl,hk,hkn,hm,hv,B3⟩
 refine aC fun _ s_5=>aC fun _ s_6=>aA (aH U U (op_lss aE U U U (aH U U (cB (d:=7) U (fun g7=>?_) (fun g7=>?_)))))
 ·refine aP (bF U U U U) U U (aP (bF U U U U) U U (cF (bF U U U U) se168 U U (op_lss (bF U U U U) U U U (cH aE U U U (aB (s_6 (aQ U (fun c12=>?_) (fun c12=>?_))))))))
  ·refine aT (aI (s_5 (aC fun _ s_7=>bZ (At.drawn [17] [0,1,2,3,4,5,6,7,8,9,10,11,12,13,14,15,16,17] (by kernel_rfl) (by kernel_rfl) (aP (bP U U U (by kernel_rfl)) U U (op_quoI (bP U U U (by kernel_rfl)) U U (by omega) (by omega) (by omega) U (aP (bP U U U (by kernel_rfl)) U U (op_quoI (bP U U U (by kernel_rfl)) U U (by omega) (by omega) (by omega) U (dD (bP U U U (by kernel_rfl)) ae26 U U (show _=(((k/2:Nat)):Int)from by omega) (by omega) U ?_)))))))))
   refine aK (bP U U U (by kernel_rfl)) sc24 U B3 (by first|exact get64A (by omega)|rfl) mem1 U ?_
   refine aP (bP U U U (by kernel_rfl)) U U (aP (bP U U U (by kernel_rfl)) U U (cZ (bP U U U (by kernel_rfl)) se168 U U (by assumption) (show _=(((k:Nat)):Int)from by omega) (by omega) U ?_))
   refine cO (bP U U U (by kernel_rfl)) sc172 U (by assumption) (by first|exact get8 (by omega)|exact get64 (by omega)|exact get32 (by omega)) (by simp) U ?_
   refine op_conv64 (bP U U U (by kernel_rfl)) (und_some Tryz.underlying172) Tryz.underlying24 U (by first|rfl|exact(Int.toNat_of_nonneg (by omega)).symm) U ?_
   refine aP (bP U U U (by kernel_rfl)) U U (op_rem (bP U U U (by kernel_rfl)) U U (by omega) (by omega) U (op_mulI (bP U U U (by kernel_rfl)) U U (by omega) (by omega) U (op_shlU (bP U U U (by kernel_rfl)) U U (show _=(((32*(k % 2):Nat)):Int)from by omega) U ?_)))
   refine op_orU (bP U U U (by kernel_rfl)) U U U (dD (bP U U U (by kernel_rfl)) ae26 U U (show _=(((k/2:Nat)):Int)from by omega) (by omega) U ?_)
   refine aF (nxos U U U U) sz24 U U U U U B3 (by simp<;>omega) sel1 (fun N3 B3=>?_)
   rw [set64A]at B3
   refine dK (cS (aI (s_7 (aA (aH U U (cU aE U U (by omega) (by omega) U (aR U U (aB (aM (bO (aM ?_)))))))))))
   refine At.back ?_ aJ ⟨k+1,_,N3,rfl,rfl,rfl,by omega,by omega,by simpa using hm,by rw [shl64_of _ (by have:=(l.getD k 0).toNat_lt;omega)];exact w_step hm hv (by omega) (by omega),B3⟩ ?_
   ·repeat first|apply cW|exact .nil|exact lkI rfl (by omega)|rfl
   ·omega
  refine At.exit (bB (bB (dE (aI (s_3 (aC fun _ s_8=>aA ?_))))))
  obtain⟨a,b,c,d,rfl⟩:=four hm
  have hfin:v64 [a,b,c,d]=v32 l % 2^256:=by
   rw [hv,v32_take_mod]
   by_cases h8:k=8
   ·rw [h8]
   ·have hk':l.length≤k:=by omega
    have:=v32_lt l
    have h1:v32 l<2^(32*k):=Nat.lt_of_lt_of_le this (Nat.pow_le_pow_right (by decide) (by omega))
    have h2:v32 l<2^256:=Nat.lt_of_lt_of_le h1 (Nat.pow_le_pow_right (by decide) (by omega))
    rw [Nat.mod_eq_of_lt h1,Nat.mod_eq_of_lt h2]
  change Blk N3 b3 _ [.int .u64 (a.toNat:Int),.int .u64 (b.toNat:Int),.int .u64 (c.toNat:Int),.int .u64 (d.toNat:Int)]at B3
  refine aV (ds:= [_,_,_,_]) aE ag26 U B3 U U mem1 U (aF cL sz26 U U U U U B2 (by simp) dB (fun N2 B2=>?_))
  simp only [setL,List.set]at B2
  refine aB (s_8 (a0 ((bH (cI (L1:= []) U (.cell U (bQ (ds:= [_,_,_,_]) ag26 B2 U U bI) .nil) (.cons _ (.refl _)) aJ ?_)))))
  exact⟨rfl,a,b,c,d,rfl,hfin⟩
 refine aU U U U U U U U (aU U U U U U U U (aU U U U U U U U (aU U U U U U U U (cE aE U U U (aB (s_6 (dA U (At.exit (bB (bB (dE (aI (s_3 (aC fun _ s_9=>aA ?_))))))))))))))
 obtain⟨a,b,c,d,rfl⟩:=four hm
 have hfin:v64 [a,b,c,d]=v32 l % 2^256:=by
  rw [hv,v32_take_mod]
  by_cases h8:k=8
  ·rw [h8]
  ·have hk':l.length≤k:=by omega
   have:=v32_lt l
   have h1:v32 l<2^(32*k):=Nat.lt_of_lt_of_le this (Nat.pow_le_pow_right (by decide) (by omega))
   have h2:v32 l<2^256:=Nat.lt_of_lt_of_le h1 (Nat.pow_le_pow_right (by decide) (by omega))
   rw [Nat.mod_eq_of_lt h1,Nat.mod_eq_of_lt h2]
 change Blk N3 b3 _ [.int .u64 (a.toNat:Int),.int .u64 (b.toNat:Int),.int .u64 (c.toNat:Int),.int .u64 (d.toNat:Int)]at B3
 refine aV (ds:= [_,_,_,_]) aE ag26 U B3 U U mem1 U (aF cL sz26 U U U U U B2 (by simp) dB (fun N2 B2=>?_))
 simp only [setL,List.set]at B2
 refine aB (s_9 (a0 ((bH (cI (L1:= []) U (.cell U (bQ (ds:= [_,_,_,_]) ag26 B2 U U bI) .nil) (.cons _ (.refl _)) aJ ?_)))))
 exact⟨rfl,a,b,c,d,rfl,hfin⟩
theorem or_low64 {a:List UInt64} {q s w x:Nat} (hq:q<a.length) (hs:v64 a % 2^(64*q+s+w)=0) (hx:x<2^w) (hw:s+w≤64):
 v64 (a.set q (a.getD q 0 |||UInt64.ofNat (x*2^s)))=v64 a+x*2^(64*q+s):=by
 have hset:=v64_set (a:=a) (i:=q) (y:=a.getD q 0 |||UInt64.ofNat (x*2^s)) hq
 have hdig:=limb_v64 hq
 have hc:x*2^s<2^(s+w):=by
  rw [Nat.pow_add,Nat.mul_comm]
  exact Nat.mul_lt_mul_of_pos_left hx (Nat.pow_pos (by decide))
 have hc64:x*2^s<2^64:=Nat.lt_of_lt_of_le hc (Nat.pow_le_pow_right (by decide) hw)
 have hL:a[q].toNat % 2^(s+w)=0:=by
  rw [←hdig]
  obtain⟨m,hm⟩:=Nat.dvd_of_mod_eq_zero hs
  rw [hm,show 64*q+s+w=64*q+(s+w) by omega,Nat.pow_add,Nat.mul_assoc,Nat.mul_div_cancel_left _ (Nat.pow_pos (by decide)),
   show(2:Nat)^64=2^(s+w)*2^(64- (s+w))from by rw [←Nat.pow_add];congr 1;omega,Nat.mul_mod_mul_left,Nat.mul_mod_right]
 have hor:(a.getD q 0 |||UInt64.ofNat (x*2^s)).toNat=a[q].toNat+x*2^s:=by
  rw [List.getD_eq_getElem?_getD,List.getElem?_eq_getElem hq,Option.getD_some,UInt64.toNat_or,UInt64.toNat_ofNat',Nat.mod_eq_of_lt hc64,nat_join (s+w) _ _ hL hc]
 rw [hor,Nat.add_mul,Nat.mul_assoc, ←Nat.pow_add,Nat.add_comm s]at hset
 omega
theorem be_take_succD {l:List UInt8} {k:Nat} (h:k<l.length):be (l.take (k+1))=be (l.take k)*256+(l.getD k 0).toNat:=by
 rw [List.take_succ_eq_append_getElem h,be_snoc,List.getD_eq_getElem?_getD,List.getElem?_eq_getElem h];rfl
theorem wfrom_step {m:List UInt64} {l:List UInt8} {k:Nat} (hm:m.length=4) (hl:l.length≤32) (hk:k<l.length) (hv:v64 m=be (l.take k)*256^(l.length- k)):
 v64 (m.set ((l.length- 1- k)/8) (m.getD ((l.length- 1- k)/8) 0 |||UInt64.ofNat ((l.getD k 0).toNat*2^((l.length- 1- k) % 8*8))))=be (l.take (k+1))*256^(l.length- (k+1)):=by
 have hx:=(l.getD k 0).toNat_lt
 have e:64*((l.length- 1- k)/8)+(l.length- 1- k) % 8*8=8*(l.length- 1- k):=by omega
 have e2:8*(l.length- 1- k)+8=8*(l.length- k):=by omega
 have p: ∀j,(256:Nat)^j=2^(8*j):=fun j=>by rw [show(256:Nat)=2^8 from rfl, ←Nat.pow_mul]
 rw [or_low64 (w:=8) (by omega) (by rw [hv,p,e,e2,Nat.mul_mod_left]) hx (by omega),e,hv,be_take_succD hk,Nat.add_mul,Nat.mul_assoc, ←p]
 congr 2
 ·rw [show l.length- k=(l.length- (k+1))+1 by omega,Nat.pow_succ,Nat.mul_comm]
 ·congr 1;omega
theorem v64_take_succ {l:List UInt64} {k:Nat} (h:k<l.length):v64 (l.take (k+1))=v64 (l.take k)+2^(64*k)*(l.getD k 0).toNat:=by
 rw [List.take_succ_eq_append_getElem h,v64_append,List.length_take,Nat.min_eq_left (by omega),List.getD_eq_getElem?_getD,List.getElem?_eq_getElem h]
 simp only [v64,n64,val,List.map_cons,List.map_nil,Option.getD_some,Nat.mul_zero,Nat.add_zero]
theorem v64_take_lt (l:List UInt64) (k:Nat):v64 (l.take k)<2^(64*k):=by
 refine Nat.lt_of_lt_of_le (v64_lt _) (Nat.pow_le_pow_right (by decide) ?_)
 have:=List.length_take_le k l
 omega
theorem bitLen_join {L x k:Nat} (hL:L<2^k) (hx:x≠0):bitLen (L+2^k*x)=k+bitLen x:=by
 have h1:=lt_bitLen x
 have h0:=bitLen_pos (Nat.pos_of_ne_zero hx)
 have hp:0<2^k:=Nat.pow_pos (by decide)
 refine bitLen_eq ?_ (.inr ?_)
 ·rw [Nat.pow_add]
  have:2^k*(x+1)≤2^k*2^bitLen x:=Nat.mul_le_mul_left _ h1
  rw [Nat.mul_add,Nat.mul_one]at this
  omega
 ·have h2:2^(bitLen x- 1)≤x:=by
   rcases Nat.lt_or_ge x (2^(bitLen x- 1))with h|h
   ·have:=bitLen_le.2 h;omega
   ·exact h
  rw [show k+bitLen x- 1=k+(bitLen x- 1) by omega,Nat.pow_add]
  have:=Nat.mul_le_mul_left (2^k) h2
  omega
theorem bits_at {l:List UInt64} {k:Nat} (h:k<l.length) (hx:(l.getD k 0).toNat≠0) (hv:v64 l=v64 (l.take (k+1))):bitLen (v64 l)=64*k+bitLen (l.getD k 0).toNat:=by
 rw [hv,v64_take_succ h,bitLen_join (v64_take_lt l k) hx]
theorem v64_take_zero {l:List UInt64} {k:Nat} (h:k<l.length) (hx:(l.getD k 0).toNat=0) (hv:v64 l=v64 (l.take (k+1))):v64 l=v64 (l.take k):=by
 rw [hv,v64_take_succ h,hx,Nat.mul_zero,Nat.add_zero]
theorem be_bytes32 {N:Nat} (h:N<2^256):be (bytesN 32 N)=N:=by rw [be_bytesN];exact Nat.mod_eq_of_lt (by simpa using h)
theorem bytesN_drop {n k N:Nat} (hk:k≤n) (h:N<256^k):(bytesN n N).drop (n- k)=bytesN k N:=by
 apply List.ext_getElem
 ·rw [List.length_drop,length_bytesN,length_bytesN];omega
 ·intro i h1 h2
  rw [length_bytesN]at h2
  rw [List.getElem_drop]
  simp only [bytesN,List.getElem_map,List.getElem_range]
  congr 3
  omega
theorem bytes_drop32 {N:Nat} (h:N<2^256):(bytesN 32 N).drop (32- (bitLen N+7)/8)=bytesOf N:=by
 have h1:(bitLen N+7)/8≤32:=byteLen_le.2 (by simpa using h)
 exact bytesN_drop h1 (byteLen_le.1 (Nat.le_refl _))
theorem v64_four_lt (a b c d:UInt64):v64 [a,b,c,d]<2^256:=v64_lt [a,b,c,d]
theorem bytesN_take_succ {n N k:Nat} (h:k<n):(bytesN n N).take (k+1)=(bytesN n N).take k++ [UInt8.ofNat (N/256^(n- 1- k))]:=by
 rw [List.take_succ_eq_append_getElem (by rw [length_bytesN];exact h)]
 simp [bytesN]
end Go.Proofs.YtjfagifjajielaaGreat
