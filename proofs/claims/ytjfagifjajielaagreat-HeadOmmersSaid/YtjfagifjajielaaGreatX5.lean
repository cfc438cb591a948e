/- Several texts in one: see the remarks ahead of each part. No condition but those told there. -/
import Derived.Test.YtjfagifjajielaaGreatX1
import Derived.Test.YtjfagifjajielaaGreatX4
import Derived.Laws.CopyRow
import Derived.Laws.IdiomCopy
import Derived.Laws.Externs
import Derived.Lib.Mul64
import Derived.Test.YtjfagifjajielaaGreatX2
import Derived.Lib.Hide
set_option linter.unusedSimpArgs false
set_option linter.unusedVariables false
namespace Go.Proofs.YtjfagifjajielaaGreat
open Go Go.RowKit
theorem bits_comp_u64 (x:UInt64):bits .xor .u64 18446744073709551615 (x.toNat:Int)=((~~~x).toNat:Int):=by
 have h:=bits_xor_u64 18446744073709551615 x
 have e:((18446744073709551615:UInt64).toNat:Int)=18446744073709551615:=rfl
 rw [e]at h
 rw [h]
 congr 2
section
variable {P : Program} {n : Nat} {l : List (Nat × Value)} {E : World} {L L1 Ls : List Heaplet} {o : Oper} {X Y : Act → World → Prop} {N M : Heaplet}
variable {d : Nat} {ty t t' t2 e e2 : TypeId} {pos : String} {aft : Array Edge} {g : Option (Nat × Bool)} {v : Value} {x y z : Operand} {k : IntKind} {p q : Int} {b off : Nat}
theorem op_compU {a:UInt64} (s:NxF P n l E L Ls ⟨some d,.unOp .xor t x,ty,pos,aft,g⟩ X Y) (hx:ev l x=some (.int .u64 (a.toNat:Int))) (hn:Nat.ble (d+1) n=true) (h:At n ((d,.int .u64 ((~~~a).toNat:Int))::l) E L Y):At n l E L X:=
 op_val s (fun a' w hf _=>by
  simp only [execOp,hf.eval hx,Op.unary]
  have e:Op.intBits .xor .u64 (if IntKind.u64.signed=true then-1 else IntKind.u64.max) (a.toNat:Int)=(pure (.int .u64 ((~~~a).toNat:Int)):Sem Value):=by
   rw [intBits_xor, ←bits_comp_u64];rfl
  rw [e];rfl) rfl hn h
theorem op_quoU {a b:UInt64} (s:NxF P n l E L Ls ⟨some d,.binOp .quo t x y t',ty,pos,aft,g⟩ X Y) (hx:ev l x=some (.int .u64 (a.toNat:Int))) (hy:ev l y=some (.int .u64 (b.toNat:Int))) (hb:b.toNat≠0) (hn:Nat.ble (d+1) n=true) (h:At n ((d,.int .u64 ((a/b).toNat:Int))::l) E L Y):At n l E L X:=
 op_int s hx hy (fun w=>by
  have e:(b.toNat:Int)≠0:=by omega
  have e1:(a.toNat:Int).tdiv b.toNat=((a/b).toNat:Int):=by
   rw [Int.tdiv_eq_ediv_of_nonneg (by omega),UInt64.toNat_div];simp
  have e2:IntKind.u64.wrap ((a/b).toNat:Int)=((a/b).toNat:Int):=by
   rw [IntKind.wrap_u64];have:=(a/b).toNat_lt;omega
  have e0:binOp .quo t (.int .u64 (a.toNat:Int)) (.int .u64 (b.toNat:Int))=Op.intDiv .quo .u64 (a.toNat:Int) (b.toNat:Int):=by simp [binOp]
  rw [e0]
  unfold Op.intDiv
  rw [if_neg e]
  simp only [Sem.run_pure,e1,e2]) hn h
theorem op_remU {a b:UInt64} (s:NxF P n l E L Ls ⟨some d,.binOp .rem t x y t',ty,pos,aft,g⟩ X Y) (hx:ev l x=some (.int .u64 (a.toNat:Int))) (hy:ev l y=some (.int .u64 (b.toNat:Int))) (hb:b.toNat≠0) (hn:Nat.ble (d+1) n=true) (h:At n ((d,.int .u64 ((a % b).toNat:Int))::l) E L Y):At n l E L X:=
 op_rem s hx hy (by omega) (by omega) hn (by
  rw [show(a.toNat:Int) % b.toNat=((a % b).toNat:Int)from by rw [UInt64.toNat_mod];simp]
  exact h)
theorem op_copyB {cs ys:List Value} {dl dc m cap':Nat} {ao':Option Addr} (s:Nx P n l E L ⟨some d,.call ⟨.builtin .copy, #[x,y], #[t,t2]⟩,ty,pos,aft,g⟩ X Y) (ht:selt P t=some (e,1))
 (hx:ev l x=some (.slice (some ⟨b,off,none⟩) dl dc)) (hy:ev l y=some (.slice ao' m cap')) (hb:Blk N b e2 cs) (hs:RSl M 1 ao' m cap' ys) (hM:M∈L) (h1: ∀u∈ys,u.oneCell'=true) (hfit:off+min m dl≤cs.length) (sel:L.Perm (N::L1)) (hn:Nat.ble (d+1) n=true)
 (h: ∀N',Blk N' b e2 (cs.take off++ys.take (min m dl)++cs.drop (off+min m dl))→At n ((d,.int .i64 ((min m dl:Nat):Int))::l) E (N'::L1) Y):At n l E L X:=by
 obtain⟨hu,i,hi,hsz⟩:=selt_spec ht
 have hlen:ys.length=m:=hs.len
 refine op_upd s (fun v L'=> ∃N',v=.int .i64 ((min m dl:Nat):Int)∧L'=N'::L1∧Blk N' b e2 (cs.take off++ys.take (min m dl)++cs.drop (off+min m dl))) (fun a w hf hw=>?_) rfl hn (fun v L' ⟨N',e1,e2,hb'⟩=>by subst e1 e2;exact h N' hb')
 have hw2:=hw.perm sel
 have hheap:=hw2.sub N (List.mem_cons_self ..) _ _ hb
 have hres: ∀u w',(Builtin.copy_ #[t,t2] ty #[.slice (some ⟨b,off,none⟩) dl dc,.slice ao' m cap']).run P w=.ok u w'→(execOp a.eval ⟨some d,.call ⟨.builtin .copy, #[x,y], #[t,t2]⟩,ty,pos,aft,g⟩).run P w=.ok (.value u) w':=fun u w' hr=>by
  simp only [execOp,resolve,invoke,builtin,Sem.run_bind,Sem.run_pure,Result.andThen_ok,List.map_toArray,List.map_cons,List.map_nil,hf.eval hx,hf.eval hy,hr]
 by_cases h0:min m dl=0
 ·have hr:=run_copy_none (P:=P) w t t2 ty e (some ⟨b,off,none⟩) ao' dl dc m cap' hu (by rw [hi];simp [hsz]) h0
  refine⟨_,w,N::L1,hres _ _ hr,hw2,N,by rw [h0];rfl,rfl,?_⟩
  rw [h0,List.take_zero,List.append_nil,Nat.add_zero,List.take_append_drop];exact hb
 ·obtain⟨b',off',rfl,hr'⟩:=hs.2.2.2 (by omega)
  have hsrc: ∀j v,(ys.take (min m dl))[j]? =some v→w.cell? ((⟨b',off',none⟩:Addr).add j)=some v:=fun j v hj=>by
   rw [List.getElem?_take]at hj
   split at hj
   ·obtain⟨hlt,rfl⟩:=List.getElem?_eq_some_iff.1 hj
    rw [addr_add];exact hw.cell hM (hr' j hlt)
   ·cases hj
  have hlt:(ys.take (min m dl)).length=min m dl:=by rw [List.length_take];omega
  have hr:=run_copy_row (P:=P) w t t2 ty e b off dl dc ⟨b',off',none⟩ m cap' cs.toArray e2 (ys.take (min m dl)) hu (by rw [hi];simp [hsz]) hheap (by rw [hlt]) hsrc (by rw [hlt];simpa using hfit) (fun u hu=>h1 u (List.mem_of_mem_take hu))
  rw [hlt]at hr
  refine⟨_,_,upd N b (.cells (cs.take off++ys.take (min m dl)++cs.drop (off+min m dl)).toArray e2 (0,0))::L1,hres _ _ hr,(hw2.put hb rfl rfl rfl ?_ (fun k hk _=>?_)),_,rfl,rfl,upd_self _ _ _⟩
  ·have:=setRow_heap w b cs.toArray (cs.take off++ys.take (min m dl)++cs.drop (off+min m dl)).toArray e2 (0,0) hheap
   simpa using this
  ·simp only [World.setRow,Array.getElem?_modify,if_neg (Ne.symm hk)]
theorem op_copyR {xs ys:List Value} {dl dc m cap':Nat} {ao ao':Option Addr} (s:Nx P n l E L ⟨some d,.call ⟨.builtin .copy, #[x,y], #[t,t2]⟩,ty,pos,aft,g⟩ X Y) (ht:selt P t=some (e,1))
 (hx:ev l x=some (.slice ao dl dc)) (hy:ev l y=some (.slice ao' m cap')) (hb:Row N e2 1 ao dl dc xs) (hs:RSl M 1 ao' m cap' ys) (hM:M∈L) (h1: ∀u∈ys,u.oneCell'=true) (sel:L.Perm (N::L1)) (hn:Nat.ble (d+1) n=true)
 (h: ∀N',Row N' e2 1 ao dl dc (ys.take (min m dl)++xs.drop (min m dl))→At n ((d,.int .i64 ((min m dl:Nat):Int))::l) E (N'::L1) Y):At n l E L X:=by
 obtain⟨hu,i,hi,hsz⟩:=selt_spec ht
 have hlen:ys.length=m:=hs.len
 have hxl:xs.length=dl:=hb.rsl.len
 refine op_upd s (fun v L'=> ∃N',v=.int .i64 ((min m dl:Nat):Int)∧L'=N'::L1∧Row N' e2 1 ao dl dc (ys.take (min m dl)++xs.drop (min m dl))) (fun a w hf hw=>?_) rfl hn (fun v L' ⟨N',e1,e2,hb'⟩=>by subst e1 e2;exact h N' hb')
 have hw2:=hw.perm sel
 have hres: ∀u w',(Builtin.copy_ #[t,t2] ty #[.slice ao dl dc,.slice ao' m cap']).run P w=.ok u w'→(execOp a.eval ⟨some d,.call ⟨.builtin .copy, #[x,y], #[t,t2]⟩,ty,pos,aft,g⟩).run P w=.ok (.value u) w':=fun u w' hr=>by
  simp only [execOp,resolve,invoke,builtin,Sem.run_bind,Sem.run_pure,Result.andThen_ok,List.map_toArray,List.map_cons,List.map_nil,hf.eval hx,hf.eval hy,hr]
 by_cases h0:min m dl=0
 ·have hr:=run_copy_none (P:=P) w t t2 ty e ao ao' dl dc m cap' hu (by rw [hi];simp [hsz]) h0
  refine⟨_,w,N::L1,hres _ _ hr,hw2,N,by rw [h0];rfl,rfl,?_⟩
  rw [h0,List.take_zero,List.nil_append,List.drop_zero];exact hb
 ·obtain⟨b',off',rfl,hr'⟩:=hs.2.2.2 (by omega)
  obtain⟨r1,r2,r3,r4⟩:=hb
  rcases r4 with ⟨_,h5,_⟩|⟨b,cur,rfl,hN,hcs,htk⟩
  ·omega
  have hheap:=hw2.sub N (List.mem_cons_self ..) _ _ hN
  have hsrc: ∀j v,(ys.take (min m dl))[j]? =some v→w.cell? ((⟨b',off',none⟩:Addr).add j)=some v:=fun j v hj=>by
   rw [List.getElem?_take]at hj
   split at hj
   ·obtain⟨hlt,rfl⟩:=List.getElem?_eq_some_iff.1 hj
    rw [addr_add];exact hw.cell hM (hr' j hlt)
   ·cases hj
  have hlt:(ys.take (min m dl)).length=min m dl:=by rw [List.length_take];omega
  have hr:=run_copy_row (P:=P) w t t2 ty e b 0 dl dc ⟨b',off',none⟩ m cap' cur e2 (ys.take (min m dl)) hu (by rw [hi];simp [hsz]) hheap (by rw [hlt]) hsrc (by rw [hlt,hcs];omega) (fun u hu=>h1 u (List.mem_of_mem_take hu))
  rw [hlt,List.take_zero,List.nil_append,Nat.zero_add]at hr
  have hcl:cur.toList.length=dc:=by simpa using hcs
  refine⟨_,_,upd N b (.cells (ys.take (min m dl)++cur.toList.drop (min m dl)).toArray e2 (0,0))::L1,hres _ _ hr,?_,_,rfl,rfl,⟨by simp;omega,r2,r3,.inr ⟨b,_,rfl,upd_self _ _ _,by simp;omega,?_⟩⟩⟩
  ·refine hw2.put hN U U U ?_ (fun k hk _=>?_)
   ·exact setRow_heap w b cur (ys.take (min m dl)++cur.toList.drop (min m dl)).toArray e2 (0,0) hheap
   ·simp only [World.setRow,Array.getElem?_modify,if_neg (Ne.symm hk)]
  ·rw [←htk,Nat.mul_one,List.take_append,hlt,List.take_of_length_le (by omega:(ys.take (min m dl)).length≤dl),List.drop_take]
theorem op_ext {f:FuncId} {xs:List Operand} {args:List Value} {ats:Array TypeId} (s:NxA P n l E L ⟨some d,.call ⟨.value (.func f),xs.toArray,ats⟩,ty,pos,aft,g⟩ X Y)
 (ha:Evs l xs args) (hr: ∀w,(callFunc f args.toArray).run P w=.ok (.value v) w) (hn:Nat.ble (d+1) n=true) (h:At n ((d,v)::l) E L Y):At n l E L X:=fun a w hf hw=>by
 refine s a w hf hw ?_
 unfold Oper.wp
 have hrun:(execOp a.eval ⟨some d,.call ⟨.value (.func f),xs.toArray,ats⟩,ty,pos,aft,g⟩).run P w=.ok (.value v) w:=by
  have he:a.eval (.func f)=.func (.func f) #[] #[]:=rfl
  simp only [execOp,resolve,invoke,Sem.run_bind,Sem.run_pure,Result.andThen_ok,List.map_toArray,ha.map hf,he,Deferred.ofValue,Array.empty_append,Array.append_empty,hr]
 rw [hrun]
 exact⟨fun _ _=>rfl,h _ _ (hf.put (Nat.le_of_ble_eq_true hn)) hw⟩
inductive Cps (l:List (Nat×Value)):List Operand→List Value→Prop
 |nil:Cps l [] []
 |cons {x:Operand} {v:Value} {xs:List Operand} {vs:List Value} (h:ev l x=some v) (k:Cps l xs vs):Cps l (x::xs) (v::vs)
theorem Cps.map {xs:List Operand} {vs:List Value} (h:Cps l xs vs) {ds:List Deferred} {a:Act} (hf:Fr ds n l a):xs.map a.eval=vs:=by
 induction h with
 |nil=>rfl
 |cons hx _ ih=>rw [List.map_cons,hf.eval hx,ih]
end
def addS (x y c:UInt64):UInt64:=UInt64.ofNat ((x.toNat+y.toNat+c.toNat) % 2^64)
def addC (x y c:UInt64):UInt64:=UInt64.ofNat ((x.toNat+y.toNat+c.toNat)/2^64)
theorem addS_nat (x y c:UInt64):(addS x y c).toNat=(x.toNat+y.toNat+c.toNat) % 2^64:=by rw [addS,UInt64.toNat_ofNat',Nat.mod_mod]
theorem addC_nat (x y c:UInt64) (hc:c.toNat≤1):(addC x y c).toNat=(x.toNat+y.toNat+c.toNat)/2^64:=by
 have hx:=x.toNat_lt
 have hy:=y.toNat_lt
 rw [addC,UInt64.toNat_ofNat',Nat.mod_eq_of_lt]
 omega
theorem add64_law (x y c:UInt64) (hc:c.toNat≤1):(addS x y c).toNat+(addC x y c).toNat*2^64=x.toNat+y.toNat+c.toNat∧(addC x y c).toNat≤1:=by
 have hx:=x.toNat_lt
 have hy:=y.toNat_lt
 rw [addS_nat,addC_nat _ _ _ hc]
 constructor<;>omega
def subS (x y c:UInt64):UInt64:=UInt64.ofNat ((x.toNat+2^64- y.toNat- c.toNat) % 2^64)
def subC (x y c:UInt64):UInt64:=if x.toNat<y.toNat+c.toNat then 1 else 0
theorem subS_nat (x y c:UInt64):(subS x y c).toNat=(x.toNat+2^64- y.toNat- c.toNat) % 2^64:=by rw [subS,UInt64.toNat_ofNat',Nat.mod_mod]
theorem subC_nat (x y c:UInt64):(subC x y c).toNat=if x.toNat<y.toNat+c.toNat then 1 else 0:=by
 unfold subC;split<;>rfl
theorem sub64_law (x y c:UInt64) (hc:c.toNat≤1):(subS x y c).toNat+y.toNat+c.toNat=x.toNat+(subC x y c).toNat*2^64∧(subC x y c).toNat≤1:=by
 have hx:=x.toNat_lt
 have hy:=y.toNat_lt
 rw [subS_nat,subC_nat]
 split<;>constructor<;>omega
def mulH (x y:UInt64):UInt64:=UInt64.ofNat (x.toNat*y.toNat/2^64)
theorem mul_lt64 (x y:UInt64):x.toNat*y.toNat<2^64*2^64:=Nat.mul_lt_mul'' x.toNat_lt y.toNat_lt
theorem mul64_law (x y:UInt64):(mulH x y).toNat*2^64+(x*y).toNat=x.toNat*y.toNat:=by
 have h:=mul_lt64 x y
 rw [mulH,UInt64.toNat_ofNat',UInt64.toNat_mul,Nat.mod_eq_of_lt (Nat.div_lt_of_lt_mul h)]
 exact Nat.div_add_mod' _ _
theorem mulH_eq (x y:UInt64):
 shr64 x 32*shr64 y 32+shr64 (shr64 x 32*(y&&&4294967295)+shr64 ((x&&&4294967295)*(y&&&4294967295)) 32) 32+
  shr64 ((shr64 x 32*(y&&&4294967295)+shr64 ((x&&&4294967295)*(y&&&4294967295)) 32&&&4294967295)+(x&&&4294967295)*shr64 y 32) 32=mulH x y:=by
 have hx:=x.toNat_lt
 have hy:=y.toNat_lt
 obtain⟨h1,h2,h3,h4⟩:=Lib.mul64_hi x.toNat y.toNat hx hy
 have hand: ∀z:UInt64,(z&&&4294967295).toNat=z.toNat % 4294967296:=fun z=>by
  rw [UInt64.toNat_and];exact Nat.and_two_pow_sub_one_eq_mod z.toNat 32
 have hshr: ∀z:UInt64,(shr64 z 32).toNat=z.toNat/4294967296:=fun z=>by
  rw [shr64,UInt64.toNat_ofNat'];have:=z.toNat_lt;omega
 apply UInt64.toNat_inj.1
 have hm:(mulH x y).toNat=x.toNat*y.toNat/18446744073709551616:=by
  have h:=mul_lt64 x y
  rw [mulH,UInt64.toNat_ofNat',Nat.mod_eq_of_lt (Nat.div_lt_of_lt_mul h)]
 have hm2:=(mulH x y).toNat_lt
 rw [hm]at hm2⊢
 simp only [UInt64.toNat_add,UInt64.toNat_mul,hand,hshr]
 rw [←h4]at hm2⊢
 rw [Nat.mod_eq_of_lt h1]
 have p1:=Lib.half_mul_le (a:=x.toNat/4294967296) (b:=y.toNat/4294967296) (by omega) (by omega)
 have p2:=Lib.half_mul_le (a:=x.toNat/4294967296) (b:=y.toNat % 4294967296) (by omega) (by omega)
 have p3:=Lib.half_mul_le (a:=x.toNat % 4294967296) (b:=y.toNat/4294967296) (by omega) (by omega)
 have p4:=Lib.half_mul_le (a:=x.toNat % 4294967296) (b:=y.toNat % 4294967296) (by omega) (by omega)
 generalize x.toNat/4294967296*(y.toNat/4294967296)=a at*
 generalize x.toNat/4294967296*(y.toNat % 4294967296)=b at*
 generalize x.toNat % 4294967296*(y.toNat/4294967296)=c at*
 generalize x.toNat % 4294967296*(y.toNat % 4294967296)=d at*
 omega
def DInv (R u1 y1 y0 q rh:Nat):Prop:=rh+q*y1=R∧rh*4294967296+u1<q*y0+y1*4294967296+y0∧q≤4294967297
theorem d_start {R u1 y1 y0:Nat} (hR:R<y1*4294967296+y0) (h1:2147483648≤y1) (h0:y0<4294967296) (hu:u1<4294967296):DInv R u1 y1 y0 (R/y1) (R- R/y1*y1):=by
 have hy:0<y1:=by omega
 have e:=Nat.div_add_mod R y1
 have hm:=Nat.mod_lt R hy
 have hq:R/y1≤4294967297:=by
  rw [Nat.div_le_iff_le_mul_add_pred hy];omega
 rw [Nat.mul_comm]at e
 have hrh:R- R/y1*y1=R % y1:=by omega
 rw [hrh]
 refine⟨by omega,?_,hq⟩
 have:R % y1*4294967296+4294967296≤y1*4294967296:=by
  have:=Nat.mul_le_mul_right 4294967296 (show R % y1+1≤y1 by omega)
  omega
 omega
theorem d_gt {R u1 y1 y0 q rh:Nat} (h:DInv R u1 y1 y0 q rh) (hR:R<y1*4294967296+y0) (hu:u1<4294967296) (hq:4294967296≤q):rh*4294967296+u1<q*y0:=by
 obtain⟨a,b,c⟩:=h
 have h1:R*4294967296+4294967296≤(y1*4294967296+y0)*4294967296:=by
  have:=Nat.mul_le_mul_right 4294967296 (show R+1≤y1*4294967296+y0 by omega)
  omega
 have h2:(y1*4294967296+y0)*4294967296≤q*(y1*4294967296+y0):=by
  rw [Nat.mul_comm];exact Nat.mul_le_mul_right _ hq
 rw [Nat.mul_add, ←Nat.mul_assoc]at h2
 have h3:R*4294967296=rh*4294967296+q*y1*4294967296:=by rw [←a,Nat.add_mul]
 omega
theorem more_nat {A Z u1 S y0:Nat} (h:A+u1<S+y0):A+Z+u1<S+Z+y0:=by omega
theorem d_more {R u1 y1 y0 q rh:Nat} (h:DInv R u1 y1 y0 q rh) (hgt:rh*4294967296+u1<q*y0):0<q∧DInv R u1 y1 y0 (q- 1) (rh+y1)∧q- 1≤4294967296:=by
 obtain⟨a,b,c⟩:=h
 have hq:0<q:=by
  rcases Nat.eq_zero_or_pos q with h|h
  ·rw [h,Nat.zero_mul]at hgt;omega
  ·exact h
 obtain⟨p,rfl⟩: ∃p,q=p+1:=⟨q- 1,by omega⟩
 rw [Nat.add_sub_cancel]
 rw [Nat.add_mul,Nat.one_mul]at a b hgt
 refine⟨hq,⟨by omega,?_,by omega⟩,by omega⟩
 rw [Nat.add_mul]
 exact more_nat hgt
theorem d_at {R u1 y1 y0 q rh:Nat} (h:DInv R u1 y1 y0 q rh) (hle:q*y0≤rh*4294967296+u1) (hy:0<y1):q=(R*4294967296+u1)/ (y1*4294967296+y0):=by
 obtain⟨a,b,c⟩:=h
 have h3:R*4294967296=rh*4294967296+q*y1*4294967296:=by rw [←a,Nat.add_mul]
 symm
 rw [Nat.div_eq_iff (by omega)]
 rw [Nat.mul_add, ←Nat.mul_assoc]
 omega
theorem d_brk {R u1 y1 y0 q rh:Nat} (h:DInv R u1 y1 y0 q rh) (hq:q≤4294967296) (hrh:4294967296≤rh) (h0:y0<4294967296) (hy:0<y1):q=(R*4294967296+u1)/ (y1*4294967296+y0):=by
 refine d_at h ?_ hy
 have h1:q*y0≤4294967296*y0:=Nat.mul_le_mul_right _ hq
 have h2:4294967296*y0≤rh*4294967296:=by rw [Nat.mul_comm];exact Nat.mul_le_mul_right _ (by omega)
 exact Nat.le_trans (Nat.le_trans h1 h2) (Nat.le_add_right _ _)
theorem add_rot (a b c:Nat):a+b+c=b+c+a:=by omega
theorem d_two0 {T u0 Y:Nat} (hY:0<Y):
 (T/Y*4294967296+(T % Y*4294967296+u0)/Y)=(T*4294967296+u0)/Y∧(T % Y*4294967296+u0) % Y=(T*4294967296+u0) % Y:=by
 have e:=Nat.div_add_mod T Y
 have e2:T*4294967296+u0=(T % Y*4294967296+u0)+Y*(T/Y*4294967296):=by
  conv=>lhs;rw [←e]
  rw [Nat.add_mul,Nat.mul_assoc];exact add_rot _ _ _
 constructor
 ·rw [e2,Nat.add_mul_div_left _ _ hY,Nat.add_comm]
 ·rw [e2,Nat.add_mul_mod_self_left]
theorem d_two {R u1 u0 Y:Nat} (hY:0<Y):
 ((R*4294967296+u1)/Y*4294967296+((R*4294967296+u1) % Y*4294967296+u0)/Y)=((R*4294967296+u1)*4294967296+u0)/Y∧
 ((R*4294967296+u1) % Y*4294967296+u0) % Y=((R*4294967296+u1)*4294967296+u0) % Y:=d_two0 hY
theorem d_low {T Y q B:Nat} (hq:q=T/Y) (hY:0<Y) (hB:Y≤B) (a b:Nat) (ha:a % B=T % B) (hb:b % B=q*Y % B):(B+a % B- b % B) % B=T % Y:=by
 have e:=Nat.div_add_mod T Y
 have hm:=Nat.mod_lt T hY
 rw [ha,hb]
 have e2:T=T % Y+q*Y:=by rw [hq,Nat.mul_comm];omega
 have hB0:0<B:=by omega
 have h1:=Nat.mod_lt (q*Y) hB0
 generalize hr:T % Y=r at*
 rw [e2]
 have e3:(r+q*Y) % B=(r+q*Y % B) % B:=by rw [Nat.add_mod_mod]
 rw [e3]
 generalize q*Y % B=c at*
 by_cases hc:r+c<B
 ·rw [Nat.mod_eq_of_lt hc,show B+(r+c)- c=r+B by omega,Nat.add_mod_right,Nat.mod_eq_of_lt (by omega)]
 ·rw [Nat.mod_eq_sub_mod (show r+c≥B by omega),Nat.mod_eq_of_lt (show r+c- B<B by omega),show B+(r+c- B)- c=r by omega,Nat.mod_eq_of_lt (by omega)]
def fromStep (l:List UInt8) (k:Nat) (a:List UInt64):List UInt64:=
 a.set ((l.length- 1- k)/8) (a.getD ((l.length- 1- k)/8) 0 |||(UInt64.ofNat ((l.getD k 0).toNat*2^((l.length- 1- k) % 8*8))))
def fromSt (l:List UInt8):Nat→List UInt64
 |0=>List.replicate ((l.length+7)/8) 0
 |k+1=>fromStep l k (fromSt l k)
theorem length_fromSt (l:List UInt8) (k:Nat):(fromSt l k).length=(l.length+7)/8:=by
 induction k with
 |zero=>simp [fromSt]
 |succ k ih=>simp [fromSt,fromStep,ih]
theorem v64_set {a:List UInt64} {i:Nat} {y:UInt64} (h:i<a.length):v64 (a.set i y)+a[i].toNat*2^(64*i)=v64 a+y.toNat*2^(64*i):=by
 have:=val_set (2^64) (n64 a) i y.toNat (by simpa using h)
 simp only [v64,n64,List.map_set,List.getElem_map]at this⊢
 rw [←Nat.pow_mul]at this
 exact this
theorem limb_v64 {a:List UInt64} {i:Nat} (h:i<a.length):v64 a/2^(64*i) % 2^64=a[i].toNat:=by
 have:=val_div_mod (B:=2^64) (by decide) (n64_lt a) i (by simpa using h)
 rw [←Nat.pow_mul]at this
 simpa [v64,n64]using this
theorem be_take_succ (l:List UInt8) (k:Nat) (h:k<l.length):be (l.take (k+1))=be (l.take k)*256+l[k].toNat:=by
 rw [List.take_succ_eq_append_getElem h,be_snoc]
theorem v64_fromSt (l:List UInt8) (k:Nat) (hk:k≤l.length):v64 (fromSt l k)=be (l.take k)*256^(l.length- k):=by
 induction k with
 |zero=>simp [fromSt,v64_replicate,be]
 |succ k ih=>
  have hlt:k<l.length:=by omega
  have ih:=ih (by omega)
  have hat:(l.length- 1- k)/8<(fromSt l k).length:=by rw [length_fromSt];omega
  have hs:=v64_set (a:=fromSt l k) (i:=(l.length- 1- k)/8) (y:=(fromSt l k)[(l.length- 1- k)/8]|||UInt64.ofNat (l[k].toNat*2^((l.length- 1- k) % 8*8))) hat
  have hd:fromSt l (k+1)=(fromSt l k).set ((l.length- 1- k)/8) ((fromSt l k)[(l.length- 1- k)/8]|||UInt64.ofNat (l[k].toNat*2^((l.length- 1- k) % 8*8))):=by
   simp [fromSt,fromStep,hat,hlt]
  rw [←hd]at hs
  have hx:=l[k].toNat_lt
  have hlimb:=limb_v64 hat
  generalize hq:(fromSt l k)[(l.length- 1- k)/8]=L at hs hlimb
  -- the exponent of the byte
  obtain⟨q,r,hqr,hr⟩: ∃q r,l.length- 1- k=8*q+r∧r<8:=⟨(l.length- 1- k)/8,(l.length- 1- k) % 8,by omega,Nat.mod_lt _ (by decide)⟩
  have e1:(l.length- 1- k)/8=q:=by omega
  have e2:(l.length- 1- k) % 8=r:=by omega
  rw [e1]at hs hlimb
  rw [e2]at hs
  have e3:l.length- k=8*q+r+1:=by omega
  have e4:l.length- (k+1)=8*q+r:=by omega
  rw [e3]at ih
  rw [e4,be_take_succ l k hlt]
  have p256: ∀m:Nat,(256:Nat)^m=2^(8*m):=fun m=>by rw [show(256:Nat)=2^8 from rfl, ←Nat.pow_mul]
  rw [p256]at ih⊢
  have hdiv:L.toNat % 2^(r*8+8)=0:=by
   rw [←hlimb,ih]
   have:be (l.take k)*2^(8*(8*q+r+1))=2^(64*q)*(2^(r*8+8)*be (l.take k)):=by
    rw [←Nat.mul_assoc, ←Nat.pow_add,Nat.mul_comm];congr 2;omega
   rw [this,Nat.mul_div_cancel_left _ (Nat.pow_pos (by decide)),Nat.mod_mod_of_dvd _ (Nat.pow_dvd_pow 2 (by omega)),Nat.mul_mod_right]
  have hc:l[k].toNat*2^(r*8)<2^(r*8+8):=by
   rw [Nat.pow_add,Nat.mul_comm]
   exact Nat.mul_lt_mul_of_pos_left hx (Nat.pow_pos (by decide))
  have hc64:l[k].toNat*2^(r*8)<2^64:=Nat.lt_of_lt_of_le hc (Nat.pow_le_pow_right (by decide) (by omega))
  have hor:(L |||UInt64.ofNat (l[k].toNat*2^(r*8))).toNat=L.toNat+l[k].toNat*2^(r*8):=by
   rw [UInt64.toNat_or,UInt64.toNat_ofNat',Nat.mod_eq_of_lt hc64]
   exact nat_join _ _ _ hdiv hc
  rw [hor,ih,Nat.add_mul]at hs
  have h5:l[k].toNat*2^(r*8)*2^(64*q)=l[k].toNat*2^(8*(8*q+r)):=by
   rw [Nat.mul_assoc, ←Nat.pow_add];congr 2;omega
  have h6:be (l.take k)*2^(8*(8*q+r+1))=be (l.take k)*256*2^(8*(8*q+r)):=by
   rw [Nat.mul_assoc,show(256:Nat)=2^8 from rfl, ←Nat.pow_add];congr 2;omega
  rw [h5,h6]at hs
  rw [Nat.add_mul]
  omega
theorem fromSt_all (l:List UInt8):v64 (fromSt l l.length)=be l:=by
 rw [v64_fromSt l l.length (Nat.le_refl _)];simp
def n32 (l:List UInt32):List Nat:=l.map UInt32.toNat
def v32 (l:List UInt32):Nat:=val (2^32) (n32 l)
theorem n32_lt (l:List UInt32): ∀x∈n32 l,x<2^32:=by
 intro x hx;obtain⟨y,_,rfl⟩:=List.mem_map.1 hx;exact y.toNat_lt
theorem n32_inj {a b:List UInt32} (h:n32 a=n32 b):a=b:=List.map_inj_right (fun x y e=>UInt32.toNat_inj.1 e)|>.1 h
@[simp] theorem length_n32 (l:List UInt32):(n32 l).length=l.length:=by simp [n32]
theorem v32_lt (l:List UInt32):v32 l<2^(32*l.length):=by
 have:=val_lt (B:=2^32) (by decide) (n32_lt l)
 rw [length_n32, ←Nat.pow_mul]at this
 exact this
def digsN (k N:Nat):List UInt32:=(List.range k).map fun i=>UInt32.ofNat (N/2^(32*i))
@[simp] theorem length_digsN (k N:Nat):(digsN k N).length=k:=by simp [digsN]
theorem n32_digsN (k N:Nat):n32 (digsN k N)=dig (2^32) k N:=by
 simp only [n32,digsN,dig,List.map_map]
 apply List.map_congr_left
 intro i _
 show(UInt32.ofNat (N/2^(32*i))).toNat=_
 rw [UInt32.toNat_ofNat',Nat.pow_mul]
theorem v32_digsN (k N:Nat):v32 (digsN k N)=N % 2^(32*k):=by rw [v32,n32_digsN,val_dig, ←Nat.pow_mul]
theorem digsN_v32 (l:List UInt32):digsN l.length (v32 l)=l:=by
 apply n32_inj;rw [n32_digsN,v32, ←length_n32,dig_val (by decide) (n32_lt l)]
theorem eq_digsN {l:List UInt32} {k N:Nat} (hl:l.length=k) (h:v32 l=N):l=digsN k N:=by rw [←hl, ←h,digsN_v32]
def digsOf (N:Nat):List UInt32:=digsN ((bitLen N+31)/32) N
theorem digLen_le {N k:Nat} :(bitLen N+31)/32≤k↔N<2^(32*k):=by
 rw [←bitLen_le];omega
theorem v32_digsOf (N:Nat):v32 (digsOf N)=N:=by
 rw [digsOf,v32_digsN];exact Nat.mod_eq_of_lt (digLen_le.1 (Nat.le_refl _))
theorem length_digsOf (N:Nat):(digsOf N).length=(bitLen N+31)/32:=by simp [digsOf]
theorem v32_append (a b:List UInt32):v32 (a++b)=v32 a+2^(32*a.length)*v32 b:=by
 simp only [v32,n32,List.map_append,val_append,List.length_map, ←Nat.pow_mul]
theorem v32_replicate (n:Nat):v32 (List.replicate n 0)=0:=by simp [v32,n32,val_replicate]
theorem trim_eq32 {l:List UInt32} {k:Nat} (hk:k≤l.length) (hz: ∀i (h:i<l.length),k≤i→l[i]=0) (hl:k=0∨ ∃h:k- 1<l.length,l[k- 1]≠0):l.take k=digsOf (v32 l):=by
 have hd:l.drop k=List.replicate (l.length- k) 0:=by
  apply List.ext_getElem (by simp)
  intro i h1 h2
  simp only [List.length_drop]at h1
  simp only [List.getElem_drop,List.getElem_replicate]
  exact hz (k+i) (by omega) (by omega)
 have hv:v32 l=v32 (l.take k):=by
  conv=>lhs;rw [←List.take_append_drop k l]
  rw [v32_append,hd,v32_replicate];simp
 have hlen:(l.take k).length=k:=by simp;omega
 refine eq_digsN ?_ hv.symm
 rw [hlen]
 have h1:v32 l<2^(32*k):=by rw [hv];have:=v32_lt (l.take k);rwa [hlen]at this
 have h2:=digLen_le.2 h1
 rcases hl with rfl|⟨hlt,hne⟩
 ·omega
 ·by_cases hc:(bitLen (v32 l)+31)/32≤k- 1
  ·exfalso
   have h3:=digLen_le.1 hc
   have h4:=val_div_mod (B:=2^32) (by decide) (n32_lt l) (k- 1) (by simpa using hlt)
   have h5:val (2^32) (n32 l)/ (2^32)^(k- 1)=0:=by
    rw [←Nat.pow_mul];exact Nat.div_eq_of_lt h3
   rw [h5]at h4
   simp [n32]at h4
   exact hne (by rw [←UInt32.toNat_inj];simpa using h4.symm)
  ·by_cases h0:k=0
   ·omega
   ·omega
theorem v32_set {a:List UInt32} {i:Nat} {y:UInt32} (h:i<a.length):v32 (a.set i y)+a[i].toNat*2^(32*i)=v32 a+y.toNat*2^(32*i):=by
 have:=val_set (2^32) (n32 a) i y.toNat (by simpa using h)
 simp only [v32,n32,List.map_set,List.getElem_map]at this⊢
 rw [←Nat.pow_mul]at this
 exact this
theorem dig_v32 {a:List UInt32} {i:Nat} (h:i<a.length):v32 a/2^(32*i) % 2^32=a[i].toNat:=by
 have:=val_div_mod (B:=2^32) (by decide) (n32_lt a) i (by simpa using h)
 rw [←Nat.pow_mul]at this
 simpa [v32,n32]using this
def rfromStep (l:List UInt8) (i:Nat) (a:List UInt32):List UInt32:=
 a.set (i/4) (a.getD (i/4) 0 |||(UInt32.ofNat ((l.getD (l.length- 1- i) 0).toNat*2^(8*(i % 4)))))
def rfromSt (l:List UInt8):Nat→List UInt32
 |0=>List.replicate ((l.length+3)/4) 0
 |k+1=>rfromStep l k (rfromSt l k)
theorem length_rfromSt (l:List UInt8) (k:Nat):(rfromSt l k).length=(l.length+3)/4:=by
 induction k with
 |zero=>simp [rfromSt]
 |succ k ih=>simp [rfromSt,rfromStep,ih]
theorem v32_rfromSt (l:List UInt8) (k:Nat) (hk:k≤l.length):v32 (rfromSt l k)=be (l.drop (l.length- k)):=by
 induction k with
 |zero=>simp [rfromSt,v32_replicate,be]
 |succ k ih=>
  have ih:=ih (by omega)
  have hat:k/4<(rfromSt l k).length:=by rw [length_rfromSt];omega
  have hlt:l.length- 1- k<l.length:=by omega
  have hs:=v32_set (a:=rfromSt l k) (i:=k/4) (y:=(rfromSt l k)[k/4]|||UInt32.ofNat (l[l.length- 1- k].toNat*2^(8*(k % 4)))) hat
  have hd:rfromSt l (k+1)=(rfromSt l k).set (k/4) ((rfromSt l k)[k/4]|||UInt32.ofNat (l[l.length- 1- k].toNat*2^(8*(k % 4)))):=by
   simp [rfromSt,rfromStep,hat,hlt]
  rw [←hd]at hs
  have hx:=l[l.length- 1- k].toNat_lt
  have hdig:=dig_v32 hat
  generalize hq:(rfromSt l k)[k/4]=L at hs hdig
  have hdr:l.drop (l.length- (k+1))=l[l.length- 1- k]::l.drop (l.length- k):=by
   rw [show l.length- (k+1)=l.length- 1- k from by omega,List.drop_eq_getElem_cons hlt]
   congr 2;omega
  have hlen:(l.drop (l.length- k)).length=k:=by simp;omega
  have hv:v32 (rfromSt l k)<2^(8*k):=by
   rw [ih,show(2:Nat)^(8*k)=256^k from by rw [show(256:Nat)=2^8 from rfl, ←Nat.pow_mul]]
   have:=be_lt (l.drop (l.length- k));rwa [hlen]at this
  rw [hdr,be_cons,hlen, ←ih]
  obtain⟨q,r,hqr,hr⟩: ∃q r,k=4*q+r∧r<4:=⟨k/4,k % 4,by omega,Nat.mod_lt _ (by decide)⟩
  have e1:k/4=q:=by omega
  have e2:k % 4=r:=by omega
  rw [e1]at hs hdig
  rw [e2]at hs
  have hL:L.toNat<2^(8*r):=by
   rw [←hdig]
   refine Nat.lt_of_le_of_lt (Nat.mod_le _ _) ?_
   rw [Nat.div_lt_iff_lt_mul (Nat.pow_pos (by decide)), ←Nat.pow_add]
   rwa [show 8*r+32*q=8*k from by omega]
  have hc:l[l.length- 1- k].toNat*2^(8*r)<2^32:=by
   refine Nat.lt_of_lt_of_le (Nat.mul_lt_mul_of_pos_right hx (Nat.pow_pos (by decide))) ?_
   rw [show(2:Nat)^8*2^(8*r)=2^(8+8*r)from by rw [←Nat.pow_add]]
   exact Nat.pow_le_pow_right (by decide) (by omega)
  have hor:(L |||UInt32.ofNat (l[l.length- 1- k].toNat*2^(8*r))).toNat=L.toNat+l[l.length- 1- k].toNat*2^(8*r):=by
   rw [UInt32.toNat_or,UInt32.toNat_ofNat',Nat.mod_eq_of_lt hc,Nat.or_comm,nat_join (8*r) _ _ (Nat.mul_mod_left _ _) hL,Nat.add_comm]
  rw [hor,Nat.add_mul,Nat.mul_assoc, ←Nat.pow_add,show 8*r+32*q=8*k from by omega]at hs
  have e256:(256:Nat)^k=2^(8*k):=by rw [show(256:Nat)=2^8 from rfl, ←Nat.pow_mul]
  rw [e256]
  omega
theorem rfromSt_all (l:List UInt8):v32 (rfromSt l l.length)=be l:=by
 rw [v32_rfromSt l l.length (Nat.le_refl _)];simp
theorem set_u64s (l:List UInt64) (i:Nat) (x:UInt64):(u64s l).set i (.int .u64 (x.toNat:Int))=u64s (l.set i x):=by simp [u64s,List.map_set,vl]
theorem set_u8s (l:List UInt8) (i:Nat) (x:UInt8):(u8s l).set i (.int .u8 (x.toNat:Int))=u8s (l.set i x):=by simp [u8s,List.map_set,vb]
theorem set_u32s (l:List UInt32) (i:Nat) (x:UInt32):(u32s l).set i (.int .u32 (x.toNat:Int))=u32s (l.set i x):=by simp [u32s,List.map_set,vd]
theorem zero_u64s (m:Nat):List.replicate m (Value.int .u64 0)=u64s (List.replicate m 0):=by simp [u64s,vl]
theorem zero_u8s (m:Nat):List.replicate m (Value.int .u8 0)=u8s (List.replicate m 0):=by simp [u8s,vb]
theorem zero_u32s (m:Nat):List.replicate m (Value.int .u32 0)=u32s (List.replicate m 0):=by simp [u32s,vd]
theorem ofNat_shl (x:UInt8) (m:Nat):shl64 (UInt64.ofNat x.toNat) m=UInt64.ofNat (x.toNat*2^m):=by
 unfold shl64
 rw [UInt64.toNat_ofNat',Nat.mod_eq_of_lt (by have:=x.toNat_lt;omega)]
theorem get64A {bs:List UInt64} {j:Nat} (h:j<bs.length):(u64s bs)[0+j*1]? =some (.int .u64 ((bs.getD j 0).toNat:Int)):=by rw [Nat.zero_add,Nat.mul_one];exact get64 h
theorem get8A {bs:List UInt8} {j:Nat} (h:j<bs.length):(u8s bs)[0+j*1]? =some (.int .u8 ((bs.getD j 0).toNat:Int)):=by rw [Nat.zero_add,Nat.mul_one];exact get8 h
theorem set64A (l:List UInt64) (j:Nat) (x:UInt64):setL (u64s l) (0+j*1) [.int .u64 (x.toNat:Int)]=u64s (l.set j x):=by rw [Nat.zero_add,Nat.mul_one,setL,setL,set_u64s]
theorem set8A (l:List UInt8) (j:Nat) (x:UInt8):setL (u8s l) (0+j*1) [.int .u8 (x.toNat:Int)]=u8s (l.set j x):=by rw [Nat.zero_add,Nat.mul_one,setL,setL,set_u8s]
theorem four {α:Type} {l:List α} (h:l.length=4): ∃a b c d,l= [a,b,c,d]:=by
 match l,h with
 | [a,b,c,d],_=>exact⟨a,b,c,d,rfl⟩
def wv (l:List UInt64):Value:=.agg (u64s l).toArray
theorem eq_words4 {l m:List UInt64} (hl:l.length=4) (hm:m.length=4) (h:v64 l=v64 m):l=m:=v64_inj (by omega) h
section
variable {P : Program} {n : Nat} {l : List (Nat × Value)} {E : World} {L Ls : List Heaplet} {X Y : Act → World → Prop} {d : Nat} {t ty e : TypeId} {x y : Operand}
theorem op_buildA {alen size:Nat} {parts:List (Nat×Operand)} {vs:List (Nat×Value)} {zs out:List Value} {pos:_} {aft:_} {g:_} (s:NxF P n l E L Ls ⟨some d,.build t parts.toArray,ty,pos,aft,g⟩ X Y) (hz:zer P t=some (.agg zs.toArray)) (hp:aelt P t=some (alen,e,size)) (hv:Pts l parts vs) (ho:fillL ((List.range alen).map fun i=>(i*size,size)) zs vs=some out) (hn:Nat.ble (d+1) n=true) (h:At n ((d,.agg out.toArray)::l) E L Y):At n l E L X:=
 op_val s (fun a w hf hw=>by
  obtain⟨i,hi,hiz⟩:=Option.bind_eq_some_iff.1 hz
  obtain⟨hu,j,hj,hjs⟩:=aelt_spec hp
  have hzr:(zeroValue t).run P w=.ok (.agg zs.toArray) w:=by simp [zeroValue,typeInfo,hi,hiz]
  have hfill:=fill_fillL (place:=fun i=>some (i*size,size)) (fun i o h=>by
   rw [List.getElem?_map]at h
   obtain⟨k,hk,rfl⟩:=Option.map_eq_some_iff.1 h
   obtain⟨_,rfl⟩:=List.getElem?_eq_some_iff.1 hk
   simp) vs zs out ho
  have hpv:(parts.toArray.map fun(x:Nat×Operand)=>(x.1,a.eval x.2))=vs.toArray:=by rw [List.map_toArray,hv.map hf]
  have hb:(Instr.build t vs.toArray).run P w=.ok (.agg out.toArray) w:=by
   unfold Instr.build
   rw [Sem.run_bind,hzr]
   simp only [Result.andThen_ok]
   rw [Sem.run_bind,run_underlying hu]
   simp only [Result.andThen_ok]
   rw [Sem.run_bind,run_sizeOf hj,hjs]
   simp only [Result.andThen_ok,Value.cells,hfill,Sem.run_pure]
  show((do pure (.value (←Instr.build t (parts.toArray.map fun(x:Nat×Operand)=>(x.1,a.eval x.2)))):Sem Next)).run P w=_
  rw [hpv,Sem.run_bind,hb]
  rfl) rfl hn h
theorem op_idxV {alen j:Nat} {k:IntKind} {p:Int} {v:Value} {cs:Array Value} {pos:_} {aft:_} {g:_} (s:NxF P n l E L Ls ⟨some d,.index t x y,ty,pos,aft,g⟩ X Y) (ht:aelt P t=some (alen,e,1)) (he:scal P e=true) (hx:ev l x=some (.agg cs)) (hy:ev l y=some (.int k p)) (hj:p=(j:Int)) (hlt:j<alen) (hc:cs[j]? =some v) (hn:Nat.ble (d+1) n=true) (h:At n ((d,v)::l) E L Y):At n l E L X:=by
 obtain⟨hu,i,hi,hsz⟩:=aelt_spec ht
 refine op_val s (fun a w hf hw=>?_) U hn h
 subst hj
 simp only [execOp,hf.eval hx,hf.eval hy,Instr.index,asIntOf,Sem.run_bind,Sem.run_pure,Result.andThen_ok,run_underlying hu]
 have h0:(0:Int)≤(j:Int)∧(j:Int)<(alen:Int):=by omega
 simp only [if_pos h0,Sem.run_bind,run_sizeOf hi,hsz,Result.andThen_ok,Int.toNat_natCast,Nat.mul_one]
 simp only [part,Sem.run_bind]
 rw [run_isAgg_scal he]
 simp only [Result.andThen_ok,Bool.false_eq_true,if_false,hc,Sem.run_pure]
end
theorem or_set64 {a:List UInt64} {q s w x:Nat} (hq:q<a.length) (hs:v64 a<2^(64*q+s)) (hx:x<2^w) (hw:s+w≤64):
 v64 (a.set q (a.getD q 0 |||UInt64.ofNat (x*2^s)))=v64 a+x*2^(64*q+s):=by
 have hset:=v64_set (a:=a) (i:=q) (y:=a.getD q 0 |||UInt64.ofNat (x*2^s)) hq
 have hdig:=limb_v64 hq
 have hL:a[q].toNat<2^s:=by
  rw [←hdig]
  refine Nat.lt_of_le_of_lt (Nat.mod_le _ _) ?_
  rw [Nat.div_lt_iff_lt_mul (Nat.pow_pos (by decide)), ←Nat.pow_add]
  rwa [Nat.add_comm s]
 have hc:x*2^s<2^64:=by
  refine Nat.lt_of_lt_of_le (Nat.mul_lt_mul_of_pos_right hx (Nat.pow_pos (by decide))) ?_
  rw [←Nat.pow_add]
  exact Nat.pow_le_pow_right (by decide) (by omega)
 have hor:(a.getD q 0 |||UInt64.ofNat (x*2^s)).toNat=a[q].toNat+x*2^s:=by
  rw [List.getD_eq_getElem?_getD,List.getElem?_eq_getElem hq,Option.getD_some,UInt64.toNat_or,UInt64.toNat_ofNat',Nat.mod_eq_of_lt hc,Nat.or_comm,nat_join s _ _ (Nat.mul_mod_left _ _) hL,Nat.add_comm]
 rw [hor,Nat.add_mul,Nat.mul_assoc, ←Nat.pow_add,Nat.add_comm s]at hset
 omega
theorem v32_take_succ {l:List UInt32} {k:Nat} (h:k<l.length):v32 (l.take (k+1))=v32 (l.take k)+(l.getD k 0).toNat*2^(32*k):=by
 rw [List.take_succ_eq_append_getElem h,v32_append,List.length_take,Nat.min_eq_left (by omega),List.getD_eq_getElem?_getD,List.getElem?_eq_getElem h]
 simp only [v32,n32,val,List.map_cons,List.map_nil,Option.getD_some,Nat.mul_zero,Nat.add_zero]
 rw [Nat.mul_comm (2^(32*k))]
theorem v32_take_lt (l:List UInt32) (k:Nat):v32 (l.take k)<2^(32*k):=by
 refine Nat.lt_of_lt_of_le (v32_lt _) (Nat.pow_le_pow_right (by decide) ?_)
 have:=List.length_take_le k l
 omega
theorem v32_take_mod (l:List UInt32) (k:Nat):v32 (l.take k)=v32 l % 2^(32*k):=by
 have h:=v32_take_lt l k
 by_cases hk:k≤l.length
 ·have e:v32 l=v32 (l.take k)+2^(32*k)*v32 (l.drop k):=by
   conv=>lhs;rw [←List.take_append_drop k l]
   rw [v32_append,List.length_take,Nat.min_eq_left hk]
  rw [e,Nat.add_mul_mod_self_left,Nat.mod_eq_of_lt h]
 ·rw [List.take_of_length_le (by omega)]at h⊢
  rw [Nat.mod_eq_of_lt h]
theorem w_step {m:List UInt64} {l:List UInt32} {k:Nat} (hm:m.length=4) (hv:v64 m=v32 (l.take k)) (hk:k<8) (hl:k<l.length):
 v64 (m.set (k/2) (m.getD (k/2) 0 |||UInt64.ofNat ((l.getD k 0).toNat*2^(32*(k % 2)))))=v32 (l.take (k+1)):=by
 have hx:=(l.getD k 0).toNat_lt
 have e:64*(k/2)+32*(k % 2)=32*k:=by omega
 rw [or_set64 (w:=32) (by omega) (by rw [hv,e];exact v32_take_lt l k) hx (by omega),e,hv,v32_take_succ hl]
theorem shl64_of (x:Nat) (hx:x<2^64) (m:Nat):shl64 (UInt64.ofNat x) m=UInt64.ofNat (x*2^m):=by
 unfold shl64
 rw [UInt64.toNat_ofNat',Nat.mod_eq_of_lt hx]
theorem shl32_of (x:Nat) (hx:x<2^32) (m:Nat):shl32 (UInt32.ofNat x) m=UInt32.ofNat (x*2^m):=by
 unfold shl32
 rw [UInt32.toNat_ofNat',Nat.mod_eq_of_lt hx]
theorem bitLen_div (N m:Nat):bitLen (N/2^m)=bitLen N- m:=by
 have h: ∀j,bitLen (N/2^m)≤j↔bitLen N- m≤j:=by
  intro j
  rw [bitLen_le,Nat.div_lt_iff_lt_mul (Nat.pow_pos (by decide)), ←Nat.pow_add, ←bitLen_le];omega
 have h1:=(h (bitLen N- m)).2 (Nat.le_refl _)
 have h2:=(h (bitLen (N/2^m))).1 (Nat.le_refl _)
 omega
theorem limbsOf_get {N i:Nat} (h:i<(limbsOf N).length):(limbsOf N)[i]=UInt64.ofNat (N/2^(64*i)):=by
 simp [limbsOf,limbsN]
theorem limbsOf_top {N:Nat} (h:0<(limbsOf N).length):(64*((limbsOf N).length- 1)+bitLen (limbsOf N)[(limbsOf N).length- 1].toNat)=bitLen N:=by
 rw [limbsOf_get,UInt64.toNat_ofNat']
 have hk:=length_limbsOf N
 have hN:N<2^(64*(limbsOf N).length):=by rw [hk];exact limbLen_le.1 (Nat.le_refl _)
 have:N/2^(64*((limbsOf N).length- 1))<2^64:=by
  rw [Nat.div_lt_iff_lt_mul (Nat.pow_pos (by decide)), ←Nat.pow_add]
  rwa [show 64+64*((limbsOf N).length- 1)=64*(limbsOf N).length from by omega]
 rw [Nat.mod_eq_of_lt this,bitLen_div]
 omega
theorem limbsOf_top' {N:Nat} {x:UInt64} (h:(limbsOf N)[(limbsOf N).length- 1]? =some x):64*((limbsOf N).length- 1)+bitLen x.toNat=bitLen N:=by
 obtain⟨h1,h2⟩:=List.getElem?_eq_some_iff.1 h
 rw [←h2]
 exact limbsOf_top (by omega)
def bytesSt (m N k:Nat):List UInt8:=(bytesN m N).take k++List.replicate (m- k) 0
theorem length_bytesSt {m N k:Nat} (h:k≤m):(bytesSt m N k).length=m:=by simp [bytesSt];omega
theorem bytesSt_succ {m N k:Nat} (h:k<m):bytesSt m N (k+1)=(bytesSt m N k).set k (UInt8.ofNat (N/256^(m- 1- k))):=by
 apply List.ext_getElem
 ·rw [length_bytesSt (by omega),List.length_set,length_bytesSt (by omega)]
 ·intro i h1 h2
  rw [length_bytesSt (by omega)]at h1
  rw [List.getElem_set]
  by_cases hi:k=i
  ·subst hi
   rw [if_pos rfl]
   simp only [bytesSt]
   rw [List.getElem_append_left (by simp;omega)]
   simp [bytesN]
  ·rw [if_neg hi]
   simp only [bytesSt,List.getElem_append]
   by_cases hlt:i<k
   ·simp;rw [dif_pos (by omega),dif_pos (by omega)]
   ·simp;rw [dif_neg (by omega),dif_neg (by omega)]
theorem bytesSt_zero (m N:Nat):bytesSt m N 0=List.replicate m 0:=by simp [bytesSt]
theorem bytesSt_all (m N:Nat):bytesSt m N m=bytesN m N:=by
 simp only [bytesSt,Nat.sub_self,List.replicate_zero,List.append_nil]
 exact List.take_of_length_le (by simp)
theorem byte_of_limb {l:List UInt64} {at_:Nat} (hq:at_/8<l.length):UInt8.ofNat (l[at_/8].toNat/2^(at_ % 8*8))=UInt8.ofNat (v64 l/256^at_):=by
 have hlimb:=limb_v64 hq
 rw [←hlimb]
 apply UInt8.toNat_inj.1
 rw [UInt8.toNat_ofNat',UInt8.toNat_ofNat']
 obtain⟨q,r,hqr,hr⟩: ∃q r,at_=8*q+r∧r<8:=⟨at_/8,at_ % 8,by omega,Nat.mod_lt _ (by decide)⟩
 have e1:at_/8=q:=by omega
 have e2:at_ % 8=r:=by omega
 rw [e1,e2,hqr,show(256:Nat)=2^8 from rfl, ←Nat.pow_mul,show 8*(8*q+r)=64*q+r*8 from by omega,Nat.pow_add, ←Nat.div_div_eq_div_mul]
 generalize v64 l/2^(64*q)=X
 have:r*8+8≤64:=by omega
 rw [show(2:Nat)^64=2^(r*8)*2^(64- r*8)from by rw [←Nat.pow_add];congr 1;omega,Nat.mod_mul_right_div_self]
 exact Nat.mod_mod_of_dvd _ (Nat.pow_dvd_pow 2 (by omega))
def rlpHead (base n:Nat):List UInt8:=if n≤55 then [UInt8.ofNat (base+n)]else UInt8.ofNat (base+55+(bytesOf n).length)::bytesOf n
theorem v64_one (n:Nat) (h:n<2^64):v64 [UInt64.ofNat n]=n:=by
 simp only [v64,n64,val,List.map_cons,List.map_nil,Nat.mul_zero,Nat.add_zero,UInt64.toNat_ofNat']
 exact Nat.mod_eq_of_lt h
theorem byteLen8 {n:Nat} (h:n<2^64):(bytesOf n).length≤8:=by
 rw [length_bytesOf];exact byteLen_le.2 (by simpa using h)
theorem v64_take_succ {l:List UInt64} {k:Nat} (h:k<l.length):v64 (l.take (k+1))=v64 (l.take k)+2^(64*k)*(l.getD k 0).toNat:=by
 rw [List.take_succ_eq_append_getElem h,v64_append,List.length_take,Nat.min_eq_left (by omega),List.getD_eq_getElem?_getD,List.getElem?_eq_getElem h]
 simp only [v64,n64,val,List.map_cons,List.map_nil,Option.getD_some,Nat.mul_zero,Nat.add_zero]
theorem v64_take_lt (l:List UInt64) (k:Nat):v64 (l.take k)<2^(64*k):=by
 refine Nat.lt_of_lt_of_le (v64_lt _) (Nat.pow_le_pow_right (by decide) ?_)
 have:=List.length_take_le k l
 omega
theorem bitLen_join {L x k:Nat} (hL:L<2^k) (hx:x≠0):bitLen (L+2^k*x)=k+bitLen x:=by
 have h1:=lt_bitLen x
 have h0:=bitLen_pos (Nat.pos_of_ne_zero hx)
 have hp:0<2^k:=Nat.pow_pos (by decide)
 refine bitLen_eq ?_ (.inr ?_)
 ·rw [Nat.pow_add]
  have:2^k*(x+1)≤2^k*2^bitLen x:=Nat.mul_le_mul_left _ h1
  rw [Nat.mul_add,Nat.mul_one]at this
  omega
 ·have h2:2^(bitLen x- 1)≤x:=by
   rcases Nat.lt_or_ge x (2^(bitLen x- 1))with h|h
   ·have:=bitLen_le.2 h;omega
   ·exact h
  rw [show k+bitLen x- 1=k+(bitLen x- 1) by omega,Nat.pow_add]
  have:=Nat.mul_le_mul_left (2^k) h2
  omega
theorem bits_at {l:List UInt64} {k:Nat} (h:k<l.length) (hx:(l.getD k 0).toNat≠0) (hv:v64 l=v64 (l.take (k+1))):bitLen (v64 l)=64*k+bitLen (l.getD k 0).toNat:=by
 rw [hv,v64_take_succ h,bitLen_join (v64_take_lt l k) hx]
theorem v64_take_zero {l:List UInt64} {k:Nat} (h:k<l.length) (hx:(l.getD k 0).toNat=0) (hv:v64 l=v64 (l.take (k+1))):v64 l=v64 (l.take k):=by
 rw [hv,v64_take_succ h,hx,Nat.mul_zero,Nat.add_zero]
theorem be_bytes32 {N:Nat} (h:N<2^256):be (bytesN 32 N)=N:=by rw [be_bytesN];exact Nat.mod_eq_of_lt (by simpa using h)
theorem bytesN_drop {n k N:Nat} (hk:k≤n) (h:N<256^k):(bytesN n N).drop (n- k)=bytesN k N:=by
 apply List.ext_getElem
 ·rw [List.length_drop,length_bytesN,length_bytesN];omega
 ·intro i h1 h2
  rw [length_bytesN]at h2
  rw [List.getElem_drop]
  simp only [bytesN,List.getElem_map,List.getElem_range]
  congr 3
  omega
theorem bytes_drop32 {N:Nat} (h:N<2^256):(bytesN 32 N).drop (32- (bitLen N+7)/8)=bytesOf N:=by
 have h1:(bitLen N+7)/8≤32:=byteLen_le.2 (by simpa using h)
 exact bytesN_drop h1 (byteLen_le.1 (Nat.le_refl _))
theorem v64_four_lt (a b c d:UInt64):v64 [a,b,c,d]<2^256:=v64_lt [a,b,c,d]
theorem bytesN_take_succ {n N k:Nat} (h:k<n):(bytesN n N).take (k+1)=(bytesN n N).take k++ [UInt8.ofNat (N/256^(n- 1- k))]:=by
 rw [List.take_succ_eq_append_getElem (by rw [length_bytesN];exact h)]
 simp [bytesN]
theorem v64_snoc (w:List UInt64) (x:UInt64):v64 (w++ [x])=v64 w+2^(64*w.length)*x.toNat:=by
 rw [v64_append]
 simp only [v64,n64,val,List.map_cons,List.map_nil,Nat.mul_zero,Nat.add_zero]
theorem v64_take_all {l:List UInt64} {k:Nat} (h:l.length≤k):v64 (l.take k)=v64 l:=by rw [List.take_of_length_le h]
theorem v64_take_succD (l:List UInt64) (k:Nat):v64 (l.take (k+1))=v64 (l.take k)+2^(64*k)*(l.getD k 0).toNat:=by
 rcases Nat.lt_or_ge k l.length with h|h
 ·exact v64_take_succ h
 ·rw [v64_take_all h,v64_take_all (by omega),List.getD_eq_getElem?_getD,List.getElem?_eq_none h]
  simp
theorem set_mid {α:Type} {A B:List α} {x y:α} {j:Nat} (h:A.length=j):(A++x::B).set j y=(A++ [y])++B:=by
 subst h;simp
theorem set_fill {α:Type} {w:List α} {k L:Nat} {z y:α} (hw:w.length=k) (h:k<L):(w++List.replicate (L- k) z).set k y=(w++ [y])++List.replicate (L- (k+1)) z:=by
 rw [show L- k=(L- (k+1))+1 by omega,List.replicate_succ,set_mid hw]
theorem getD_mid {α:Type} {A B:List α} {x z:α} {j:Nat} (h:A.length=j):(A++x::B).getD j z=x:=by
 subst h;simp
theorem pow64 (k:Nat):(2:Nat)^(64*(k+1))=2^(64*k)*18446744073709551616:=by rw [show 64*(k+1)=64*k+64 by omega,Nat.pow_add]
theorem add_round {w a b:List UInt64} {k:Nat} {c:UInt64} (hw:w.length=k) (hc:c.toNat≤1) (hv:v64 w+c.toNat*2^(64*k)=v64 (a.take k)+v64 (b.take k)):
 v64 (w++ [addS (a.getD k 0) (b.getD k 0) c])+(addC (a.getD k 0) (b.getD k 0) c).toNat*2^(64*(k+1))=v64 (a.take (k+1))+v64 (b.take (k+1)):=by
 have h:=(add64_law (a.getD k 0) (b.getD k 0) c hc).1
 rw [v64_snoc,hw,v64_take_succD,v64_take_succD,pow64]
 have h2:=congrArg (2^(64*k)* ·) h
 simp only [Nat.mul_add]at h2
 generalize (addS (a.getD k 0) (b.getD k 0) c).toNat=s at*
 generalize (addC (a.getD k 0) (b.getD k 0) c).toNat=t at*
 have e:t*(2^(64*k)*18446744073709551616)=2^(64*k)*(t*2^64):=by rw [Nat.mul_left_comm]
 rw [e]
 rw [Nat.mul_comm c.toNat]at hv
 omega
theorem sub_round {w a b:List UInt64} {k:Nat} {c:UInt64} (hw:w.length=k) (hc:c.toNat≤1) (hv:v64 w+v64 (b.take k)=v64 (a.take k)+c.toNat*2^(64*k)):
 v64 (w++ [subS (a.getD k 0) (b.getD k 0) c])+v64 (b.take (k+1))=v64 (a.take (k+1))+(subC (a.getD k 0) (b.getD k 0) c).toNat*2^(64*(k+1)):=by
 have h:=(sub64_law (a.getD k 0) (b.getD k 0) c hc).1
 rw [v64_snoc,hw,v64_take_succD,v64_take_succD,pow64]
 have h2:=congrArg (2^(64*k)* ·) h
 simp only [Nat.mul_add]at h2
 generalize (subS (a.getD k 0) (b.getD k 0) c).toNat=s at*
 generalize (subC (a.getD k 0) (b.getD k 0) c).toNat=t at*
 have e:t*(2^(64*k)*18446744073709551616)=2^(64*k)*(t*2^64):=by rw [Nat.mul_left_comm]
 rw [e]
 rw [Nat.mul_comm c.toNat]at hv
 omega
theorem mul_le64 (x y:UInt64):x.toNat*y.toNat≤340282366920938463426481119284349108225:=
 Nat.mul_le_mul (show x.toNat≤18446744073709551615 by have:=x.toNat_lt;omega) (show y.toNat≤18446744073709551615 by have:=y.toNat_lt;omega)
theorem cell_nat {P H l s1 c1 s2 c2 z c:Nat} (h1:s1+c1*2^64=l+z) (h2:s2+c2*2^64=s1+c) (h3:H*2^64+l=P) (h4:P≤340282366920938463426481119284349108225) (hz:z<2^64) (hc:c<2^64):
 s2+((H+c1) % 2^64+c2) % 2^64*2^64=P+z+c:=by
 have e:s2+(H+c1+c2)*2^64=P+z+c:=by rw [Nat.add_mul,Nat.add_mul];exact Nat.le_antisymm (by omega) (by omega)
 have b:H+c1+c2<2^64:=by omega
 rw [Nat.mod_eq_of_lt (show H+c1<2^64 by omega),Nat.mod_eq_of_lt b,e]
theorem cell_nat0 {P H l s1 c1 z:Nat} (h1:s1+c1*2^64=l+z) (h3:H*2^64+l=P) (h4:P≤340282366920938463426481119284349108225) (hz:z<2^64):
 s1+((H+c1) % 2^64)*2^64=P+z:=by
 have e:s1+(H+c1)*2^64=P+z:=by rw [Nat.add_mul];exact Nat.le_antisymm (by omega) (by omega)
 rw [Nat.mod_eq_of_lt (show H+c1<2^64 by omega),e]
theorem mul_cell (x y z c:UInt64):(addS (addS (x*y) z 0) c 0).toNat+(mulH x y+addC (x*y) z 0+addC (addS (x*y) z 0) c 0).toNat*2^64=x.toNat*y.toNat+z.toNat+c.toNat:=by
 obtain⟨h1,k1⟩:=add64_law (x*y) z 0 (by decide)
 obtain⟨h2,k2⟩:=add64_law (addS (x*y) z 0) c 0 (by decide)
 rw [UInt64.toNat_add,UInt64.toNat_add]
 exact cell_nat h1 h2 (mul64_law x y) (mul_le64 x y) z.toNat_lt c.toNat_lt
theorem mul_cell0 (x y c:UInt64):(addS (x*y) c 0).toNat+(mulH x y+addC (x*y) c 0).toNat*2^64=x.toNat*y.toNat+c.toNat:=by
 obtain⟨h1,k1⟩:=add64_law (x*y) c 0 (by decide)
 rw [UInt64.toNat_add]
 exact cell_nat0 h1 (mul64_law x y) (mul_le64 x y) c.toNat_lt
theorem v64_setD {p:List UInt64} {j:Nat} {y:UInt64} (h:j<p.length):v64 (p.set j y)+(p.getD j 0).toNat*2^(64*j)=v64 p+y.toNat*2^(64*j):=by
 have:=v64_set (y:=y) h
 rwa [List.getD_eq_getElem?_getD,List.getElem?_eq_getElem h]
theorem mul_round {p b:List UInt64} {i k V:Nat} {x c:UInt64} (hj:i+k<p.length) (hv:v64 p+c.toNat*2^(64*(i+k))=V+2^(64*i)*(x.toNat*v64 (b.take k))):
 v64 (p.set (i+k) (addS (addS (x*b.getD k 0) (p.getD (i+k) 0) 0) c 0))+(mulH x (b.getD k 0)+addC (x*b.getD k 0) (p.getD (i+k) 0) 0+addC (addS (x*b.getD k 0) (p.getD (i+k) 0) 0) c 0).toNat*2^(64*(i+(k+1)))=
  V+2^(64*i)*(x.toNat*v64 (b.take (k+1))):=by
 have h:=mul_cell x (b.getD k 0) (p.getD (i+k) 0) c
 generalize hs:addS (addS (x*b.getD k 0) (p.getD (i+k) 0) 0) c 0=s at*
 generalize hm:(mulH x (b.getD k 0)+addC (x*b.getD k 0) (p.getD (i+k) 0) 0+addC (addS (x*b.getD k 0) (p.getD (i+k) 0) 0) c 0).toNat=m at*
 have h1:=v64_setD (y:=s) hj
 have eE:2^(64*i)*2^(64*k)=2^(64*(i+k)):=by rw [←Nat.pow_add,Nat.mul_add]
 rw [v64_take_succD, ←Nat.add_assoc,pow64]
 have e1:2^(64*i)*(x.toNat*(v64 (b.take k)+2^(64*k)*(b.getD k 0).toNat))=2^(64*i)*(x.toNat*v64 (b.take k))+2^(64*(i+k))*(x.toNat*(b.getD k 0).toNat):=by
  rw [←eE,Nat.mul_add,Nat.mul_add,Nat.mul_left_comm x.toNat, ←Nat.mul_assoc _ (2^(64*k))]
 rw [e1]
 generalize 2^(64*(i+k))=T at*
 have h2:=congrArg (T* ·) h
 simp only [Nat.mul_add]at h2
 have e2:m*(T*18446744073709551616)=T*(m*2^64):=by rw [Nat.mul_left_comm]
 rw [e2]
 rw [Nat.mul_comm c.toNat]at hv
 rw [Nat.mul_comm (p.getD (i+k) 0).toNat,Nat.mul_comm s.toNat]at h1
 omega
theorem mul_outer {p a b:List UInt64} {i:Nat} {c:UInt64} (hp:p.length=i+b.length) (hv:v64 p+c.toNat*2^(64*(i+b.length))=v64 (a.take i)*v64 b+2^(64*i)*((a.getD i 0).toNat*v64 (b.take b.length))):
 v64 (p++ [c])=v64 (a.take (i+1))*v64 b:=by
 rw [v64_snoc,hp,v64_take_succD,Nat.add_mul,Nat.mul_assoc,Nat.mul_comm _ c.toNat,hv,List.take_length]
theorem step_round {w u v:List UInt64} {k:Nat} {q cy bw:UInt64} (hw:w.length=k) (hb:bw.toNat≤1) (hv:v64 w+q.toNat*v64 (v.take k)=v64 (u.take k)+(cy.toNat+bw.toNat)*2^(64*k)):
 v64 (w++ [subS (u.getD k 0) (addS (q*v.getD k 0) cy 0) bw])+q.toNat*v64 (v.take (k+1))=v64 (u.take (k+1))+((mulH q (v.getD k 0)+addC (q*v.getD k 0) cy 0).toNat+(subC (u.getD k 0) (addS (q*v.getD k 0) cy 0) bw).toNat)*2^(64*(k+1)):=by
 have h1:=mul_cell0 q (v.getD k 0) cy
 obtain⟨h2,h3⟩:=sub64_law (u.getD k 0) (addS (q*v.getD k 0) cy 0) bw hb
 generalize addS (q*v.getD k 0) cy 0=l at*
 generalize (mulH q (v.getD k 0)+addC (q*v.getD k 0) cy 0).toNat=m at*
 generalize (subS (u.getD k 0) l bw)=d at*
 generalize (subC (u.getD k 0) l bw).toNat=t at*
 have h4:=congrArg (2^(64*k)* ·) h1
 have h5:=congrArg (2^(64*k)* ·) h2
 simp only [Nat.mul_add]at h4 h5
 rw [v64_snoc,hw,v64_take_succD,v64_take_succD,pow64,Nat.mul_add,Nat.add_mul]
 have e1:q.toNat*(2^(64*k)*(v.getD k 0).toNat)=2^(64*k)*(q.toNat*(v.getD k 0).toNat):=Nat.mul_left_comm ..
 have e2:m*(2^(64*k)*18446744073709551616)=2^(64*k)*(m*2^64):=by rw [Nat.mul_left_comm]
 have e3:t*(2^(64*k)*18446744073709551616)=2^(64*k)*(t*2^64):=by rw [Nat.mul_left_comm]
 rw [e1,e2,e3]
 rw [Nat.add_mul,Nat.mul_comm cy.toNat,Nat.mul_comm bw.toNat]at hv
 omega
theorem step_last {w u v:List UInt64} {k:Nat} {q cy bw:UInt64} (hw:w.length=k) (hb:bw.toNat≤1) (hv:v64 w+q.toNat*v64 v=v64 (u.take k)+(cy.toNat+bw.toNat)*2^(64*k)) (hu:u.length=k+1):
 v64 (w++ [subS (u.getD k 0) cy bw])+q.toNat*v64 v=v64 u+(subC (u.getD k 0) cy bw).toNat*2^(64*(k+1)):=by
 obtain⟨h2,h3⟩:=sub64_law (u.getD k 0) cy bw hb
 generalize (subS (u.getD k 0) cy bw)=d at*
 generalize (subC (u.getD k 0) cy bw).toNat=t at*
 have h5:=congrArg (2^(64*k)* ·) h2
 simp only [Nat.mul_add]at h5
 have hu2:v64 u=v64 (u.take (k+1)):=by rw [v64_take_all (by omega)]
 rw [v64_snoc,hw,hu2,v64_take_succD,pow64]
 have e3:t*(2^(64*k)*18446744073709551616)=2^(64*k)*(t*2^64):=by rw [Nat.mul_left_comm]
 rw [e3]
 rw [Nat.add_mul,Nat.mul_comm cy.toNat,Nat.mul_comm bw.toNat]at hv
 omega
theorem shl64_nat (x:UInt64) (s:Nat):(shl64 x s).toNat=x.toNat*2^s % 2^64:=by rw [shl64,UInt64.toNat_ofNat']
theorem shr64_nat (x:UInt64) (s:Nat):(shr64 x s).toNat=x.toNat/2^s:=by
 rw [shr64,UInt64.toNat_ofNat',Nat.mod_eq_of_lt (Nat.lt_of_le_of_lt (Nat.div_le_self _ _) x.toNat_lt)]
theorem limb_mid {x y:UInt64} {W r:Nat} (hr:r≤64) (hy:W % 2^64=y.toNat):(x.toNat+2^64*W)/2^r % 2^64=(shr64 x r |||shl64 y (64- r)).toNat:=by
 have hx:=x.toNat_lt
 rw [UInt64.toNat_or,shr64_nat,shl64_nat, ←hy]
 have e1:(2:Nat)^64=2^r*2^(64- r):=by rw [←Nat.pow_add];congr 1;omega
 have hp:0<2^r:=Nat.pow_pos (by decide)
 have e2:(x.toNat+2^64*W)/2^r=x.toNat/2^r+2^(64- r)*W:=by
  rw [e1,Nat.mul_assoc,Nat.add_mul_div_left _ _ hp]
 have e3:W % 2^64*2^(64- r) % 2^64=W % 2^r*2^(64- r):=by
  have:W % 2^64*2^(64- r) % 2^64=W % 2^64*2^(64- r) % (2^r*2^(64- r)):=by rw [←e1]
  rw [this,Nat.mul_mod_mul_right,Nat.mod_mod_of_dvd _ (Nat.pow_dvd_pow 2 hr)]
 have e4:2^(64- r)*W % 2^64=W % 2^r*2^(64- r):=by
  have:2^(64- r)*W % 2^64=W*2^(64- r) % (2^r*2^(64- r)):=by rw [←e1,Nat.mul_comm]
  rw [this,Nat.mul_mod_mul_right]
 have hlt:x.toNat/2^r<2^(64- r):=by
  rw [Nat.div_lt_iff_lt_mul hp, ←Nat.pow_add,show 64- r+r=64 by omega];exact hx
 have hsum:x.toNat/2^r+W % 2^r*2^(64- r)<2^64:=by
  have h1:W % 2^r+1≤2^r:=Nat.mod_lt _ hp
  have h2:=Nat.mul_le_mul_right (2^(64- r)) h1
  rw [←e1,Nat.add_mul]at h2
  omega
 rw [e2,e3,Nat.add_mod,e4,Nat.mod_eq_of_lt (Nat.lt_of_le_of_lt (Nat.div_le_self _ _) hx),Nat.mod_eq_of_lt hsum]
 rw [Nat.or_comm,Nat.mul_comm (W % 2^r)]
 rw [Nat.add_comm,Nat.two_pow_add_eq_or_of_lt hlt]
theorem u64_zero {x:UInt64} (h:(x.toNat:Int)=0):x=0:=by rw [←UInt64.toNat_inj];simpa using h
theorem trim_len {l:List UInt64} {k:Nat} (hk:k≤l.length) (hz: ∀i,k≤i→l.getD i 0=0) (hl:k=0∨(0<k∧l.getD (k- 1) 0≠0)):l.take k=limbsOf (v64 l)∧(limbsOf (v64 l)).length=k:=by
 have h1:l.take k=limbsOf (v64 l):=trim_eq hk (fun i h hki=>by
  have:=hz i hki
  rwa [List.getD_eq_getElem?_getD,List.getElem?_eq_getElem h]at this) (by
  rcases hl with h|⟨h0,h⟩
  ·exact .inl h
  ·refine .inr ⟨by omega,?_⟩
   rwa [List.getD_eq_getElem?_getD,List.getElem?_eq_getElem (by omega)]at h)
 exact⟨h1,by rw [←h1,List.length_take];omega⟩
theorem Trim_f {N:Heaplet} {ao:Option Addr} {n cap:Nat} {l:List UInt64} (h:RSl N 1 ao n cap (u64s l)):
 Fn Tryz.prog 139 #[.slice ao n cap] [] [N] (fun v L=>v=.slice ao (limbsOf (v64 l)).length (limbsOf (v64 l)).length∧L= []∧l.take (limbsOf (v64 l)).length=limbsOf (v64 l)∧(limbsOf (v64 l)).length≤n):=by
 have hlen:l.length=n:=by simpa using h.len
 have hcap:=h.2.1
 have hmax:=h.2.2.1
 unfold maxLen at hmax
 refine Fn.enter (vs:= [.slice ao n cap]) Tryz.func139 U U U ?_
 intro E R hR
 have h:=h.le (hR N (by simp))
 change At _ _ E [R] _
 refine aC fun _ s_1=>aA (aG U U (aB (s_1 (aC fun _ s_2=>aA (aF U U (bG aD se200 U U (aG U U (aB (s_2 (aC fun _ s_3=>aT ?_))))))))))
 refine cF (fun fr_ hp_ ms_=> ∃(k:Nat),fr_= [(0,.slice ao n cap),(3,.int .i64 (k:Int))]∧hp_= [R]∧k=ms_∧(k≤n)∧(∀i,k≤i→l.getD i 0=0)) ?_ aM ⟨n,rfl,rfl,rfl,Nat.le_refl _,fun i hi=>by rw [List.getD_eq_getElem?_getD,List.getElem?_eq_none (by omega)];rfl⟩ ?_
 ·repeat first|apply bD|exact .nil|exact lkI rfl (by omega)|rfl
 rintro _ _ _ ⟨k,rfl,rfl,rfl,hk,hz⟩
 refine aC fun _ s_4=>aC fun _ s_5=>aA (aF U U (op_gtr aD U U U (aF U U (cJ (d:=8) U (fun g8=>?_) (fun g8=>?_)))))
 ·refine aL (cL U U U U) U U (aL (cL U U U U) U U (op_subI (cL U U U U) U U (by omega) (by omega) U (bU (cL U U U U) se200 U U (by assumption) (show _=(((k- 1:Nat)):Int)from by omega) (by omega) U ?_)))
  refine cC (cL U U U U) sc24 U (by assumption) (by first|exact get8 (by omega)|exact get64 (by omega)|exact get32 (by omega)) (by simp) U ?_
  refine op_eql (cL U U U U) U U U (bO aD U U U (aB (s_5 (aO U (fun c15=>?_) (fun c15=>?_)))))
  ·refine aQ (aE (s_4 (aT (aA (aF U U (op_subI aD U U (by omega) (by omega) U (aG U U (At.opsNil (a0 (aE ?_))))))))))
   refine bQ ?_ aM ⟨k- 1,rfl,rfl,rfl,by omega,fun i hi=>by rcases Nat.lt_or_ge i k with h|h;(rw [show i=k- 1 by omega];exact u64_zero c15);exact hz i h⟩ ?_
   ·repeat first|apply bD|exact .nil|exact lkI rfl (by omega)|rfl
   ·omega
  refine bW (aK (aK (bH (aE (s_3 (aC fun _ s_6=>aA (aF U U (aF U U (aF U U (op_slice0 aD se200 U (.some U (show _=(((k:Nat)):Int)from by omega)) (.some U (show _=(((k:Nat)):Int)from by omega)) (by omega) (by omega) (by simp) U ?_))))))))))
  refine aG U U (aB (s_6 (aR ((aW (L1:= []) U (.tmp U .nil) (.refl _) aM ?_)))))
  have ⟨e1,e2⟩:=trim_len (by omega) hz (.inr ⟨by omega,fun e=>c15 (by rw [e];rfl)⟩);rw [e2];exact⟨rfl,rfl,e1,hk⟩
 refine aU U U U U U U U (aU U U U U U U U (aU U U U U U U U (aU U U U U U U U (aU U U U U U U U (aU U U U U U U U (cB aD U U U (aB (s_5 (At.condF U (bW (aK (aK (bH (aE (s_3 (aC fun _ s_7=>aA (aF U U (aF U U (aF U U (op_slice0 aD se200 U (.some U (show _=(((k:Nat)):Int)from by omega)) (.some U (show _=(((k:Nat)):Int)from by omega)) (by omega) (by omega) (by simp) U ?_))))))))))))))))))))
 refine aG U U (aB (s_7 (aR ((aW (L1:= []) U (.tmp U .nil) (.refl _) aM ?_)))))
 have ⟨e1,e2⟩:=trim_len (by omega) hz (.inl (by omega));rw [e2];exact⟨rfl,rfl,e1,hk⟩
theorem From_f {N:Heaplet} {ao:Option Addr} {n cap:Nat} {l:List UInt8} (h:RSl N 1 ao n cap (u8s l)) (hn:n≤140737488351232):
 Fn Tryz.prog 168 #[.slice ao n cap] [] [N] (fun v L=> ∃M a,v=.slice a (limbsOf (be l)).length (limbsOf (be l)).length∧L= [M]∧RSl M 1 a (limbsOf (be l)).length (limbsOf (be l)).length (u64s (limbsOf (be l)))):=by
 have hlen:=h.len8
 have hcap:=h.cap63
 refine Fn.enter (vs:= [.slice ao n cap]) Tryz.func168 U U U ?_
 intro E R hR
 have h:=h.le (hR N (by simp))
 change At _ _ E [R] _
 refine aC fun _ s_1=>aA (aG U U (aB (s_1 (aC fun _ s_2=>aA (aF U U (bG aD se22 U U (a6 aD U U (by omega) (by omega) U (op_quoI aD U U (by omega) (by omega) (by omega) U ?_))))))))
 refine op_make aZ Tryz.underlying200 te24 U U (show _=((((n+7)/8:Nat)):Int)from by omega) (show _=((((n+7)/8:Nat)):Int)from by omega) (by omega) (by unfold maxLen;omega) U (fun N11 a11 r11=>?_)
 rw [made_one _ _ rfl,zero_u64s]at r11
 have s11:=r11.rsl
 refine aG U U (aB (s_2 (aC fun _ s_3=>aC fun _ s_4=>aA (aF U U (bG aD se22 U U (aF U U (aB (s_4 (aT (cF (fun fr_ hp_ ms_=> ∃(k:Nat) (Nq:Heaplet),fr_= [(0,.slice ao n cap),(3,.slice a11 ((n+7)/8) ((n+7)/8)),(12,.slice ao n cap),(13,.int .i64 (n:Int)),(14,.int .i64 (k:Int))]∧hp_= [Nq,R]∧n- k=ms_∧(k≤n)∧(Row Nq 24 1 a11 ((n+7)/8) ((n+7)/8) (u64s (fromSt l k)))) ?_ aM ⟨0,N11,rfl,rfl,rfl,by omega,by simpa [fromSt,hlen]using r11⟩ ?_))))))))))
 ·repeat first|apply bD|exact .nil|exact lkI rfl (by omega)|rfl
 rintro _ _ _ ⟨k,Nq,rfl,rfl,rfl,hk,rq⟩
 have sq:=rq.rsl
 have hlq:=sq.len64
 refine aC fun _ s_5=>aA (op_lss aD U U U (aB (s_5 (aC fun _ s_6=>aO U (fun c15=>?_) (fun c15=>?_)))))
 ·refine aQ (aE (s_6 (aC fun _ s_7=>aT (aC fun _ s_8=>aA (aF U U (bU aD se22 U U (by assumption) (show _=(((k:Nat)):Int)from by omega) (by omega) U ?_))))))
  refine cC aD sc5 U (by assumption) (by first|exact get8 (by omega)|exact get64 (by omega)|exact get32 (by omega)) (by simp) U ?_
  refine aG U U (aG U U (aB (s_8 (aC fun _ s_9=>aA (aF U U (bG aD se22 U U (op_subI aD U U (by omega) (by omega) U (aF U U (op_subI aD U U (by omega) (by omega) U (aG U U (aB (s_9 (At.drawn [13] [0,1,2,3,4,5,6,7,8,9,10,11,12,13] (by kernel_rfl) (by kernel_rfl) (aL (aS U U U (by kernel_rfl)) U U (aL (aS U U U (by kernel_rfl)) U U (op_quoI (aS U U U (by kernel_rfl)) U U (by omega) (by omega) (by omega) U (bU (aS U U U (by kernel_rfl)) se200 U U (by assumption) (show _=((((n- 1- k)/8:Nat)):Int)from by omega) (by omega) U ?_)))))))))))))))))
  refine cC (aS U U U (by kernel_rfl)) sc24 U (by assumption) (by first|exact get8 (by omega)|exact get64 (by omega)|exact get32 (by omega)) (by simp) U ?_
  refine aL (aS U U U (by kernel_rfl)) U U (op_conv64 (aS U U U (by kernel_rfl)) (und_some Tryz.underlying5) Tryz.underlying24 U (by first|rfl|exact(Int.toNat_of_nonneg (by omega)).symm) U ?_)
  refine aL (aS U U U (by kernel_rfl)) U U (op_rem (aS U U U (by kernel_rfl)) U U (by omega) (by omega) U (op_mulI (aS U U U (by kernel_rfl)) U U (by omega) (by omega) U (op_shlU (aS U U U (by kernel_rfl)) U U (show _=((((n- 1- k) % 8*8:Nat)):Int)from by omega) U ?_)))
  refine op_orU (aS U U U (by kernel_rfl)) U U U (bU (aS U U U (by kernel_rfl)) se200 U U (by assumption) (show _=((((n- 1- k)/8:Nat)):Int)from by omega) (by omega) U ?_)
  refine op_storeE (nxos U U U U) sz24 U U U U U rq (by simp<;>omega) (by simp) sel0 (fun Nq rq=>?_)
  simp only [setL]at rq
  have sq:=rq.rsl
  refine cG (a0 (aE (s_7 (aA (a6 aD U U (by omega) (by omega) U (aF U U (aB ?_)))))))
  refine bQ ?_ aM ⟨k+1,Nq,rfl,rfl,rfl,by omega,by rw [fromSt,fromStep,hlen, ←ofNat_shl, ←set_u64s];exact rq⟩ ?_
  ·repeat first|apply bD|exact .nil|exact lkI rfl (by omega)|rfl
  ·omega
 refine bW (aK (aK (bH (aE (s_3 (aC fun _ s_10=>aA (aF U U (aH aZ (.cons U .nil) (Trim_f sq) Tryz.func139 U U (by simp) U ?_))))))))
 rintro _ _ ⟨rfl,rfl,e1,e2⟩
 show At _ _ _ [Nq,R] _
 refine aG U U (aB (s_10 (aR ((aW (L1:= [Nq]) U (.tmp U .nil) (.refl _) aM ?_)))))
 obtain rfl:k=l.length:=by omega
 rw [fromSt_all]at e1 e2⊢
 have h2:=sq.take (Nat.le_refl _) e2 e2
 rw [Nat.mul_one,u64s_takeR,e1]at h2
 exact⟨Nq,a11,rfl,rfl,h2⟩
end Go.Proofs.YtjfagifjajielaaGreat
