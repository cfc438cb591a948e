/- Several texts in one: see the remarks ahead of each part. No condition but those told there. -/
import Derived.Test.YtjfagifjajielaaGreatX1
import Derived.Test.YtjfagifjajielaaGreatX10
import Derived.Test.YtjfagifjajielaaGreatX9
import Derived.Test.YtjfagifjajielaaGreatX7
set_option linter.unusedSimpArgs false
set_option linter.unusedVariables false
namespace Go.Proofs.YtjfagifjajielaaGreat
open Go Go.RowKit
def refX (l:List UInt8) (j:Nat):List UInt8:=l++1::List.replicate j 0
def refB (l:List UInt8) (j:Nat):List UInt8:=(refX l j).set (l.length+j) ((refX l j).getD (l.length+j) 0 |||128)
theorem len8s {l:List UInt8} {k:Nat} (h:l.length=k):(u8s l).length=k:=by simp [u8s,h]
set_option maxRecDepth 100000 in
set_option maxHeartbeats 4000000 in
theorem FKeccak_f {N:Heaplet} {ao:Option Addr} {n cap:Nat} {l:List UInt8} (hb:RSl N 1 ao n cap (u8s l)) (hn:n≤1099511627776):Fn Tryz.prog 78 #[.slice ao n cap] [] [N] (fun v L=>v=.agg (u8s (kec l)).toArray∧L= []):=by
 have hlen:=hb.len8
 have hcap:=hb.cap63
 refine Fn.enter (vs:= [.slice ao n cap]) Tryz.func78 U U U ?_
 intro E R hR
 have hb:=hb.le (hR N (by simp))
 change At _ _ E [R] _
 refine aC fun _ s_1=>aA (bK bU ze39 U (fun N2 b2 B2=>?_))
 change Blk N2 b2 _ [.int .u8 0,.int .u8 0,.int .u8 0,.int .u8 0,.int .u8 0,.int .u8 0,.int .u8 0,.int .u8 0,.int .u8 0,.int .u8 0,.int .u8 0,.int .u8 0,.int .u8 0,.int .u8 0,.int .u8 0,.int .u8 0,.int .u8 0,.int .u8 0,.int .u8 0,.int .u8 0,.int .u8 0,.int .u8 0,.int .u8 0,.int .u8 0,.int .u8 0,.int .u8 0,.int .u8 0,.int .u8 0,.int .u8 0,.int .u8 0,.int .u8 0,.int .u8 0]at B2
 refine aB (s_1 (aC fun _ s_2=>aA (bD bU .nil (FNew_f) Tryz.func120 U U (by simp) U ?_)))
 rintro _ _ ⟨N4,b4,e4,rfl,rfl,B4⟩
 show At _ _ _ [N4,N2,R] _
 refine aR U U (aB (s_2 (aC fun _ s_3=>bZ (At.loop (fun fr_ hp_ ms_=> ∃(k:Nat) (po:Option Addr) (pn pc:Nat) (N4:Heaplet),fr_= [(0,.slice po pn pc),(2,.pointer (some ⟨b2,0,none⟩)),(3,.pointer (some ⟨b4,0,none⟩))]∧hp_= [N4,N2,R]∧n- 136*k=ms_∧(136*k≤n)∧(pn=n- 136*k)∧(RSl R 1 po pn pc (u8s (l.drop (136*k))))∧(Blk N4 b4 e4 (u64s (absN l k)++ [.slice none 0 0]))) ?_ aJ ⟨0,ao,n,cap,N4,rfl,rfl,rfl,by omega,by omega,hb,B4⟩ ?_))))
 ·repeat first|apply cW|exact .nil|exact lkI rfl (by omega)|rfl
 rintro _ _ _ ⟨k,po,pn,pc,N4,rfl,rfl,rfl,hk,hpn,hp,B4⟩
 have hal:=absN_len l k
 have hpc:=hp.cap63
 refine aC fun _ s_4=>aC fun _ s_5=>aA (aH U U (cF aE se22 U U (op_geq aE U U U (aB (s_5 (aQ U (fun c7=>?_) (fun c7=>?_)))))))
 ·refine aT (aI (s_4 (aC fun _ s_6=>bZ (At.drawn [5] [0,1,2,3,4,5] (by kernel_rfl) (by kernel_rfl) (aP (bP U U U (by kernel_rfl)) U U (aW (bP U U U (by kernel_rfl)) U U (aD (bP U U U (by kernel_rfl)) fl189_0 U U (aP (bP U U U (by kernel_rfl)) U U (op_slice0 (bP U U U (by kernel_rfl)) se22 U (.some U (show _=(((136:Nat)):Int)from by omega)) .none (by omega) (by omega) (by simp) U ?_)))))))))
  have s14:=hp.take8 (hi:=136) (m:=pc) (by omega) (Nat.le_refl _) (by omega)
  refine cA (nxos U U U U) (.cons U (.cons U .nil)) (FAbsorb_f hal B4 s14 U) (F:= [N2,R]) Tryz.func121 U U aJ (by simp) U ?_
  rintro _ _ ⟨N4,rfl,rfl,B4⟩
  show At _ _ _ [N4,N2,R] _
  refine dK (cS (aI (s_6 (aA (aH U U (op_slice aE se22 U (.some U (show _=(((136:Nat)):Int)from by omega)) .none .none (by omega) (by omega) (by omega) (by simp) U ?_))))))
  refine aR U U (aB ?_)
  refine At.back ?_ aJ ⟨k+1,sadr po 136 pc 1,pn- 136,pc- 136,N4,rfl,rfl,rfl,by omega,by omega,by rw [show 136*(k+1)=136*k+136 by omega, ←List.drop_drop];exact hp.drop8 (lo:=136) (by omega),B4⟩ ?_
  ·repeat first|apply cW|exact .nil|exact lkI rfl (by omega)|rfl
  ·omega
 refine At.exit (bB (bB (dE (aI (s_3 (aC fun _ s_7=>aA (aH U U (aH U U (aW aE U U (aD aE fl189_1 U U ?_))))))))))
 refine aK aE sc22 U B4 (by first|rfl|(rw [List.getElem?_append_right (by rw [len64s hal];decide),len64s hal];rfl)) bI U ?_
 refine aH U U ?_
 refine op_append0 bU Tryz.underlying22 Tryz.underlying22 te5 rfl rfl hp (by simp) (by first|exact one_u8s _|exact one_u64s _|exact one_u32s _|(intro u hu;simp at hu;subst hu;rfl)) (by omega) (by omega) rfl (fun N22 a22 p22 r22=>?_)
 have s22:=r22.rsl
 refine aW aE U U (aD aE fl189_1 U U (aF cL sz22 U U U U U B4 (by simp [u64s,hal]) sel1 (fun N4 B4=>?_)))
 have B4:Blk N4 b4 e4 (u64s (absN l k)++ [.slice a22 pn p22]):=by
  rw [setL,setL,List.set_append_right _ _ (by rw [len64s hal];decide),len64s hal]at B4
  exact B4
 refine aB (s_7 (aC fun _ s_8=>aA (aH U U ?_)))
 have hkm:k=n/136:=by omega
 have hkec:ouI (absorb (absN l k) (padL (l.drop (136*k)))) 32=kec l:=by rw [kec,hlen, ←hkm]
 have hol:=kec_len l
 refine cA cL (.cons U .nil) (FSum_f hal B4 s22 (by omega)) (F:= [N22,N2,R]) Tryz.func122 U U aJ (by simp) U ?_
 rintro _ _ ⟨rfl,rfl⟩
 show At _ _ _ [N22,N2,R] _
 rw [hkec]
 refine aF cL sz39 U U U (len8s hol) (all8 _) B2 (by rw [len8s hol];simp) sel1 (fun N2 B2=>?_)
 rw [bG (by rw [len8s hol];simp)]at B2
 refine aB (s_8 (a0 ((bH (cI (L1:= []) U (.cell U (bQ (ds:=u8s (kec l)) ag39 B2 (all_take (len8s hol)) (len8s hol) bI) .nil) (.cons _ (.refl _)) aJ ?_)))))
 exact⟨rfl,rfl⟩
def DInv (R u1 y1 y0 q rh:Nat):Prop:=rh+q*y1=R∧rh*4294967296+u1<q*y0+y1*4294967296+y0∧q≤4294967297
def sub64E:Array Value→Sem Value:=fun args=>do
 let (x,y,b)←Extern.MathBitsCarry.three "Sub64" args
 pure (Extern.MathBitsCarry.pair ((x+Extern.MathBitsCarry.m64- y- b) % Extern.MathBitsCarry.m64) (if x<y+b then 1 else 0))
theorem run_sub64' {P:Program} (x y b:Nat) (hb:b≤1) (w:World):(sub64E #[.int .u64 x,.int .u64 y,.int .u64 b]).run P w=
 .ok (.tuple #[.int .u64 (((x+18446744073709551616- y- b) % 18446744073709551616:Nat):Int),.int .u64 ((if x<y+b then 1 else 0:Nat):Int)]) w:=by
 have:b=0∨b=1:=by omega
 rcases this with rfl|rfl<;>rfl
theorem Sub64_x (x y c:UInt64) (hc:c.toNat≤1) (w:World):(callFunc 165 #[.int .u64 (x.toNat:Int),.int .u64 (y.toNat:Int),.int .u64 (c.toNat:Int)]).run Tryz.prog w=.ok (.value (.tuple #[.int .u64 ((subS x y c).toNat:Int),.int .u64 ((subC x y c).toNat:Int)])) w:=by
 rw [run_callFunc_extern Tryz.func165 (by kernel_rfl) (by kernel_rfl) (by kernel_rfl) (e:=sub64E) (by kernel_rfl),run_sub64' _ _ _ hc,subS_nat,subC_nat]
 rfl
def DivP (hi lo y:UInt64) (v:Value) (L:List Heaplet):Prop:=
 ∃q r:UInt64,v=.tuple #[.int .u64 (q.toNat:Int),.int .u64 (r.toNat:Int)]∧L= []∧q.toNat=(hi.toNat*18446744073709551616+lo.toNat)/y.toNat∧r.toNat=(hi.toNat*18446744073709551616+lo.toNat) % y.toNat
def LimbsP (V:Nat) (v:Value) (L:List Heaplet):Prop:=
 ∃M a c,v=.slice a (limbsOf V).length c∧L= [M]∧RSl M 1 a (limbsOf V).length c (u64s (limbsOf V))
theorem getD_big {α:Type} {l:List α} {k:Nat} {z:α} (h:l.length≤k):l.getD k z=z:=by
 rw [List.getD_eq_getElem?_getD,List.getElem?_eq_none h];rfl
end Go.Proofs.YtjfagifjajielaaGreat
