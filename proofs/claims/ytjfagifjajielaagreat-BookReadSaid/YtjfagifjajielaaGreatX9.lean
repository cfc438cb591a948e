/- Several texts in one: see the remarks ahead of each part. No condition but those told there. -/
import Derived.Test.YtjfagifjajielaaGreatX1
import Derived.Test.YtjfagifjajielaaGreatX8
import Derived.Test.YtjfagifjajielaaGreatX4
import Derived.Test.YtjfagifjajielaaGreatX7
import Derived.Test.YtjfagifjajielaaGreatX5
import Derived.Lib.Mul64
import Derived.Test.YtjfagifjajielaaGreatX6
import Derived.Test.YtjfagifjajielaaGreatX3
set_option linter.unusedSimpArgs false
set_option linter.unusedVariables false
namespace Go.Proofs.YtjfagifjajielaaGreat
open Go Go.RowKit
def envF (b:List UInt8):Option (Nat×List UInt8):=
 if b.length=0∨(128≤(b.getD 0 0).toNat∧(b.getD 0 0).toNat<192)then none
 else if 192≤(b.getD 0 0).toNat then some (0,b)
 else some ((b.getD 0 0).toNat,b.drop 1)
def EnvP (N:Heaplet) (r:Option (Nat×List UInt8)) (v:Value):Prop:=
 (r=none∧v=.tuple #[.int .i64 0,.slice none 0 0,.int .i64 2])∨
 (∃k p a c,r=some (k,p)∧v=.tuple #[.int .i64 (k:Int),.slice a p.length c,.int .i64 0]∧RSl N 1 a p.length c (u8s p))
theorem EnvP.mk {N:Heaplet} {r:Option (Nat×List UInt8)} {k n c:Nat} {q:Int} {a:Option Addr} {p:List UInt8} (hr:r=some (k,p)) (hq:q=(k:Int)) (h:RSl N 1 a n c (u8s p)):EnvP N r (.tuple #[.int .i64 q,.slice a n c,.int .i64 0]):=by
 have e:=h.len8
 subst e;subst hq
 exact .inr ⟨k,p,a,c,hr,rfl,h⟩
theorem Envelope_f {N:Heaplet} {ao:Option Addr} {n cap:Nat} {b:List UInt8} (h:RSl N 1 ao n cap (u8s b)) (hn:n≤1099511627776):
 Fn Tryz.prog 29 #[.slice ao n cap] [] [N] (fun v L=>(L= []∧envF b=none∧v=.tuple #[.int .i64 0,.slice none 0 0,.int .i64 2])∨ ∃M k p a c,L= [M]∧envF b=some (k,p)∧v=.tuple #[.int .i64 (k:Int),.slice a p.length c,.int .i64 0]∧RSl M 1 a p.length c (u8s p)):=by
 have hlen:=h.len8
 have hcap:=h.cap63
 have ok: ∀ {M:Heaplet} {k n c:Nat} {q:Int} {a:Option Addr} {p:List UInt8},envF b=some (k,p)→q=(k:Int)→RSl M 1 a n c (u8s p)→
  ∃M' k p a' c',[M]= [M']∧envF b=some (k,p)∧(Value.tuple #[.int .i64 q,.slice a n c,.int .i64 0])=.tuple #[.int .i64 (k:Int),.slice a' p.length c',.int .i64 0]∧RSl M' 1 a' p.length c' (u8s p):=by
  intro M k n c q a p hr hq h
  have e:=h.len8
  subst e;subst hq
  exact⟨M,k,p,a,c,rfl,hr,rfl,h⟩
 refine Fn.enter (vs:= [.slice ao n cap]) Tryz.func29 U U U ?_
 intro E R hR
 have h:=h.le (hR N (by simp))
 change At _ _ E [R] _
 refine aC fun _ s_1=>aA (aR U U (aR U U (aR U U (aB (s_1 (aC fun _ s_2=>bZ (aC fun _ s_3=>aA (aH U U (cF aE se22 U U (dF aE U U U (aH U U (cB (d:=9) U (fun g9=>?_) (fun g9=>?_)))))))))))))
 ·refine aU U U U U U U U (aU U U U U U U U (aU U U U U U U U (aU U U U U U U U (aU U U U U U U U (op_skipU U U U U U U (op_skipU U U U U U U (op_skipU U U U U U U (op_skipU U U U U U U (aU U U U U U U U (cH aE U U U (aR U U (aB (s_3 (At.condT U (aC fun _ s_4=>aA (aR U U (aR U U (aR U U (aB (s_4 (a0 (At.inRet (aS ((bE (L1:= []) U (.tmp U (.tmp U (.tmp U .nil))) U (.refl _) aJ ?_)))))))))))))))))))))))))
  exact .inl ⟨rfl,by rw [envF,if_pos (by omega)],rfl⟩
 refine aP (bF U U U U) U U (cZ (bF U U U U) se22 U U (by assumption) (show _=((0:Nat):Int)from U) (by omega) U ?_)
 refine cO (bF U U U U) sc5 U (by assumption) (by first|exact get8 (by omega)|exact get64 (by omega)|exact get32 (by omega)) (by simp) U ?_
 refine op_geq (bF U U U U) U U U (aP (bF U U U U) U U (cB (d:=14) U (fun g14=>?_) (fun g14=>?_)))
 ·refine aP (bF U U U U) U U (cZ (bF U U U U) se22 U U (by assumption) (show _=((0:Nat):Int)from U) (by omega) U ?_)
  refine cO (bF U U U U) sc5 U (by assumption) (by first|exact get8 (by omega)|exact get64 (by omega)|exact get32 (by omega)) (by simp) U ?_
  refine op_lss (bF U U U U) U U U (cH (bF U U U U) U U U (cE aE U U U (aR U U (aB (s_3 (aQ U (fun c5=>?_) (fun c5=>?_)))))))
  ·refine aC fun _ s_5=>aA (aR U U (aR U U (aR U U (aB (s_5 (a0 (At.inRet (aS ((bE (L1:= []) U (.tmp U (.tmp U (.tmp U .nil))) U (.refl _) aJ ?_))))))))))
   exact .inl ⟨rfl,by rw [envF,if_pos (by omega)],rfl⟩
  refine aC fun _ s_6=>aA (aH U U (cZ aE se22 U U (by assumption) (show _=((0:Nat):Int)from U) (by omega) U ?_))
  refine cO aE sc5 U (by assumption) (by first|exact get8 (by omega)|exact get64 (by omega)|exact get32 (by omega)) (by simp) U ?_
  refine op_geq aE U U U (aR U U (aB (s_6 (aQ U (fun c21=>?_) (fun c21=>?_)))))
  ·refine aC fun _ s_7=>aA (aH U U ?_)
   refine op_append0 bU Tryz.underlying22 Tryz.underlying22 te5 rfl rfl (by assumption) (by simp) (by first|exact one_u8s _|exact one_u64s _|exact one_u32s _|(intro u hu;simp at hu;subst hu;rfl)) (by omega) (by omega) rfl (fun N27 a27 p27 r27=>?_)
   have s27:=r27.rsl
   refine aR U U (aR U U (aR U U (aB (s_7 (a0 (At.inRet (aS ((bE (L1:= [N27]) U (.tmp U (.tmp U (.tmp U .nil))) U (.refl _) aJ ?_)))))))))
   exact .inr (ok (by rw [envF,if_neg (by omega),if_pos (by omega)]) U r27.rsl)
  refine aT (cS (aI (s_2 (aC fun _ s_8=>At.drawn [] [0,1,2,3,4,5,6,7,8,9] (by kernel_rfl) (by kernel_rfl) (aP (bP U U U (by kernel_rfl)) U U (cZ (bP U U U (by kernel_rfl)) se22 U U (by assumption) (show _=((0:Nat):Int)from U) (by omega) U ?_))))))
  refine cO (bP U U U (by kernel_rfl)) sc5 U (by assumption) (by first|exact get8 (by omega)|exact get64 (by omega)|exact get32 (by omega)) (by simp) U ?_
  refine op_convI (bP U U U (by kernel_rfl)) (und_some Tryz.underlying5) Tryz.underlying3 U (by omega) (by omega) U (aP (bP U U U (by kernel_rfl)) U U (op_slice (bP U U U (by kernel_rfl)) se22 U (.some U (show _=((1:Nat):Int)from U)) .none .none (by omega) (by omega) (by omega) (by simp) U ?_))
  have s33:=h.drop8 (lo:=1) (by omega)
  refine op_append0 (nxoa rfl rfl rfl) Tryz.underlying22 Tryz.underlying22 te5 rfl rfl (by assumption) (by simp) (by first|exact one_u8s _|exact one_u64s _|exact one_u32s _|(intro u hu;simp at hu;subst hu;rfl)) (by omega) (by omega) rfl (fun N34 a34 p34 r34=>?_)
  have s34:=r34.rsl
  refine cJ (bP U U U (by kernel_rfl)) U U (cJ (bP U U U (by kernel_rfl)) U U (cJ (bP U U U (by kernel_rfl)) U U (dK (aI (s_8 (a0 ((bE (L1:= [N34]) U (.tmp U (.tmp U (.tmp U .nil))) U (.refl _) aJ ?_))))))))
  exfalso;omega
 refine aU U U U U U U U (aU U U U U U U U (aU U U U U U U U (aU U U U U U U U (cE (bF U U U U) U U U (cE aE U U U (aR U U (aB (s_3 (dA U (aC fun _ s_9=>aA (aH U U (cZ aE se22 U U (by assumption) (show _=((0:Nat):Int)from U) (by omega) U ?_))))))))))))
 refine cO aE sc5 U (by assumption) (by first|exact get8 (by omega)|exact get64 (by omega)|exact get32 (by omega)) (by simp) U ?_
 refine op_geq aE U U U (aR U U (aB (s_9 (aQ U (fun c21=>?_) (fun c21=>?_)))))
 ·refine aC fun _ s_10=>aA (aH U U ?_)
  refine op_append0 bU Tryz.underlying22 Tryz.underlying22 te5 rfl rfl (by assumption) (by simp) (by first|exact one_u8s _|exact one_u64s _|exact one_u32s _|(intro u hu;simp at hu;subst hu;rfl)) (by omega) (by omega) rfl (fun N27 a27 p27 r27=>?_)
  have s27:=r27.rsl
  refine aR U U (aR U U (aR U U (aB (s_10 (a0 (At.inRet (aS ((bE (L1:= [N27]) U (.tmp U (.tmp U (.tmp U .nil))) U (.refl _) aJ ?_)))))))))
  exfalso;omega
 refine aT (cS (aI (s_2 (aC fun _ s_11=>At.drawn [] [0,1,2,3,4,5,6,7,8,9] (by kernel_rfl) (by kernel_rfl) (aP (bP U U U (by kernel_rfl)) U U (cZ (bP U U U (by kernel_rfl)) se22 U U (by assumption) (show _=((0:Nat):Int)from U) (by omega) U ?_))))))
 refine cO (bP U U U (by kernel_rfl)) sc5 U (by assumption) (by first|exact get8 (by omega)|exact get64 (by omega)|exact get32 (by omega)) (by simp) U ?_
 refine op_convI (bP U U U (by kernel_rfl)) (und_some Tryz.underlying5) Tryz.underlying3 U (by omega) (by omega) U (aP (bP U U U (by kernel_rfl)) U U (op_slice (bP U U U (by kernel_rfl)) se22 U (.some U (show _=((1:Nat):Int)from U)) .none .none (by omega) (by omega) (by omega) (by simp) U ?_))
 have s33:=h.drop8 (lo:=1) (by omega)
 refine op_append0 (nxoa rfl rfl rfl) Tryz.underlying22 Tryz.underlying22 te5 rfl rfl (by assumption) (by simp) (by first|exact one_u8s _|exact one_u64s _|exact one_u32s _|(intro u hu;simp at hu;subst hu;rfl)) (by omega) (by omega) rfl (fun N34 a34 p34 r34=>?_)
 have s34:=r34.rsl
 refine cJ (bP U U U (by kernel_rfl)) U U (cJ (bP U U U (by kernel_rfl)) U U (cJ (bP U U U (by kernel_rfl)) U U (dK (aI (s_11 (a0 ((bE (L1:= [N34]) U (.tmp U (.tmp U (.tmp U .nil))) U (.refl _) aJ ?_))))))))
 exact .inr (ok (by rw [envF,if_neg (by omega),if_neg (by omega)]) U r34.rsl)
theorem rEnvelope_f {N:Heaplet} {ao:Option Addr} {n cap:Nat} {b:List UInt8} (h:RSl N 1 ao n cap (u8s b)):
 Fn Tryz.prog 35 #[.slice ao n cap] [] [N] (fun v L=>L= []∧EnvP N (envF b) v):=by
 have hlen:=h.len8
 have hcap:=h.cap63
 refine Fn.enter (vs:= [.slice ao n cap]) Tryz.func35 U U U ?_
 intro E R hR
 have h':=h
 have h:=h.le (hR N (by simp))
 change At _ _ E [R] _
 refine aC fun _ s_1=>aA (aR U U (aR U U (aR U U (aB (s_1 (aC fun _ s_2=>aC fun _ s_3=>aA (aH U U (cF aE se22 U U (dF aE U U U (aH U U (cB (d:=8) U (fun g8=>?_) (fun g8=>?_))))))))))))
 ·refine aU U U U U U U U (aU U U U U U U U (aU U U U U U U U (aU U U U U U U U (aU U U U U U U U (op_skipU U U U U U U (op_skipU U U U U U U (op_skipU U U U U U U (op_skipU U U U U U U (aU U U U U U U U (cH aE U U U (aB (s_3 (At.condT U (aC fun _ s_4=>aA (aR U U (aR U U (aR U U (aB (s_4 (a0 (aS ((bE (L1:= []) U (.tmp U (.tmp U (.tmp U .nil))) U (.refl _) aJ ?_)))))))))))))))))))))))
  exact⟨rfl,.inl ⟨by rw [envF,if_pos (by omega)],rfl⟩⟩
 refine aP (bF U U U U) U U (cZ (bF U U U U) se22 U U (by assumption) (show _=((0:Nat):Int)from U) (by omega) U ?_)
 refine cO (bF U U U U) sc5 U (by assumption) (by first|exact get8 (by omega)|exact get64 (by omega)|exact get32 (by omega)) (by simp) U ?_
 refine op_geq (bF U U U U) U U U (aP (bF U U U U) U U (cB (d:=13) U (fun g13=>?_) (fun g13=>?_)))
 ·refine aP (bF U U U U) U U (cZ (bF U U U U) se22 U U (by assumption) (show _=((0:Nat):Int)from U) (by omega) U ?_)
  refine cO (bF U U U U) sc5 U (by assumption) (by first|exact get8 (by omega)|exact get64 (by omega)|exact get32 (by omega)) (by simp) U ?_
  refine op_lss (bF U U U U) U U U (cH (bF U U U U) U U U (cE aE U U U (aB (s_3 (aQ U (fun c19=>?_) (fun c19=>?_))))))
  ·refine aC fun _ s_5=>aA (aR U U (aR U U (aR U U (aB (s_5 (a0 (aS ((bE (L1:= []) U (.tmp U (.tmp U (.tmp U .nil))) U (.refl _) aJ ?_)))))))))
   exact⟨rfl,.inl ⟨by rw [envF,if_pos (by omega)],rfl⟩⟩
  refine aT (aI (s_2 (aC fun _ s_6=>aC fun _ s_7=>aA (aH U U (cZ aE se22 U U (by assumption) (show _=((0:Nat):Int)from U) (by omega) U ?_)))))
  refine cO aE sc5 U (by assumption) (by first|exact get8 (by omega)|exact get64 (by omega)|exact get32 (by omega)) (by simp) U ?_
  refine op_geq aE U U U (aB (s_7 (aQ U (fun c23=>?_) (fun c23=>?_))))
  ·refine aC fun _ s_8=>aA (aH U U (aR U U (aR U U (aR U U (aB (s_8 (a0 (aS ((bE (L1:= []) U (.tmp U (.tmp U (.tmp U .nil))) U (.refl _) aJ ?_))))))))))
   exact⟨rfl,.mk (by rw [envF,if_neg (by omega),if_pos (by omega)]) rfl h'⟩
  refine aT (aI (s_6 (aC fun _ s_9=>At.drawn [] [0,1,2,3,4,5,6,7,8] (by kernel_rfl) (by kernel_rfl) (aP (bP U U U (by kernel_rfl)) U U (cZ (bP U U U (by kernel_rfl)) se22 U U (by assumption) (show _=((0:Nat):Int)from U) (by omega) U ?_)))))
  refine cO (bP U U U (by kernel_rfl)) sc5 U (by assumption) (by first|exact get8 (by omega)|exact get64 (by omega)|exact get32 (by omega)) (by simp) U ?_
  refine op_convI (bP U U U (by kernel_rfl)) (und_some Tryz.underlying5) Tryz.underlying3 U (by omega) (by omega) U (aP (bP U U U (by kernel_rfl)) U U (op_slice (bP U U U (by kernel_rfl)) se22 U (.some U (show _=((1:Nat):Int)from U)) .none .none (by omega) (by omega) (by omega) (by simp) U (cJ (bP U U U (by kernel_rfl)) U U (cJ (bP U U U (by kernel_rfl)) U U (cJ (bP U U U (by kernel_rfl)) U U (dK (aI (s_9 (a0 ((bE (L1:= []) U (.tmp U (.tmp U (.tmp U .nil))) U (.refl _) aJ ?_)))))))))))
  exfalso;omega
 refine aU U U U U U U U (aU U U U U U U U (aU U U U U U U U (aU U U U U U U U (cE (bF U U U U) U U U (cE aE U U U (aB (s_3 (dA U (aT (aI (s_2 (aC fun _ s_10=>aC fun _ s_11=>aA (aH U U (cZ aE se22 U U (by assumption) (show _=((0:Nat):Int)from U) (by omega) U ?_))))))))))))))
 refine cO aE sc5 U (by assumption) (by first|exact get8 (by omega)|exact get64 (by omega)|exact get32 (by omega)) (by simp) U ?_
 refine op_geq aE U U U (aB (s_11 (aQ U (fun c23=>?_) (fun c23=>?_))))
 ·refine aC fun _ s_12=>aA (aH U U (aR U U (aR U U (aR U U (aB (s_12 (a0 (aS ((bE (L1:= []) U (.tmp U (.tmp U (.tmp U .nil))) U (.refl _) aJ ?_))))))))))
  exfalso;omega
 refine aT (aI (s_10 (aC fun _ s_13=>At.drawn [] [0,1,2,3,4,5,6,7,8] (by kernel_rfl) (by kernel_rfl) (aP (bP U U U (by kernel_rfl)) U U (cZ (bP U U U (by kernel_rfl)) se22 U U (by assumption) (show _=((0:Nat):Int)from U) (by omega) U ?_)))))
 refine cO (bP U U U (by kernel_rfl)) sc5 U (by assumption) (by first|exact get8 (by omega)|exact get64 (by omega)|exact get32 (by omega)) (by simp) U ?_
 refine op_convI (bP U U U (by kernel_rfl)) (und_some Tryz.underlying5) Tryz.underlying3 U (by omega) (by omega) U (aP (bP U U U (by kernel_rfl)) U U (op_slice (bP U U U (by kernel_rfl)) se22 U (.some U (show _=((1:Nat):Int)from U)) .none .none (by omega) (by omega) (by omega) (by simp) U (cJ (bP U U U (by kernel_rfl)) U U (cJ (bP U U U (by kernel_rfl)) U U (cJ (bP U U U (by kernel_rfl)) U U (dK (aI (s_13 (a0 ((bE (L1:= []) U (.tmp U (.tmp U (.tmp U .nil))) U (.refl _) aJ ?_)))))))))))
 exact⟨rfl,.mk (by rw [envF,if_neg (by omega),if_neg (by omega)]) rfl (h'.drop8 (by omega))⟩
theorem rEnvelope_g {N:Heaplet} {ao:Option Addr} {n cap:Nat} {b:List UInt8} (h:RSl N 1 ao n cap (u8s b)):
 Fn Tryz.prog 35 #[.slice ao n cap] [] [N] (fun v L=>(L= []∧envF b=none∧v=.tuple #[.int .i64 0,.slice none 0 0,.int .i64 2])∨ ∃k p a c,L= []∧envF b=some (k,p)∧v=.tuple #[.int .i64 (k:Int),.slice a p.length c,.int .i64 0]∧RSl N 1 a p.length c (u8s p)):=
 (rEnvelope_f h).mono fun v L ⟨h1,h2⟩=>by
  rcases h2 with ⟨h2,h3⟩|⟨k,p,a,c,h2,h3,h4⟩
  ·exact .inl ⟨h1,h2,h3⟩
  ·exact .inr ⟨k,p,a,c,h1,h2,h3,h4⟩
mutual
def It.same:It→It→Bool
 |.mk l bs its,.mk l' bs' its'=>decide (l=l')&&(decide (bs=bs')&&It.sames its its')
def It.sames:List It→List It→Bool
 | [],[]=>true
 |t::ts,u::us=>It.same t u&&It.sames ts us
 |_,_=>false
end
mutual
theorem It.same_self: ∀t:It,It.same t t=true
 |.mk l bs its=>by simp [It.same,It.sames_self its]
theorem It.sames_self: ∀ts:List It,It.sames ts ts=true
 | []=>by simp [It.sames]
 |t::ts=>by simp [It.sames,It.same_self t,It.sames_self ts]
end
open Go Go.RowKit
def numE (b:List UInt8):Nat:=if 0<b.length∧(b.getD 0 0).toNat=0 then 2 else if 32<b.length then 3 else 0
def numV (b:List UInt8):Nat:=if numE b=0 then be b else 0
theorem numE2 {b:List UInt8} (h1:0<b.length) (h2:(b.getD 0 0).toNat=0):numE b=2:=by rw [numE,if_pos ⟨h1,h2⟩]
theorem numE3 {b:List UInt8} (h1: ¬(0<b.length∧(b.getD 0 0).toNat=0)) (h2:32<b.length):numE b=3:=by rw [numE,if_neg h1,if_pos h2]
theorem numE0 {b:List UInt8} (h1: ¬(0<b.length∧(b.getD 0 0).toNat=0)) (h2: ¬32<b.length):numE b=0:=by rw [numE,if_neg h1,if_neg h2]
def NumP (b:List UInt8) (v:Value) (L:List Heaplet):Prop:=
 ∃wa wb wc wd:UInt64,v=.tuple #[.agg #[.int .u64 (wa.toNat:Int),.int .u64 (wb.toNat:Int),.int .u64 (wc.toNat:Int),.int .u64 (wd.toNat:Int)],.int .i64 (numE b:Int)]∧L= []∧v64 [wa,wb,wc,wd]=numV b
theorem NumP.bad {b:List UInt8} {e:Nat} (h:numE b=e) (he:e≠0):NumP b (.tuple #[.agg #[.int .u64 0,.int .u64 0,.int .u64 0,.int .u64 0],.int .i64 (e:Int)]) []:=by
 refine⟨0,0,0,0,by rw [h];rfl,rfl,?_⟩
 rw [numV,if_neg (by omega)];rfl
theorem NumP.good {b:List UInt8} {wa wb wc wd:UInt64} (h:numE b=0) (hv:v64 [wa,wb,wc,wd]=be b):NumP b (.tuple #[.agg #[.int .u64 (wa.toNat:Int),.int .u64 (wb.toNat:Int),.int .u64 (wc.toNat:Int),.int .u64 (wd.toNat:Int)],.int .i64 0]) []:=
 ⟨wa,wb,wc,wd,by rw [h];rfl,rfl,by rw [numV,if_pos h,hv]⟩
theorem Number_s {N:Heaplet} {ao:Option Addr} {n cap:Nat} {b:List UInt8} (h:RSl N 1 ao n cap (u8s b)) (hn:n≤32):Fn Tryz.prog 141 #[.slice ao n cap] [] [N] (NumP b):=by
 have hlen:=h.len8
 have hcap:=h.cap63
 refine Fn.enter (vs:= [.slice ao n cap]) Tryz.func141 U U U ?_
 intro E R hR
 have h:=h.le (hR N (by simp))
 change At _ _ E [R] _
 refine aC fun _ s_1=>aA (bK bU ze26 U (fun N2 b2 B2=>?_))
 change Blk N2 b2 _ [.int .u64 0,.int .u64 0,.int .u64 0,.int .u64 0]at B2
 refine aR U U (aB (s_1 (aC fun _ s_2=>aC fun _ s_3=>aA (aH U U (cF aE se22 U U (op_gtr aE U U U (aH U U (cB (d:=9) U (fun g9=>?_) (fun g9=>?_)))))))))
 ·refine aP (bF U U U U) U U (cZ (bF U U U U) se22 U U (by assumption) (show _=((0:Nat):Int)from U) (by omega) U ?_)
  refine cO (bF U U U U) sc5 U (by assumption) (by first|exact get8 (by omega)|exact get64 (by omega)|exact get32 (by omega)) (by simp) U ?_
  refine dF (bF U U U U) U U U (cH aE U U U (aB (s_3 (aQ U (fun c14=>?_) (fun c14=>?_)))))
  ·refine aC fun _ s_4=>aA (op_buildA (out:= [.int .u64 0,.int .u64 0,.int .u64 0,.int .u64 0]) aE ze26 ae26 .nil U U (aF cL sz26 U U U U U B2 (by simp) dB (fun N2 B2=>?_)))
   simp only [setL,List.set]at B2
   refine aR U U (aB (s_4 (a0 (aS ((bE (L1:= []) U (.cell U (bQ (ds:= [_,_,_,_]) ag26 B2 U U bI) (.tmp U .nil)) U (.cons _ (.refl _)) aJ ?_))))))
   exact NumP.bad (numE2 (by omega) (by omega)) (by decide)
  refine aT (aI (s_2 (aC fun _ s_5=>aA (aH U U (bD bU (.cons U .nil) (WFrom_f h hn) Tryz.func169 U U (by simp) U ?_)))))
  rintro _ _ ⟨wa,wb,wc,wd,rfl,rfl,hw⟩
  show At _ _ _ [N2,R] _
  refine aH U U (aO aE U U U (aO aE U U U (bK bU ze26 U (fun N4 b4 B4=>?_))))
  change Blk N4 b4 _ [.int .u64 0,.int .u64 0,.int .u64 0,.int .u64 0]at B4
  refine aF cL sz26 U U U U U B4 (by simp) dB (fun N4 B4=>?_)
  simp only [setL,List.set]at B4
  refine aR U U (aB (s_5 (aC fun _ s_6=>aC fun _ s_7=>aA (aH U U (op_not aE U U (aB (s_7 (dA U (aT (aI (s_6 (aC fun _ s_8=>aA (aV (ds:= [_,_,_,_]) aE ag26 U B4 U U bI U (aF cL sz26 U U U U U B2 (by simp) sel1 (fun N2 B2=>?_)))))))))))))))
  simp only [setL,List.set]at B2
  refine aR U U (aB (s_8 (a0 ((bH (bE (L1:= []) U (.cell U (bQ (ds:= [_,_,_,_]) ag26 B2 U U bI) (.tmp U .nil)) U (.cons _ (.refl _)) aJ ?_))))))
  exact NumP.good (numE0 (by omega) (by omega)) hw
 refine aU U U U U U U U (aU U U U U U U U (aU U U U U U U U (aU U U U U U U U (cE aE U U U (aB (s_3 (dA U (aT (aI (s_2 (aC fun _ s_9=>aA (aH U U (bD bU (.cons U .nil) (WFrom_f h hn) Tryz.func169 U U (by simp) U ?_)))))))))))))
 rintro _ _ ⟨wa,wb,wc,wd,rfl,rfl,hw⟩
 show At _ _ _ [N2,R] _
 refine aH U U (aO aE U U U (aO aE U U U (bK bU ze26 U (fun N4 b4 B4=>?_))))
 change Blk N4 b4 _ [.int .u64 0,.int .u64 0,.int .u64 0,.int .u64 0]at B4
 refine aF cL sz26 U U U U U B4 (by simp) dB (fun N4 B4=>?_)
 simp only [setL,List.set]at B4
 refine aR U U (aB (s_9 (aC fun _ s_10=>aC fun _ s_11=>aA (aH U U (op_not aE U U (aB (s_11 (dA U (aT (aI (s_10 (aC fun _ s_12=>aA (aV (ds:= [_,_,_,_]) aE ag26 U B4 U U bI U (aF cL sz26 U U U U U B2 (by simp) sel1 (fun N2 B2=>?_)))))))))))))))
 simp only [setL,List.set]at B2
 refine aR U U (aB (s_12 (a0 ((bH (bE (L1:= []) U (.cell U (bQ (ds:= [_,_,_,_]) ag26 B2 U U bI) (.tmp U .nil)) U (.cons _ (.refl _)) aJ ?_))))))
 exact NumP.good (numE0 (by omega) (by omega)) hw
theorem Number_l {N:Heaplet} {ao:Option Addr} {n cap:Nat} {b:List UInt8} (h:RSl N 1 ao n cap (u8s b)) (hn:32<n):Fn Tryz.prog 141 #[.slice ao n cap] [] [N] (NumP b):=by
 have hlen:=h.len8
 have hcap:=h.cap63
 refine Fn.enter (vs:= [.slice ao n cap]) Tryz.func141 U U U ?_
 intro E R hR
 have h:=h.le (hR N (by simp))
 change At _ _ E [R] _
 refine aC fun _ s_1=>aA (bK bU ze26 U (fun N2 b2 B2=>?_))
 change Blk N2 b2 _ [.int .u64 0,.int .u64 0,.int .u64 0,.int .u64 0]at B2
 refine aR U U (aB (s_1 (aC fun _ s_2=>aC fun _ s_3=>aA (aH U U (cF aE se22 U U (op_gtr aE U U U (aH U U (cB (d:=9) U (fun g9=>?_) (fun g9=>?_)))))))))
 ·refine aP (bF U U U U) U U (cZ (bF U U U U) se22 U U (by assumption) (show _=((0:Nat):Int)from U) (by omega) U ?_)
  refine cO (bF U U U U) sc5 U (by assumption) (by first|exact get8 (by omega)|exact get64 (by omega)|exact get32 (by omega)) (by simp) U ?_
  refine dF (bF U U U U) U U U (cH aE U U U (aB (s_3 (aQ U (fun c14=>?_) (fun c14=>?_)))))
  ·refine aC fun _ s_4=>aA (op_buildA (out:= [.int .u64 0,.int .u64 0,.int .u64 0,.int .u64 0]) aE ze26 ae26 .nil U U (aF cL sz26 U U U U U B2 (by simp) dB (fun N2 B2=>?_)))
   simp only [setL,List.set]at B2
   refine aR U U (aB (s_4 (a0 (aS ((bE (L1:= []) U (.cell U (bQ (ds:= [_,_,_,_]) ag26 B2 U U bI) (.tmp U .nil)) U (.cons _ (.refl _)) aJ ?_))))))
   exact NumP.bad (numE2 (by omega) (by omega)) (by decide)
  refine aT (aI (s_2 (aC fun _ s_5=>aA (aH U U (bD bU (.cons U .nil) (WFrom_long h hn) Tryz.func169 U U (by simp) U ?_)))))
  rintro _ _ ⟨rfl,rfl⟩
  show At _ _ _ [N2,R] _
  refine aH U U (aO aE U U U (aO aE U U U (bK bU ze26 U (fun N4 b4 B4=>?_))))
  change Blk N4 b4 _ [.int .u64 0,.int .u64 0,.int .u64 0,.int .u64 0]at B4
  refine aF cL sz26 U U U U U B4 (by simp) dB (fun N4 B4=>?_)
  simp only [setL,List.set]at B4
  refine aR U U (aB (s_5 (aC fun _ s_6=>aC fun _ s_7=>aA (aH U U (op_not aE U U (aB (s_7 (At.condT U (aC fun _ s_8=>aA (op_buildA (out:= [.int .u64 0,.int .u64 0,.int .u64 0,.int .u64 0]) aE ze26 ae26 .nil U U (aF cL sz26 U U U U U B2 (by simp) sel1 (fun N2 B2=>?_))))))))))))
  simp only [setL,List.set]at B2
  refine aR U U (aB (s_8 (a0 (aS ((bH (bE (L1:= []) U (.cell U (bQ (ds:= [_,_,_,_]) ag26 B2 U U bI) (.tmp U .nil)) U (.cons _ (.refl _)) aJ ?_)))))))
  exact NumP.bad (numE3 (by omega) (by omega)) (by decide)
 refine aU U U U U U U U (aU U U U U U U U (aU U U U U U U U (aU U U U U U U U (cE aE U U U (aB (s_3 (dA U (aT (aI (s_2 (aC fun _ s_9=>aA (aH U U (bD bU (.cons U .nil) (WFrom_long h hn) Tryz.func169 U U (by simp) U ?_)))))))))))))
 rintro _ _ ⟨rfl,rfl⟩
 show At _ _ _ [N2,R] _
 refine aH U U (aO aE U U U (aO aE U U U (bK bU ze26 U (fun N4 b4 B4=>?_))))
 change Blk N4 b4 _ [.int .u64 0,.int .u64 0,.int .u64 0,.int .u64 0]at B4
 refine aF cL sz26 U U U U U B4 (by simp) dB (fun N4 B4=>?_)
 simp only [setL,List.set]at B4
 refine aR U U (aB (s_9 (aC fun _ s_10=>aC fun _ s_11=>aA (aH U U (op_not aE U U (aB (s_11 (At.condT U (aC fun _ s_12=>aA (op_buildA (out:= [.int .u64 0,.int .u64 0,.int .u64 0,.int .u64 0]) aE ze26 ae26 .nil U U (aF cL sz26 U U U U U B2 (by simp) sel1 (fun N2 B2=>?_))))))))))))
 simp only [setL,List.set]at B2
 refine aR U U (aB (s_12 (a0 (aS ((bH (bE (L1:= []) U (.cell U (bQ (ds:= [_,_,_,_]) ag26 B2 U U bI) (.tmp U .nil)) U (.cons _ (.refl _)) aJ ?_)))))))
 exact NumP.bad (numE3 (by omega) (by omega)) (by decide)
theorem Number_f {N:Heaplet} {ao:Option Addr} {n cap:Nat} {b:List UInt8} (h:RSl N 1 ao n cap (u8s b)):Fn Tryz.prog 141 #[.slice ao n cap] [] [N] (NumP b):=by
 rcases Nat.lt_or_ge 32 n with hn|hn
 ·exact Number_l h hn
 ·exact Number_s h hn
theorem rNumber_f {N:Heaplet} {ao:Option Addr} {n cap:Nat} {b:List UInt8} (h:RSl N 1 ao n cap (u8s b)):Fn Tryz.prog 96 #[.slice ao n cap] [] [N] (NumP b):=by
 have hlen:=h.len8
 have hcap:=h.cap63
 have hbl:=be_lt b
 refine Fn.enter (vs:= [.slice ao n cap]) Tryz.func96 U U U ?_
 intro E R hR
 have h:=h.le (hR N (by simp))
 change At _ _ E [R] _
 refine aC fun _ s_1=>aA (bK bU ze26 U (fun N2 b2 B2=>?_))
 change Blk N2 b2 _ [.int .u64 0,.int .u64 0,.int .u64 0,.int .u64 0]at B2
 refine aR U U (aB (s_1 (aC fun _ s_2=>aC fun _ s_3=>aA (aH U U (cF aE se22 U U (op_gtr aE U U U (aH U U (cB (d:=7) U (fun g7=>?_) (fun g7=>?_)))))))))
 ·refine aP (bF U U U U) U U (cZ (bF U U U U) se22 U U (by assumption) (show _=((0:Nat):Int)from U) (by omega) U ?_)
  refine cO (bF U U U U) sc5 U (by assumption) (by first|exact get8 (by omega)|exact get64 (by omega)|exact get32 (by omega)) (by simp) U ?_
  refine dF (bF U U U U) U U U (cH aE U U U (aB (s_3 (aQ U (fun c12=>?_) (fun c12=>?_)))))
  ·refine aC fun _ s_4=>aA (op_buildA (out:= [.int .u64 0,.int .u64 0,.int .u64 0,.int .u64 0]) aE ze26 ae26 .nil U U (aF cL sz26 U U U U U B2 (by simp) dB (fun N2 B2=>?_)))
   simp only [setL,List.set]at B2
   refine aR U U (aB (s_4 (a0 (aS ((bE (L1:= []) U (.cell U (bQ (ds:= [_,_,_,_]) ag26 B2 U U bI) (.tmp U .nil)) U (.cons _ (.refl _)) aJ ?_))))))
   exact NumP.bad (numE2 (by omega) (by omega)) (by decide)
  refine aT (aI (s_2 (aC fun _ s_5=>aC fun _ s_6=>aA (aH U U (cF aE se22 U U (op_gtr aE U U U (aB (s_6 (aQ U (fun c16=>?_) (fun c16=>?_))))))))))
  ·refine aC fun _ s_7=>aA (op_buildA (out:= [.int .u64 0,.int .u64 0,.int .u64 0,.int .u64 0]) aE ze26 ae26 .nil U U (aF cL sz26 U U U U U B2 (by simp) dB (fun N2 B2=>?_)))
   simp only [setL,List.set]at B2
   refine aR U U (aB (s_7 (a0 (aS ((bE (L1:= []) U (.cell U (bQ (ds:= [_,_,_,_]) ag26 B2 U U bI) (.tmp U .nil)) U (.cons _ (.refl _)) aJ ?_))))))
   exact NumP.bad (numE3 (by omega) (by omega)) (by decide)
  refine aT (aI (s_5 (aC fun _ s_8=>aA (aH U U (bD bU (.cons U .nil) (rFrom_f h (by omega)) Tryz.func149 U U (by simp) U ?_)))))
  rintro _ _ ⟨M19,a19,c19,rfl,rfl,s19⟩
  show At _ _ _ [M19,N2,R] _
  refine bD bU (.cons U .nil) (rW_f s19) Tryz.func104 U U (by simp) U ?_
  rintro _ _ ⟨rfl,wa,wb,wc,wd,rfl,hw⟩
  show At _ _ _ [M19,N2,R] _
  have hbe:be b<2^256:=Nat.lt_of_lt_of_le hbl (Nat.le_trans (Nat.pow_le_pow_right (by decide) (show b.length≤32 by omega)) (by decide))
  rw [v32_digsOf,Nat.mod_eq_of_lt hbe]at hw
  refine aF cL sz26 U U U U U B2 (by simp) sel1 (fun N2 B2=>?_)
  simp only [setL,List.set]at B2
  refine aR U U (aB (s_8 (a0 ((bH (bE (L1:= []) U (.cell U (bQ (ds:= [_,_,_,_]) ag26 B2 U U bI) (.tmp U .nil)) U (.cons _ (.refl _)) aJ ?_))))))
  exact NumP.good (numE0 (by omega) (by omega)) hw
 refine aU U U U U U U U (aU U U U U U U U (aU U U U U U U U (aU U U U U U U U (cE aE U U U (aB (s_3 (dA U (aT (aI (s_2 (aC fun _ s_9=>aC fun _ s_10=>aA (aH U U (cF aE se22 U U (op_gtr aE U U U (aB (s_10 (aQ U (fun c16=>?_) (fun c16=>?_))))))))))))))))))
 ·refine aC fun _ s_11=>aA (op_buildA (out:= [.int .u64 0,.int .u64 0,.int .u64 0,.int .u64 0]) aE ze26 ae26 .nil U U (aF cL sz26 U U U U U B2 (by simp) dB (fun N2 B2=>?_)))
  simp only [setL,List.set]at B2
  refine aR U U (aB (s_11 (a0 (aS ((bE (L1:= []) U (.cell U (bQ (ds:= [_,_,_,_]) ag26 B2 U U bI) (.tmp U .nil)) U (.cons _ (.refl _)) aJ ?_))))))
  exact NumP.bad (numE3 (by omega) (by omega)) (by decide)
 refine aT (aI (s_9 (aC fun _ s_12=>aA (aH U U (bD bU (.cons U .nil) (rFrom_f h (by omega)) Tryz.func149 U U (by simp) U ?_)))))
 rintro _ _ ⟨M19,a19,c19,rfl,rfl,s19⟩
 show At _ _ _ [M19,N2,R] _
 refine bD bU (.cons U .nil) (rW_f s19) Tryz.func104 U U (by simp) U ?_
 rintro _ _ ⟨rfl,wa,wb,wc,wd,rfl,hw⟩
 show At _ _ _ [M19,N2,R] _
 have hbe:be b<2^256:=Nat.lt_of_lt_of_le hbl (Nat.le_trans (Nat.pow_le_pow_right (by decide) (show b.length≤32 by omega)) (by decide))
 rw [v32_digsOf,Nat.mod_eq_of_lt hbe]at hw
 refine aF cL sz26 U U U U U B2 (by simp) sel1 (fun N2 B2=>?_)
 simp only [setL,List.set]at B2
 refine aR U U (aB (s_12 (a0 ((bH (bE (L1:= []) U (.cell U (bQ (ds:= [_,_,_,_]) ag26 B2 U U bI) (.tmp U .nil)) U (.cons _ (.refl _)) aJ ?_))))))
 exact NumP.good (numE0 (by omega) (by omega)) hw
def OfP (a b c d:UInt64) (v:Value) (L:List Heaplet):Prop:=
 ∃M p k,v=.agg #[.bool false,.slice p (bytesOf (v64 [a,b,c,d])).length k,.slice none 0 0]∧L= [M]∧Row M 5 1 p (bytesOf (v64 [a,b,c,d])).length k (u8s (bytesOf (v64 [a,b,c,d])))
theorem Of_f (a b c d:UInt64):Fn Tryz.prog 113 #[.agg #[.int .u64 (a.toNat:Int),.int .u64 (b.toNat:Int),.int .u64 (c.toNat:Int),.int .u64 (d.toNat:Int)]] [] [] (OfP a b c d):=by
 refine Fn.enter (vs:= [.agg #[.int .u64 (a.toNat:Int),.int .u64 (b.toNat:Int),.int .u64 (c.toNat:Int),.int .u64 (d.toNat:Int)]]) Tryz.func113 U U U ?_
 intro E R hR
 change At _ _ E [R] _
 refine aC fun _ s_1=>aA (op_box bU U U U (fun N1 b1 B1=>bK bU ze91 U (fun N2 b2 B2=>?_)))
 change Blk N2 b2 _ [.bool false,.slice none 0 0,.slice none 0 0]at B2
 refine aB (s_1 (aC fun _ s_2=>aA (aV (ds:= [_,_,_,_]) aE ag26 U B1 U U mem1 U (bD bU (.cons U .nil) (WShort_f a b c d) Tryz.func152 U U (by simp) U ?_))))
 rintro _ _ ⟨M4,p,k,rfl,rfl,r4⟩
 show At _ _ _ [M4,N2,N1,R] _
 refine cM (out:= [.bool false,_,.slice none 0 0]) aE ze91 pl91 (.cons U .nil) U U (aF cL sz91 U U U U U B2 (by simp) sel1 (fun N2 B2=>?_))
 simp only [setL,List.set]at B2
 refine aB (s_2 (a0 ((bJ (cI (L1:= [M4]) U (.cell U (bQ (ds:= [_,_,_]) ag91 B2 U U bI) .nil) (.cons _ (.refl _)) aJ ?_)))))
 exact⟨M4,p,k,rfl,rfl,r4⟩
open Go Go.RowKit
set_option maxRecDepth 100000
def gaveV (e:Int):Value:=.iface 84 (.agg #[.int .i64 e])
theorem FCheck_e {e:Int} (h:e≠0):FnE Tryz.prog 30 #[.int .i64 e] [] [] (fun _ _=>False) (fun v L=>v=gaveV e∧L= []):=by
 refine FnE.enter (vs:= [.int .i64 e]) Tryz.func30 U U U ?_
 intro E R hR
 change At _ _ E [R] _
 refine aC fun _ s_1=>aA (aH U U (dG aE U U U (aB (s_1 (aQ U (fun c3=>?_) (fun c3=>?_))))))
 rotate_left
 ·exact absurd h c3
 refine aA (aH U U (cM (out:= [_]) aE ze84 pl84 (.cons U .nil) U U (op_mkI aE (by kernel_rfl) U U (op_panic U (fun _=>rfl) (cP (L1:= []) (.refl _) aJ ?_)))))
 exact⟨rfl,rfl⟩
theorem FCheck_0:Fn Tryz.prog 30 #[.int .i64 0] [] [] (fun v L=>v=.tuple #[]∧L= []):=by
 refine Fn.enter (vs:= [.int .i64 0]) Tryz.func30 U U U ?_
 intro E R hR
 change At _ _ E [R] _
 refine aC fun _ s_1=>aA (aH U U (dG aE U U U (aB (s_1 (aQ U (fun c3=>?_) (fun c3=>?_))))))
 ·exact absurd U c3
 refine aT (At.retNE (L1:= []) U .nil U (.refl _) aJ ?_)
 exact⟨rfl,rfl⟩
theorem FMust_t:Fn Tryz.prog 31 #[.bool true] [] [] (fun v L=>v=.tuple #[]∧L= []):=by
 refine Fn.enter (vs:= [.bool true]) Tryz.func31 U U U ?_
 intro E R hR
 change At _ _ E [R] _
 refine aC fun _ s_1=>aA (aH U U (op_not aE U U (aB (s_1 (dA U (aT (At.retNE (L1:= []) U .nil U (.refl _) aJ ?_)))))))
 exact⟨rfl,rfl⟩
theorem field_gave (e:Int) (w:World):(Instr.field 84 (.agg #[.int .i64 e]) 0).run Tryz.prog w=.ok (.int .i64 e) w:=by
 simp [Instr.field,Sem.run_bind,run_underlying Tryz.underlying84,part,isAgg,run_underlying Tryz.underlying33,asAgg]
theorem FMust_f:FnE Tryz.prog 31 #[.bool false] [] [] (fun _ _=>False) (fun v L=>v=gaveV 2∧L= []):=by
 refine FnE.enter (vs:= [.bool false]) Tryz.func31 U U U ?_
 intro E R hR
 change At _ _ E [R] _
 refine aC fun _ s_1=>aA (aH U U (op_not aE U U (aB (s_1 (At.condT U (aA (bM (.cons U .nil) (FCheck_e (by decide)) (F:= [R]) Tryz.func30 U U (.refl _) (by simp) U ?_ ?_)))))))
 ·rintro _ _ ⟨rfl,rfl⟩
  show At _ _ _ [R] _
  refine cP (L1:= []) (.refl _) aJ ?_
  exact⟨rfl,rfl⟩
 intro _ _ h_;exact h_.elim
theorem bY {cs:List Value} {k:Nat} (h:cs.length=k):(cs.drop 0).take k=cs:=by rw [List.drop_zero,List.take_of_length_le (by omega)]
section
variable {bt be : Nat} {Nt Ne : Heaplet} {cs : List Value} {x : Value} {e : Int}
theorem FRecTx (Bt:Blk Nt bt 32 cs) (hcs:cs.length=53) (Be:Blk Ne be 33 [x]):FnRec Tryz.prog 28 #[.pointer (some ⟨bt,0,none⟩),.pointer (some ⟨be,0,none⟩)] (gaveV e) [Nt,Ne] (fun L=> ∃Nt Ne,L= [Nt,Ne]∧Blk Nt bt 32 z32∧Blk Ne be 33 [.int .i64 e]):=by
 unfold gaveV
 refine FnRec.enter (vs:= [.pointer (some ⟨bt,0,none⟩),.pointer (some ⟨be,0,none⟩)]) Tryz.func28 U U U U U ?_
 intro E R
 change At _ _ E [Nt,Ne,R] _
 refine aC fun _ s_1=>aA (aH U U (op_neNilF aE (by kernel_rfl) U U (aB (s_1 (At.condT U (At.planS [R] (.take 0 (.take 1 (.fork 2 false (.take 3 (.fork 4 false (.fork 5 true .done .nofork) .nofork)) (.fork 4 false (.fork 2 false (.take 3 (.fork 5 true .done .nofork)) .nofork) .nofork)))) (by kernel_rfl) (by kernel_rfl) (.cons _ (.cons _ (.refl _))) (cM (out:=z32) (nxpf U U) ze32 pl32 .nil U U (aP (nxpf U U) U U (At.fork ?_ ?_)))))))))
 rotate_left
 ·refine At.fork ?_ ?_
  rotate_left
  ·exact At.pNo
  refine aF (nxpa U U) sz32 U U U U U Bt (by rw [cQ,hcs];omega) dB (fun Nt Bt=>?_)
  rw [bG (by rw [cQ,hcs])]at Bt
  refine At.andS (.cons _ (.cons _ (.refl _))) (At.fork ?_ ?_)
  rotate_left
  ·exact At.pNo
  refine op_assert1 (Nx.float (nxpa U U)) (by kernel_rfl) U U (At.andS (.cons _ (.cons _ (.refl _))) (op_field (cs:= [.int .i64 e]) (v:=.int .i64 e) (fo:=0) (nxpf U U) (fun w=>field_gave e w) U U (At.fork ?_ ?_)))
  rotate_left
  ·exact At.pNo
  refine aF (nxpl U U) sz33 U U U U U Be (by simp) sel1 (fun Ne Be=>?_)
  simp only [setL,List.set]at Be
  refine At.pDone (aM (bO (aM (At.retNE (L1:= [Nt,Ne]) U .nil U (.refl _) aJ ?_))))
  exact⟨Nt,Ne,rfl,Bt,Be⟩
 refine op_assert1 (Nx.float (nxpa U U)) (by kernel_rfl) U U (At.andS (.cons _ (.cons _ (.refl _))) (op_field (cs:= [.int .i64 e]) (v:=.int .i64 e) (fo:=0) (nxpf U U) (fun w=>field_gave e w) U U (At.fork ?_ ?_)))
 rotate_left
 ·exact At.pNo
 refine aF (nxpa U U) sz32 U U U U U Bt (by rw [cQ,hcs];omega) dB (fun Nt Bt=>?_)
 rw [bG (by rw [cQ,hcs])]at Bt
 refine At.andS (.cons _ (.cons _ (.refl _))) (At.fork ?_ ?_)
 rotate_left
 ·exact At.pNo
 refine aF (nxpl U U) sz33 U U U U U Be (by simp) sel1 (fun Ne Be=>?_)
 simp only [setL,List.set]at Be
 refine At.pDone (aM (bO (aM (At.retNE (L1:= [Nt,Ne]) U .nil U (.refl _) aJ ?_))))
 exact⟨Nt,Ne,rfl,Bt,Be⟩
theorem FRetTx (a b:Value):FnRet Tryz.prog 28 #[a,b]:=by
 refine FnRet.enter (vs:= [a,b]) Tryz.func28 U U U U U ?_
 intro E R
 change At _ _ E [R] _
 refine aC fun _ s_1=>aA (aH U U (op_neNilT aE (by kernel_rfl) U U (aB (s_1 (dA U (aT (At.retNE (L1:= []) U .nil U (.refl _) aJ ?_)))))))
 exact U
end
theorem FEnv_nil {R:Heaplet} :Fn Tryz.prog 29 #[.slice none 0 0] [] [R] (fun v L=>v=.tuple #[.int .i64 0,.slice none 0 0,.int .i64 2]∧L= []):=
 (Envelope_f (b:= []) (RSl.nil R 1) (by decide)).mono fun v L h=>by
  rcases h with ⟨rfl,_,rfl⟩|⟨_,_,_,_,_,_,h,_⟩
  ·exact⟨rfl,rfl⟩
  ·cases h
theorem FReadTx_nil:Fn Tryz.prog 7 #[.slice none 0 0] [] [] (fun v L=>v=.tuple #[.agg z32.toArray,.int .i64 2]∧L= []):=by
 have hl:=cQ
 refine Fn.enterD (vs:= [.slice none 0 0]) Tryz.func7 U U U ?_
 intro E R hR hE
 change At _ _ E [R] _
 refine aC fun _ s_1=>aA (bK bU ze32 U (fun N2 b2 B2=>?_))
 change Blk N2 b2 _ z32 at B2
 refine bK bU ze33 U (fun N3 b3 B3=>?_)
 change Blk N3 b3 _ [.int .i64 0]at B3
 refine aB (s_1 (aC fun _ s_2=>aA (op_mkF aE .nil (.cons U (.cons U .nil)) U (op_defer U hE (aB (s_2 (aC fun _ s_3=>aA (aH U U (bD bU (.cons U .nil) (FEnv_nil (R:=R)) Tryz.func29 U U (by simp) U ?_)))))))))
 rintro _ _ ⟨rfl,rfl⟩
 show At _ _ _ [N3,N2,R] _
 refine aH U U (aO aE U U U (aO aE U U U (aO aE U U U (aR U U (aR U U (aF cL sz33 U U U U U B3 (by simp) dB (fun N3 B3=>?_)))))))
 simp only [setL,List.set]at B3
 refine aB (s_3 (aC fun _ s_4=>aA (aK aE sc33 U B3 U bI U ?_)))
 refine bM (.cons U .nil) (FCheck_e (by decide)) (F:= [N3,N2,R]) Tryz.func30 U U (.refl _) (by simp) U ?_ ?_
 ·rintro _ _ ⟨rfl,rfl⟩
  show At _ _ _ [N3,N2,R] _
  refine aY ((aM (bO (aM (At.panD (F:= [R]) hE (FRecTx B2 hl B3) Tryz.func28 U U (.refl _) ?_)))))
  rintro L_ ⟨N2,N3,rfl,B2,B3⟩
  show At _ _ _ [N2,N3,R] _
  refine bE (L1:= []) U (.cell U (bQ (ds:=z32) ag32 B2 (bY hl) hl bI) (.cell U (res_scal sc33 B3 U mem1) .nil)) U (.cons _ (.cons _ (.refl _))) aJ ?_
  exact⟨rfl,rfl⟩
 intro _ _ h_;exact h_.elim
open Go Go.RowKit
def addS (x y c:UInt64):UInt64:=UInt64.ofNat ((x.toNat+y.toNat+c.toNat) % 2^64)
def addC (x y c:UInt64):UInt64:=UInt64.ofNat ((x.toNat+y.toNat+c.toNat)/2^64)
def subS (x y c:UInt64):UInt64:=UInt64.ofNat ((x.toNat+2^64- y.toNat- c.toNat) % 2^64)
def subC (x y c:UInt64):UInt64:=if x.toNat<y.toNat+c.toNat then 1 else 0
theorem subS_nat (x y c:UInt64):(subS x y c).toNat=(x.toNat+2^64- y.toNat- c.toNat) % 2^64:=by rw [subS,UInt64.toNat_ofNat',Nat.mod_mod]
theorem subC_nat (x y c:UInt64):(subC x y c).toNat=if x.toNat<y.toNat+c.toNat then 1 else 0:=by
 unfold subC;split<;>rfl
theorem sub64_law (x y c:UInt64) (hc:c.toNat≤1):(subS x y c).toNat+y.toNat+c.toNat=x.toNat+(subC x y c).toNat*2^64∧(subC x y c).toNat≤1:=by
 have hx:=x.toNat_lt
 have hy:=y.toNat_lt
 rw [subS_nat,subC_nat]
 split<;>constructor<;>omega
def mulH (x y:UInt64):UInt64:=UInt64.ofNat (x.toNat*y.toNat/2^64)
theorem v64_snoc (w:List UInt64) (x:UInt64):v64 (w++ [x])=v64 w+2^(64*w.length)*x.toNat:=by
 rw [v64_append]
 simp only [v64,n64,val,List.map_cons,List.map_nil,Nat.mul_zero,Nat.add_zero]
theorem v64_take_all {l:List UInt64} {k:Nat} (h:l.length≤k):v64 (l.take k)=v64 l:=by rw [List.take_of_length_le h]
theorem v64_take_succD (l:List UInt64) (k:Nat):v64 (l.take (k+1))=v64 (l.take k)+2^(64*k)*(l.getD k 0).toNat:=by
 rcases Nat.lt_or_ge k l.length with h|h
 ·exact v64_take_succ h
 ·rw [v64_take_all h,v64_take_all (by omega),List.getD_eq_getElem?_getD,List.getElem?_eq_none h]
  simp
theorem set_mid {α:Type} {A B:List α} {x y:α} {j:Nat} (h:A.length=j):(A++x::B).set j y=(A++ [y])++B:=by
 subst h;simp
theorem set_fill {α:Type} {w:List α} {k L:Nat} {z y:α} (hw:w.length=k) (h:k<L):(w++List.replicate (L- k) z).set k y=(w++ [y])++List.replicate (L- (k+1)) z:=by
 rw [show L- k=(L- (k+1))+1 by omega,List.replicate_succ,set_mid hw]
theorem getD_mid {α:Type} {A B:List α} {x z:α} {j:Nat} (h:A.length=j):(A++x::B).getD j z=x:=by
 subst h;simp
theorem pow64 (k:Nat):(2:Nat)^(64*(k+1))=2^(64*k)*18446744073709551616:=by rw [show 64*(k+1)=64*k+64 by omega,Nat.pow_add]
theorem sub_round {w a b:List UInt64} {k:Nat} {c:UInt64} (hw:w.length=k) (hc:c.toNat≤1) (hv:v64 w+v64 (b.take k)=v64 (a.take k)+c.toNat*2^(64*k)):
 v64 (w++ [subS (a.getD k 0) (b.getD k 0) c])+v64 (b.take (k+1))=v64 (a.take (k+1))+(subC (a.getD k 0) (b.getD k 0) c).toNat*2^(64*(k+1)):=by
 have h:=(sub64_law (a.getD k 0) (b.getD k 0) c hc).1
 rw [v64_snoc,hw,v64_take_succD,v64_take_succD,pow64]
 have h2:=congrArg (2^(64*k)* ·) h
 simp only [Nat.mul_add]at h2
 generalize (subS (a.getD k 0) (b.getD k 0) c).toNat=s at*
 generalize (subC (a.getD k 0) (b.getD k 0) c).toNat=t at*
 have e:t*(2^(64*k)*18446744073709551616)=2^(64*k)*(t*2^64):=by rw [Nat.mul_left_comm]
 rw [e]
 rw [Nat.mul_comm c.toNat]at hv
 omega
theorem shl64_nat (x:UInt64) (s:Nat):(shl64 x s).toNat=x.toNat*2^s % 2^64:=by rw [shl64,UInt64.toNat_ofNat']
theorem shr64_nat (x:UInt64) (s:Nat):(shr64 x s).toNat=x.toNat/2^s:=by
 rw [shr64,UInt64.toNat_ofNat',Nat.mod_eq_of_lt (Nat.lt_of_le_of_lt (Nat.div_le_self _ _) x.toNat_lt)]
theorem limb_mid {x y:UInt64} {W r:Nat} (hr:r≤64) (hy:W % 2^64=y.toNat):(x.toNat+2^64*W)/2^r % 2^64=(shr64 x r |||shl64 y (64- r)).toNat:=by
 have hx:=x.toNat_lt
 rw [UInt64.toNat_or,shr64_nat,shl64_nat, ←hy]
 have e1:(2:Nat)^64=2^r*2^(64- r):=by rw [←Nat.pow_add];congr 1;omega
 have hp:0<2^r:=Nat.pow_pos (by decide)
 have e2:(x.toNat+2^64*W)/2^r=x.toNat/2^r+2^(64- r)*W:=by
  rw [e1,Nat.mul_assoc,Nat.add_mul_div_left _ _ hp]
 have e3:W % 2^64*2^(64- r) % 2^64=W % 2^r*2^(64- r):=by
  have:W % 2^64*2^(64- r) % 2^64=W % 2^64*2^(64- r) % (2^r*2^(64- r)):=by rw [←e1]
  rw [this,Nat.mul_mod_mul_right,Nat.mod_mod_of_dvd _ (Nat.pow_dvd_pow 2 hr)]
 have e4:2^(64- r)*W % 2^64=W % 2^r*2^(64- r):=by
  have:2^(64- r)*W % 2^64=W*2^(64- r) % (2^r*2^(64- r)):=by rw [←e1,Nat.mul_comm]
  rw [this,Nat.mul_mod_mul_right]
 have hlt:x.toNat/2^r<2^(64- r):=by
  rw [Nat.div_lt_iff_lt_mul hp, ←Nat.pow_add,show 64- r+r=64 by omega];exact hx
 have hsum:x.toNat/2^r+W % 2^r*2^(64- r)<2^64:=by
  have h1:W % 2^r+1≤2^r:=Nat.mod_lt _ hp
  have h2:=Nat.mul_le_mul_right (2^(64- r)) h1
  rw [←e1,Nat.add_mul]at h2
  omega
 rw [e2,e3,Nat.add_mod,e4,Nat.mod_eq_of_lt (Nat.lt_of_le_of_lt (Nat.div_le_self _ _) hx),Nat.mod_eq_of_lt hsum]
 rw [Nat.or_comm,Nat.mul_comm (W % 2^r)]
 rw [Nat.add_comm,Nat.two_pow_add_eq_or_of_lt hlt]
open Go Go.RowKit
def rolN (v:UInt64) (n:Nat):UInt64:=if n=0 then v else shl64 v n |||shr64 v (64- n)
theorem rol_go {v:UInt64} {n:Nat} (h:n<64):shl64 v n |||shr64 v (64- n)=rolN v n:=by
 unfold rolN
 split
 ·rename_i h0
  subst h0
  apply UInt64.toNat_inj.1
  rw [UInt64.toNat_or,shl64_nat,shr64_nat,Nat.pow_zero,Nat.mul_one,Nat.mod_eq_of_lt v.toNat_lt,Nat.div_eq_of_lt v.toNat_lt,Nat.or_zero]
 ·rfl
def rI:Nat→Int
 |0=>1
 |n+1=>bits .xor .u8 (IntKind.u8.wrap (rI n*2^(min (1:Int).toNat IntKind.u8.bits))) (IntKind.u8.wrap (rI n/2^(min (7:Int).toNat IntKind.u8.bits)*113))
def cStep (l:List UInt64) (n:Nat):List UInt64:=l.set (n/7) (l.getD (n/7) 0 |||shl64 (UInt64.ofNat (bits .and .u8 (rI n) 1).toNat) (shl64 1 (n % 7)- 1).toNat)
def cN:Nat→List UInt64
 |0=>List.replicate 24 0
 |n+1=>cStep (cN n) n
theorem cN_len: ∀n,(cN n).length=24
 |0=>rfl
 |n+1=>by rw [cN,cStep,List.length_set,cN_len n]
def rcL:List UInt64:=cN 168
def rJ:Nat→Int
 |0=>1
 |n+1=>if rJ n*2≥256 then bits .xor .i64 (rJ n*2- 256) 113 else rJ n*2
def wJ (r:Nat):Nat→UInt64
 |0=>0
 |n+1=>if 7*r≤n∧bits .and .i64 (rJ n) 1=1 then wJ r n |||shl64 1 (shl64 1 (n- 7*r)- 1).toNat else wJ r n
set_option maxRecDepth 100000 in
theorem rI_ok: ∀n:Fin 169,0≤rI n.1∧rI n.1≤255∧0≤bits .and .u8 (rI n.1) 1:=by decide+kernel
def thC (a:List UInt64):Nat→List UInt64
 |0=> [0,0,0,0,0]
 |i+1=>(thC a i).set (i % 5) ((thC a i).getD (i % 5) 0^^^a.getD i 0)
theorem thC_len (a:List UInt64): ∀i,(thC a i).length=5
 |0=>rfl
 |i+1=>by rw [thC,List.length_set,thC_len a i]
def thA (c a:List UInt64):Nat→List UInt64
 |0=>a
 |i+1=>(thA c a i).set i ((thA c a i).getD i 0^^^(c.getD ((i % 5+4) % 5) 0^^^rolN (c.getD ((i % 5+1) % 5) 0) 1))
theorem thA_len (c a:List UInt64): ∀i,(thA c a i).length=a.length
 |0=>rfl
 |i+1=>by rw [thA,List.length_set,thA_len c a i]
def theta (a:List UInt64):List UInt64:=thA (thC a 25) a 25
theorem theta_len (a:List UInt64):(theta a).length=a.length:=thA_len ..
def pX:Nat→Nat×Nat
 |0=>(1,0)
 |t+1=>((pX t).2,(2*(pX t).1+3*(pX t).2) % 5)
theorem pX_lt: ∀t,(pX t).1<5∧(pX t).2<5
 |0=>⟨by decide,by decide⟩
 |t+1=>⟨(pX_lt t).2,Nat.mod_lt _ (by decide)⟩
def pos (t:Nat):Nat:=(pX t).1+5*(pX t).2
theorem pos_lt (t:Nat):pos t<25:=by
 have:=pX_lt t
 unfold pos;omega
def rot (t:Nat):Nat:=(t+1)*(t+2)/2 % 64
def tuP (a:List UInt64):Nat→List UInt64×UInt64
 |0=>(a,a.getD 1 0)
 |t+1=>((tuP a t).1.set (pos (t+1)) (rolN (tuP a t).2 (rot t)),(tuP a t).1.getD (pos (t+1)) 0)
theorem tuP_len (a:List UInt64): ∀t,(tuP a t).1.length=a.length
 |0=>rfl
 |t+1=>by rw [tuP];simp only [List.length_set];exact tuP_len a t
def tuR (a:List UInt64):Nat→List UInt64
 |0=>(List.replicate 25 0).set 0 (a.getD 0 0)
 |t+1=>(tuR a t).set (pos (t+1)) (rolN (a.getD (pos t) 0) (rot t))
def chL (b:List UInt64) (y x:Nat):UInt64:=b.getD (y+x) 0^^^(~~~(b.getD (y+(x+1) % 5) 0)&&&b.getD (y+(x+2) % 5) 0)
def chI (row p:List UInt64) (y:Nat):Nat→List UInt64
 |0=>p
 |x+1=>(chI row p y x).set (y+x) (row.getD x 0^^^(~~~(row.getD ((x+1) % 5) 0)&&&row.getD ((x+2) % 5) 0))
theorem chI_len (row p:List UInt64) (y:Nat): ∀x,(chI row p y x).length=p.length
 |0=>rfl
 |x+1=>by rw [chI,List.length_set,chI_len row p y x]
def chP (a:List UInt64):Nat→List UInt64
 |0=>a
 |k+1=>chI (((chP a k).drop (5*k)).take 5) (chP a k) (5*k) 5
theorem chP_len (a:List UInt64): ∀k,(chP a k).length=a.length
 |0=>rfl
 |k+1=>by rw [chP,chI_len,chP_len a k]
def chR (b a:List UInt64):Nat→List UInt64
 |0=>a
 |i+1=>(chR b a i).set i (b.getD i 0^^^(~~~(b.getD (i- i % 5+(i+1) % 5) 0)&&&b.getD (i- i % 5+(i+2) % 5) 0))
def kRound (a:List UInt64) (k:Nat):List UInt64:=(chP (tuP (theta a) 24).1 5).set 0 ((chP (tuP (theta a) 24).1 5).getD 0 0^^^rcL.getD k 0)
theorem kRound_len (a:List UInt64) (k:Nat):(kRound a k).length=a.length:=by rw [kRound,List.length_set,chP_len,tuP_len,theta_len]
def prm (a:List UInt64):Nat→List UInt64
 |0=>a
 |k+1=>kRound (prm a k) k
theorem prm_len (a:List UInt64): ∀k,(prm a k).length=a.length
 |0=>rfl
 |k+1=>by rw [prm,kRound_len,prm_len a k]
def abI (a:List UInt64) (l:List UInt8):Nat→List UInt64
 |0=>a
 |i+1=>(abI a l i).set (i/8) ((abI a l i).getD (i/8) 0^^^shl64 (UInt64.ofNat (l.getD i 0).toNat) (i % 8*8))
theorem abI_len (a:List UInt64) (l:List UInt8): ∀i,(abI a l i).length=a.length
 |0=>rfl
 |i+1=>by rw [abI,List.length_set,abI_len a l i]
def absorb (a:List UInt64) (l:List UInt8):List UInt64:=prm (abI a l 136) 24
theorem absorb_len (a:List UInt64) (l:List UInt8):(absorb a l).length=a.length:=by rw [absorb,prm_len,abI_len]
def absN (l:List UInt8):Nat→List UInt64
 |0=>List.replicate 25 0
 |k+1=>absorb (absN l k) ((l.drop (136*k)).take 136)
theorem absN_len (l:List UInt8): ∀k,(absN l k).length=25
 |0=>List.length_replicate
 |k+1=>by rw [absN,absorb_len,absN_len l k]
def padL (r:List UInt8):List UInt8:=
 let z:=(r++List.replicate (136- r.length) 0).set r.length 1
 z.set 135 (z.getD 135 0 |||128)
def ouI (a:List UInt64):Nat→List UInt8
 |0=>List.replicate 32 0
 |i+1=>(ouI a i).set i (UInt8.ofNat (shr64 (a.getD (i/8) 0) (i % 8*8)).toNat)
theorem ouI_len (a:List UInt64): ∀i,(ouI a i).length=32
 |0=>List.length_replicate
 |i+1=>by rw [ouI,List.length_set,ouI_len a i]
def kec (l:List UInt8):List UInt8:=ouI (absorb (absN l (l.length/136)) (padL (l.drop (136*(l.length/136))))) 32
theorem kec_len (l:List UInt8):(kec l).length=32:=ouI_len ..
end Go.Proofs.YtjfagifjajielaaGreat
