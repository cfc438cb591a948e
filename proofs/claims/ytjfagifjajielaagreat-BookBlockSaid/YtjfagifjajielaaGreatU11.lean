/- Several texts in one: see the remarks ahead of each part. No condition but those told there. -/
import Derived.Test.YtjfagifjajielaaGreatU8
import Derived.Test.YtjfagifjajielaaGreatU10
import Derived.Test.YtjfagifjajielaaGreatU9
import Derived.Test.YtjfagifjajielaaGreatU5
import Derived.Test.YtjfagifjajielaaGreatU3
import Derived.Test.YtjfagifjajielaaGreatU4
set_option linter.unusedSimpArgs false
set_option linter.unusedVariables false
/- Numbers: rlp.Number, rlp.Of and the reference's. No condition. -/
namespace Go.Proofs.YtjfagifjajielaaGreat
open Go Go.RowKit
/-- The error's number. -/
def numE (b:List UInt8):Nat:=if 0<b.length∧(b.getD 0 0).toNat=0 then 2 else if 32<b.length then 3 else 0
/-- The number. -/
def numV (b:List UInt8):Nat:=if numE b=0 then be b else 0
theorem numE2 {b:List UInt8} (h1:0<b.length) (h2:(b.getD 0 0).toNat=0):numE b=2:=by rw [numE,if_pos ⟨h1,h2⟩]
theorem numE3 {b:List UInt8} (h1: ¬(0<b.length∧(b.getD 0 0).toNat=0)) (h2:32<b.length):numE b=3:=by rw [numE,if_neg h1,if_pos h2]
theorem numE0 {b:List UInt8} (h1: ¬(0<b.length∧(b.getD 0 0).toNat=0)) (h2: ¬32<b.length):numE b=0:=by rw [numE,if_neg h1,if_neg h2]
def NumP (b:List UInt8) (v:Value) (L:List Heaplet):Prop:=
 ∃wa wb wc wd:UInt64,v=.tuple #[.agg #[.int .u64 (wa.toNat:Int),.int .u64 (wb.toNat:Int),.int .u64 (wc.toNat:Int),.int .u64 (wd.toNat:Int)],.int .i64 (numE b:Int)]∧L= []∧v64 [wa,wb,wc,wd]=numV b
theorem NumP.bad {b:List UInt8} {e:Nat} (h:numE b=e) (he:e≠0):NumP b (.tuple #[.agg #[.int .u64 0,.int .u64 0,.int .u64 0,.int .u64 0],.int .i64 (e:Int)]) []:=by
 refine⟨0,0,0,0,by rw [h];rfl,rfl,?_⟩
 rw [numV,if_neg (by omega)];rfl
theorem NumP.good {b:List UInt8} {wa wb wc wd:UInt64} (h:numE b=0) (hv:v64 [wa,wb,wc,wd]=be b):NumP b (.tuple #[.agg #[.int .u64 (wa.toNat:Int),.int .u64 (wb.toNat:Int),.int .u64 (wc.toNat:Int),.int .u64 (wd.toNat:Int)],.int .i64 0]) []:=
 ⟨wa,wb,wc,wd,by rw [h];rfl,rfl,by rw [numV,if_pos h,hv]⟩
theorem Number_s {N:Heaplet} {ao:Option Addr} {n cap:Nat} {b:List UInt8} (h:RSl N 1 ao n cap (u8s b)) (hn:n≤32):Fn Tryz.prog 141 #[.slice ao n cap] [] [N] (NumP b):=by
 have hlen:=h.len8
 have hcap:=h.cap63
 refine Fn.enter (vs:= [.slice ao n cap]) Tryz.func141 rfl rfl rfl ?_
 intro E R hR
 have h:=h.le (hR N (by simp))
 change At _ _ E [R] _
 refine At.seq fun _ s_1=>At.region (aS (aT rfl) ze26 rfl (fun N2 b2 B2=>?_))
 change Blk N2 b2 _ [.int .u64 0,.int .u64 0,.int .u64 0,.int .u64 0]at B2
 refine aD (aC rfl) rfl rfl (aA (aB (s_1 (At.seq fun _ s_2=>At.seq fun _ s_3=>At.region (aE (aC rfl) rfl rfl (a7 (aC rfl) se22 rfl rfl (op_gtr (aC rfl) rfl rfl rfl (aE (aC rfl) rfl rfl (At.partP (d:=9) rfl (fun g9=>?_) (fun g9=>?_))))))))))
 ·refine aE (bF rfl rfl rfl rfl) rfl rfl (op_idx1 (bF rfl rfl rfl rfl) se22 rfl rfl (by assumption) (show _=((0:Nat):Int)from rfl) (by omega) rfl ?_)
  refine bK (bF rfl rfl rfl rfl) sc5 rfl (by assumption) (by first|exact get8 (by omega)|exact get64 (by omega)|exact get32 (by omega)) (by first|exact aP|exact bM|exact mem2|exact mem3|exact mem4|exact mem5|exact mem6|exact mem7|exact mem8|exact mem9) rfl ?_
  refine op_eql (bF rfl rfl rfl rfl) rfl rfl rfl (bN (aC rfl) rfl rfl rfl (aA (aB (s_3 (aO rfl (fun c14=>?_) (fun c14=>?_))))))
  ·refine At.seq fun _ s_4=>At.region (op_buildA (out:= [.int .u64 0,.int .u64 0,.int .u64 0,.int .u64 0]) (aC rfl) ze26 ae26 .nil rfl rfl (aI (nxl rfl) sz26 rfl rfl rfl rfl rfl B2 (by simp) sel0 (fun N2 B2=>?_)))
   simp only [setL,List.set]at B2
   refine aD (aC rfl) rfl rfl (aA (aB (s_4 (At.ret (aJ ((aU (L1:= []) rfl (.cell rfl (aZ (ds:= [_,_,_,_]) ag26 B2 rfl rfl aP) (.tmp rfl .nil)) rfl (.cons _ (.refl _)) (.refl _) ?_)))))))
   exact NumP.bad (numE2 (by omega) (by omega)) (by decide)
  refine At.skip (aB (s_2 (At.seq fun _ s_5=>At.region (aE (aC rfl) rfl rfl (aG (aT rfl) (.cons rfl .nil) (WFrom_f h hn) Tryz.func169 rfl rfl (by simp) rfl ?_)))))
  rintro v18 L18 ⟨wa,wb,wc,wd,rfl,rfl,hw⟩
  change At _ _ _ [N2,R] _
  refine aE (aC rfl) rfl rfl (aH (aC rfl) rfl rfl rfl (aH (aC rfl) rfl rfl rfl (aS (aT rfl) ze26 rfl (fun N4 b4 B4=>?_))))
  change Blk N4 b4 _ [.int .u64 0,.int .u64 0,.int .u64 0,.int .u64 0]at B4
  refine aI (nxl rfl) sz26 rfl rfl rfl rfl rfl B4 (by simp) sel0 (fun N4 B4=>?_)
  simp only [setL,List.set]at B4
  refine aD (aC rfl) rfl rfl (aA (aB (s_5 (At.seq fun _ s_6=>At.seq fun _ s_7=>At.region (aE (aC rfl) rfl rfl (op_not (aC rfl) rfl rfl (aA (aB (s_7 (At.condF rfl (At.skip (aB (s_6 (At.seq fun _ s_8=>At.region (aQ (ds:= [_,_,_,_]) (aC rfl) ag26 rfl B4 rfl rfl aP rfl (aI (nxl rfl) sz26 rfl rfl rfl rfl rfl B2 (by simp) sel1 (fun N2 B2=>?_)))))))))))))))))
  simp only [setL,List.set]at B2
  refine aD (aC rfl) rfl rfl (aA (aB (s_8 (At.ret ((At.sub (L':= [N2,R]) (.cons_cons _ (.cons _ (.cons_cons _ (.slnil)))) (aU (L1:= []) rfl (.cell rfl (aZ (ds:= [_,_,_,_]) ag26 B2 rfl rfl aP) (.tmp rfl .nil)) rfl (.cons _ (.refl _)) (.refl _) ?_)))))))
  exact NumP.good (numE0 (by omega) (by omega)) hw
 refine aN rfl rfl rfl rfl rfl rfl rfl (aN rfl rfl rfl rfl rfl rfl rfl (aN rfl rfl rfl rfl rfl rfl rfl (aN rfl rfl rfl rfl rfl rfl rfl (op_pickF (aC rfl) rfl rfl rfl (aA (aB (s_3 (At.condF rfl (At.skip (aB (s_2 (At.seq fun _ s_9=>At.region (aE (aC rfl) rfl rfl (aG (aT rfl) (.cons rfl .nil) (WFrom_f h hn) Tryz.func169 rfl rfl (by simp) rfl ?_))))))))))))))
 rintro v18 L18 ⟨wa,wb,wc,wd,rfl,rfl,hw⟩
 change At _ _ _ [N2,R] _
 refine aE (aC rfl) rfl rfl (aH (aC rfl) rfl rfl rfl (aH (aC rfl) rfl rfl rfl (aS (aT rfl) ze26 rfl (fun N4 b4 B4=>?_))))
 change Blk N4 b4 _ [.int .u64 0,.int .u64 0,.int .u64 0,.int .u64 0]at B4
 refine aI (nxl rfl) sz26 rfl rfl rfl rfl rfl B4 (by simp) sel0 (fun N4 B4=>?_)
 simp only [setL,List.set]at B4
 refine aD (aC rfl) rfl rfl (aA (aB (s_9 (At.seq fun _ s_10=>At.seq fun _ s_11=>At.region (aE (aC rfl) rfl rfl (op_not (aC rfl) rfl rfl (aA (aB (s_11 (At.condF rfl (At.skip (aB (s_10 (At.seq fun _ s_12=>At.region (aQ (ds:= [_,_,_,_]) (aC rfl) ag26 rfl B4 rfl rfl aP rfl (aI (nxl rfl) sz26 rfl rfl rfl rfl rfl B2 (by simp) sel1 (fun N2 B2=>?_)))))))))))))))))
 simp only [setL,List.set]at B2
 refine aD (aC rfl) rfl rfl (aA (aB (s_12 (At.ret ((At.sub (L':= [N2,R]) (.cons_cons _ (.cons _ (.cons_cons _ (.slnil)))) (aU (L1:= []) rfl (.cell rfl (aZ (ds:= [_,_,_,_]) ag26 B2 rfl rfl aP) (.tmp rfl .nil)) rfl (.cons _ (.refl _)) (.refl _) ?_)))))))
 exact NumP.good (numE0 (by omega) (by omega)) hw
theorem Number_l {N:Heaplet} {ao:Option Addr} {n cap:Nat} {b:List UInt8} (h:RSl N 1 ao n cap (u8s b)) (hn:32<n):Fn Tryz.prog 141 #[.slice ao n cap] [] [N] (NumP b):=by
 have hlen:=h.len8
 have hcap:=h.cap63
 refine Fn.enter (vs:= [.slice ao n cap]) Tryz.func141 rfl rfl rfl ?_
 intro E R hR
 have h:=h.le (hR N (by simp))
 change At _ _ E [R] _
 refine At.seq fun _ s_1=>At.region (aS (aT rfl) ze26 rfl (fun N2 b2 B2=>?_))
 change Blk N2 b2 _ [.int .u64 0,.int .u64 0,.int .u64 0,.int .u64 0]at B2
 refine aD (aC rfl) rfl rfl (aA (aB (s_1 (At.seq fun _ s_2=>At.seq fun _ s_3=>At.region (aE (aC rfl) rfl rfl (a7 (aC rfl) se22 rfl rfl (op_gtr (aC rfl) rfl rfl rfl (aE (aC rfl) rfl rfl (At.partP (d:=9) rfl (fun g9=>?_) (fun g9=>?_))))))))))
 ·refine aE (bF rfl rfl rfl rfl) rfl rfl (op_idx1 (bF rfl rfl rfl rfl) se22 rfl rfl (by assumption) (show _=((0:Nat):Int)from rfl) (by omega) rfl ?_)
  refine bK (bF rfl rfl rfl rfl) sc5 rfl (by assumption) (by first|exact get8 (by omega)|exact get64 (by omega)|exact get32 (by omega)) (by first|exact aP|exact bM|exact mem2|exact mem3|exact mem4|exact mem5|exact mem6|exact mem7|exact mem8|exact mem9) rfl ?_
  refine op_eql (bF rfl rfl rfl rfl) rfl rfl rfl (bN (aC rfl) rfl rfl rfl (aA (aB (s_3 (aO rfl (fun c14=>?_) (fun c14=>?_))))))
  ·refine At.seq fun _ s_4=>At.region (op_buildA (out:= [.int .u64 0,.int .u64 0,.int .u64 0,.int .u64 0]) (aC rfl) ze26 ae26 .nil rfl rfl (aI (nxl rfl) sz26 rfl rfl rfl rfl rfl B2 (by simp) sel0 (fun N2 B2=>?_)))
   simp only [setL,List.set]at B2
   refine aD (aC rfl) rfl rfl (aA (aB (s_4 (At.ret (aJ ((aU (L1:= []) rfl (.cell rfl (aZ (ds:= [_,_,_,_]) ag26 B2 rfl rfl aP) (.tmp rfl .nil)) rfl (.cons _ (.refl _)) (.refl _) ?_)))))))
   exact NumP.bad (numE2 (by omega) (by omega)) (by decide)
  refine At.skip (aB (s_2 (At.seq fun _ s_5=>At.region (aE (aC rfl) rfl rfl (aG (aT rfl) (.cons rfl .nil) (WFrom_long h hn) Tryz.func169 rfl rfl (by simp) rfl ?_)))))
  rintro v18 L18 ⟨rfl,rfl⟩
  change At _ _ _ [N2,R] _
  refine aE (aC rfl) rfl rfl (aH (aC rfl) rfl rfl rfl (aH (aC rfl) rfl rfl rfl (aS (aT rfl) ze26 rfl (fun N4 b4 B4=>?_))))
  change Blk N4 b4 _ [.int .u64 0,.int .u64 0,.int .u64 0,.int .u64 0]at B4
  refine aI (nxl rfl) sz26 rfl rfl rfl rfl rfl B4 (by simp) sel0 (fun N4 B4=>?_)
  simp only [setL,List.set]at B4
  refine aD (aC rfl) rfl rfl (aA (aB (s_5 (At.seq fun _ s_6=>At.seq fun _ s_7=>At.region (aE (aC rfl) rfl rfl (op_not (aC rfl) rfl rfl (aA (aB (s_7 (At.condT rfl (At.seq fun _ s_8=>At.region (op_buildA (out:= [.int .u64 0,.int .u64 0,.int .u64 0,.int .u64 0]) (aC rfl) ze26 ae26 .nil rfl rfl (aI (nxl rfl) sz26 rfl rfl rfl rfl rfl B2 (by simp) sel1 (fun N2 B2=>?_))))))))))))))
  simp only [setL,List.set]at B2
  refine aD (aC rfl) rfl rfl (aA (aB (s_8 (At.ret (aJ ((At.sub (L':= [N2,R]) (.cons_cons _ (.cons _ (.cons_cons _ (.slnil)))) (aU (L1:= []) rfl (.cell rfl (aZ (ds:= [_,_,_,_]) ag26 B2 rfl rfl aP) (.tmp rfl .nil)) rfl (.cons _ (.refl _)) (.refl _) ?_))))))))
  exact NumP.bad (numE3 (by omega) (by omega)) (by decide)
 refine aN rfl rfl rfl rfl rfl rfl rfl (aN rfl rfl rfl rfl rfl rfl rfl (aN rfl rfl rfl rfl rfl rfl rfl (aN rfl rfl rfl rfl rfl rfl rfl (op_pickF (aC rfl) rfl rfl rfl (aA (aB (s_3 (At.condF rfl (At.skip (aB (s_2 (At.seq fun _ s_9=>At.region (aE (aC rfl) rfl rfl (aG (aT rfl) (.cons rfl .nil) (WFrom_long h hn) Tryz.func169 rfl rfl (by simp) rfl ?_))))))))))))))
 rintro v18 L18 ⟨rfl,rfl⟩
 change At _ _ _ [N2,R] _
 refine aE (aC rfl) rfl rfl (aH (aC rfl) rfl rfl rfl (aH (aC rfl) rfl rfl rfl (aS (aT rfl) ze26 rfl (fun N4 b4 B4=>?_))))
 change Blk N4 b4 _ [.int .u64 0,.int .u64 0,.int .u64 0,.int .u64 0]at B4
 refine aI (nxl rfl) sz26 rfl rfl rfl rfl rfl B4 (by simp) sel0 (fun N4 B4=>?_)
 simp only [setL,List.set]at B4
 refine aD (aC rfl) rfl rfl (aA (aB (s_9 (At.seq fun _ s_10=>At.seq fun _ s_11=>At.region (aE (aC rfl) rfl rfl (op_not (aC rfl) rfl rfl (aA (aB (s_11 (At.condT rfl (At.seq fun _ s_12=>At.region (op_buildA (out:= [.int .u64 0,.int .u64 0,.int .u64 0,.int .u64 0]) (aC rfl) ze26 ae26 .nil rfl rfl (aI (nxl rfl) sz26 rfl rfl rfl rfl rfl B2 (by simp) sel1 (fun N2 B2=>?_))))))))))))))
 simp only [setL,List.set]at B2
 refine aD (aC rfl) rfl rfl (aA (aB (s_12 (At.ret (aJ ((At.sub (L':= [N2,R]) (.cons_cons _ (.cons _ (.cons_cons _ (.slnil)))) (aU (L1:= []) rfl (.cell rfl (aZ (ds:= [_,_,_,_]) ag26 B2 rfl rfl aP) (.tmp rfl .nil)) rfl (.cons _ (.refl _)) (.refl _) ?_))))))))
 exact NumP.bad (numE3 (by omega) (by omega)) (by decide)
theorem Number_f {N:Heaplet} {ao:Option Addr} {n cap:Nat} {b:List UInt8} (h:RSl N 1 ao n cap (u8s b)):Fn Tryz.prog 141 #[.slice ao n cap] [] [N] (NumP b):=by
 rcases Nat.lt_or_ge 32 n with hn|hn
 ·exact Number_l h hn
 ·exact Number_s h hn
def OfP (a b c d:UInt64) (v:Value) (L:List Heaplet):Prop:=
 ∃M p k,v=.agg #[.bool false,.slice p (bytesOf (v64 [a,b,c,d])).length k,.slice none 0 0]∧L= [M]∧Row M 5 1 p (bytesOf (v64 [a,b,c,d])).length k (u8s (bytesOf (v64 [a,b,c,d])))
theorem Of_f (a b c d:UInt64):Fn Tryz.prog 113 #[.agg #[.int .u64 (a.toNat:Int),.int .u64 (b.toNat:Int),.int .u64 (c.toNat:Int),.int .u64 (d.toNat:Int)]] [] [] (OfP a b c d):=by
 refine Fn.enter (vs:= [.agg #[.int .u64 (a.toNat:Int),.int .u64 (b.toNat:Int),.int .u64 (c.toNat:Int),.int .u64 (d.toNat:Int)]]) Tryz.func113 rfl rfl rfl ?_
 intro E R hR
 change At _ _ E [R] _
 refine At.seq fun _ s_1=>At.region (op_box (aT rfl) rfl rfl rfl (fun N1 b1 B1=>aS (aT rfl) ze91 rfl (fun N2 b2 B2=>?_)))
 change Blk N2 b2 _ [.bool false,.slice none 0 0,.slice none 0 0]at B2
 refine aA (aB (s_1 (At.seq fun _ s_2=>At.region (aQ (ds:= [_,_,_,_]) (aC rfl) ag26 rfl B1 rfl rfl bM rfl (aG (aT rfl) (.cons rfl .nil) (WShort_f a b c d) Tryz.func152 rfl rfl (by simp) rfl ?_)))))
 rintro v4 L4 ⟨M4,p,k,rfl,rfl,r4⟩
 change At _ _ _ [M4,N2,N1,R] _
 refine op_build (out:= [.bool false,_,.slice none 0 0]) (aC rfl) ze91 pl91 (.cons rfl .nil) rfl rfl (aI (nxl rfl) sz91 rfl rfl rfl rfl rfl B2 (by simp) sel1 (fun N2 B2=>?_))
 simp only [setL,List.set]at B2
 refine aA (aB (s_2 (At.ret ((At.sub (L':= [N2,M4,R]) (.cons_cons _ (.cons_cons _ (.cons _ (.cons_cons _ (.slnil))))) (aW (L1:= [M4]) rfl (.cell rfl (aZ (ds:= [_,_,_]) ag91 B2 rfl rfl aP) .nil) (.cons _ (.refl _)) (.refl _) ?_))))))
 exact⟨M4,p,k,rfl,rfl,r4⟩
theorem rOf_f (a b c d:UInt64):Fn Tryz.prog 115 #[.agg #[.int .u64 (a.toNat:Int),.int .u64 (b.toNat:Int),.int .u64 (c.toNat:Int),.int .u64 (d.toNat:Int)]] [] [] (OfP a b c d):=by
 refine Fn.enter (vs:= [.agg #[.int .u64 (a.toNat:Int),.int .u64 (b.toNat:Int),.int .u64 (c.toNat:Int),.int .u64 (d.toNat:Int)]]) Tryz.func115 rfl rfl rfl ?_
 intro E R hR
 change At _ _ E [R] _
 refine At.seq fun _ s_1=>At.region (op_box (aT rfl) rfl rfl rfl (fun N1 b1 B1=>aS (aT rfl) ze91 rfl (fun N2 b2 B2=>?_)))
 change Blk N2 b2 _ [.bool false,.slice none 0 0,.slice none 0 0]at B2
 refine aA (aB (s_1 (At.seq fun _ s_2=>At.region (aQ (ds:= [_,_,_,_]) (aC rfl) ag26 rfl B1 rfl rfl bM rfl (aG (aT rfl) (.cons rfl .nil) (rShort_f a b c d) Tryz.func154 rfl rfl (by simp) rfl ?_)))))
 rintro v4 L4 ⟨M4,p,k,rfl,rfl,r4⟩
 change At _ _ _ [M4,N2,N1,R] _
 refine op_build (out:= [.bool false,_,.slice none 0 0]) (aC rfl) ze91 pl91 (.cons rfl .nil) rfl rfl (aI (nxl rfl) sz91 rfl rfl rfl rfl rfl B2 (by simp) sel1 (fun N2 B2=>?_))
 simp only [setL,List.set]at B2
 refine aA (aB (s_2 (At.ret ((At.sub (L':= [N2,M4,R]) (.cons_cons _ (.cons_cons _ (.cons _ (.cons_cons _ (.slnil))))) (aW (L1:= [M4]) rfl (.cell rfl (aZ (ds:= [_,_,_]) ag91 B2 rfl rfl aP) .nil) (.cons _ (.refl _)) (.refl _) ?_))))))
 exact⟨M4,p,k,rfl,rfl,r4⟩
end Go.Proofs.YtjfagifjajielaaGreat
/- Layer 14: check, must, the closure that recovers, ReadTx of no bytes. No condition. -/
namespace Go.Proofs.YtjfagifjajielaaGreat
open Go Go.RowKit
set_option maxRecDepth 100000
/-- What a reader gives up with. -/
def gaveV (e:Int):Value:=.iface 84 (.agg #[.int .i64 e])
theorem FCheck_e {e:Int} (h:e≠0):FnE Tryz.prog 30 #[.int .i64 e] [] [] (fun _ _=>False) (fun v L=>v=gaveV e∧L= []):=by
 refine FnE.enter (vs:= [.int .i64 e]) Tryz.func30 rfl rfl rfl ?_
 intro E R hR
 change At _ _ E [R] _
 refine At.seq fun _ s_1=>At.region (aE (aC rfl) rfl rfl (op_neq (aC rfl) rfl rfl rfl (aA (aB (s_1 (aO rfl (fun c3=>?_) (fun c3=>?_)))))))
 rotate_left
 ·exact absurd h c3
 refine At.region (aE (aC rfl) rfl rfl (op_build (out:= [_]) (aC rfl) ze84 pl84 (.cons rfl .nil) rfl rfl (op_mkI (aC rfl) (by kernel_rfl) rfl rfl (op_panic rfl (fun _=>rfl) (At.pan (L1:= []) (.refl _) (.refl _) ?_)))))
 exact⟨rfl,rfl⟩
theorem FCheck_0:Fn Tryz.prog 30 #[.int .i64 0] [] [] (fun v L=>v=.tuple #[]∧L= []):=by
 refine Fn.enter (vs:= [.int .i64 0]) Tryz.func30 rfl rfl rfl ?_
 intro E R hR
 change At _ _ E [R] _
 refine At.seq fun _ s_1=>At.region (aE (aC rfl) rfl rfl (op_neq (aC rfl) rfl rfl rfl (aA (aB (s_1 (aO rfl (fun c3=>?_) (fun c3=>?_)))))))
 ·exact absurd rfl c3
 refine At.skip (At.retNE (L1:= []) rfl .nil rfl (.refl _) (.refl _) ?_)
 exact⟨rfl,rfl⟩
theorem FMust_t:Fn Tryz.prog 31 #[.bool true] [] [] (fun v L=>v=.tuple #[]∧L= []):=by
 refine Fn.enter (vs:= [.bool true]) Tryz.func31 rfl rfl rfl ?_
 intro E R hR
 change At _ _ E [R] _
 refine At.seq fun _ s_1=>At.region (aE (aC rfl) rfl rfl (op_not (aC rfl) rfl rfl (aA (aB (s_1 (At.condF rfl (At.skip (At.retNE (L1:= []) rfl .nil rfl (.refl _) (.refl _) ?_))))))))
 exact⟨rfl,rfl⟩
theorem field_gave (e:Int) (w:World):(Instr.field 84 (.agg #[.int .i64 e]) 0).run Tryz.prog w=.ok (.int .i64 e) w:=by
 simp [Instr.field,Sem.run_bind,run_underlying Tryz.underlying84,part,isAgg,run_underlying Tryz.underlying33,asAgg]
/-- Not so: given up with ErrForm. -/
theorem FMust_f:FnE Tryz.prog 31 #[.bool false] [] [] (fun _ _=>False) (fun v L=>v=gaveV 2∧L= []):=by
 refine FnE.enter (vs:= [.bool false]) Tryz.func31 rfl rfl rfl ?_
 intro E R hR
 change At _ _ E [R] _
 refine At.seq fun _ s_1=>At.region (aE (aC rfl) rfl rfl (op_not (aC rfl) rfl rfl (aA (aB (s_1 (At.condT rfl (At.region (op_callE (.cons rfl .nil) (FCheck_e (by decide)) (F:= [R]) Tryz.func30 rfl rfl (.refl _) (by simp) rfl ?_ ?_))))))))
 ·rintro v4 L4 ⟨rfl,rfl⟩
  change At _ _ _ [R] _
  refine At.pan (L1:= []) (.refl _) (.refl _) ?_
  exact⟨rfl,rfl⟩
 intro _ _ h_;exact h_.elim
theorem tk_all {cs:List Value} {k:Nat} (h:cs.length=k):(cs.drop 0).take k=cs:=by rw [List.drop_zero,List.take_of_length_le (by omega)]
section
variable {bt be : Nat} {Nt Ne : Heaplet} {cs : List Value} {x : Value} {e : Int}
/-- The closure of ReadTx, where a reader gave up. -/
theorem FRecTx (Bt:Blk Nt bt 32 cs) (hcs:cs.length=53) (Be:Blk Ne be 33 [x]):FnRec Tryz.prog 28 #[.pointer (some ⟨bt,0,none⟩),.pointer (some ⟨be,0,none⟩)] (gaveV e) [Nt,Ne] (fun L=> ∃Nt Ne,L= [Nt,Ne]∧Blk Nt bt 32 z32∧Blk Ne be 33 [.int .i64 e]):=by
 unfold gaveV
 refine FnRec.enter (vs:= [.pointer (some ⟨bt,0,none⟩),.pointer (some ⟨be,0,none⟩)]) Tryz.func28 rfl rfl rfl rfl rfl ?_
 intro E R
 change At _ _ E [Nt,Ne,R] _
 refine At.seq fun _ s_1=>At.region (aE (aC rfl) rfl rfl (op_neNilF (aC rfl) (by kernel_rfl) rfl rfl (aA (aB (s_1 (At.condT rfl (At.planS [R] (.take 0 (.take 1 (.fork 2 false (.take 3 (.fork 4 false (.fork 5 true .done .nofork) .nofork)) (.fork 4 false (.fork 2 false (.take 3 (.fork 5 true .done .nofork)) .nofork) .nofork)))) (by kernel_rfl) (by kernel_rfl) (.cons _ (.cons _ (.refl _))) (op_build (out:=z32) (nxpf rfl rfl) ze32 pl32 .nil rfl rfl (aE (nxpf rfl rfl) rfl rfl (At.fork ?_ ?_))))))))))
 rotate_left
 ·refine At.fork ?_ ?_
  rotate_left
  ·exact At.pNo
  refine aI (nxpa rfl rfl) sz32 rfl rfl rfl rfl rfl Bt (by rw [z32_len,hcs];omega) sel0 (fun Nt Bt=>?_)
  rw [setL_whole (by rw [z32_len,hcs])]at Bt
  refine At.andS (.cons _ (.cons _ (.refl _))) (At.fork ?_ ?_)
  rotate_left
  ·exact At.pNo
  refine op_assert1 (Nx.float (nxpa rfl rfl)) (by kernel_rfl) rfl rfl (At.andS (.cons _ (.cons _ (.refl _))) (op_field (cs:= [.int .i64 e]) (v:=.int .i64 e) (fo:=0) (nxpf rfl rfl) (fun w=>field_gave e w) rfl rfl (At.fork ?_ ?_)))
  rotate_left
  ·exact At.pNo
  refine aI (nxpl rfl rfl) sz33 rfl rfl rfl rfl rfl Be (by simp) sel1 (fun Ne Be=>?_)
  simp only [setL,List.set]at Be
  refine At.pDone (At.perm sel2 (At.perm sel1 (At.perm sel2 (At.retNE (L1:= [Nt,Ne]) rfl .nil rfl (.refl _) (.refl _) ?_))))
  exact⟨Nt,Ne,rfl,Bt,Be⟩
 refine op_assert1 (Nx.float (nxpa rfl rfl)) (by kernel_rfl) rfl rfl (At.andS (.cons _ (.cons _ (.refl _))) (op_field (cs:= [.int .i64 e]) (v:=.int .i64 e) (fo:=0) (nxpf rfl rfl) (fun w=>field_gave e w) rfl rfl (At.fork ?_ ?_)))
 rotate_left
 ·exact At.pNo
 refine aI (nxpa rfl rfl) sz32 rfl rfl rfl rfl rfl Bt (by rw [z32_len,hcs];omega) sel0 (fun Nt Bt=>?_)
 rw [setL_whole (by rw [z32_len,hcs])]at Bt
 refine At.andS (.cons _ (.cons _ (.refl _))) (At.fork ?_ ?_)
 rotate_left
 ·exact At.pNo
 refine aI (nxpl rfl rfl) sz33 rfl rfl rfl rfl rfl Be (by simp) sel1 (fun Ne Be=>?_)
 simp only [setL,List.set]at Be
 refine At.pDone (At.perm sel2 (At.perm sel1 (At.perm sel2 (At.retNE (L1:= [Nt,Ne]) rfl .nil rfl (.refl _) (.refl _) ?_))))
 exact⟨Nt,Ne,rfl,Bt,Be⟩
end
theorem FEnv_nil {R:Heaplet} :Fn Tryz.prog 29 #[.slice none 0 0] [] [R] (fun v L=>v=.tuple #[.int .i64 0,.slice none 0 0,.int .i64 2]∧L= []):=
 (Envelope_f (b:= []) (RSl.nil R 1) (by decide)).mono fun v L h=>by
  rcases h with ⟨rfl,_,rfl⟩|⟨_,_,_,_,_,_,h,_⟩
  ·exact⟨rfl,rfl⟩
  ·cases h
/-- No bytes are no transaction. -/
theorem FReadTx_nil:Fn Tryz.prog 7 #[.slice none 0 0] [] [] (fun v L=>v=.tuple #[.agg z32.toArray,.int .i64 2]∧L= []):=by
 have hl:=z32_len
 refine Fn.enterD (vs:= [.slice none 0 0]) Tryz.func7 rfl rfl rfl ?_
 intro E R hR hE
 change At _ _ E [R] _
 refine At.seq fun _ s_1=>At.region (aS (aT rfl) ze32 rfl (fun N2 b2 B2=>?_))
 change Blk N2 b2 _ z32 at B2
 refine aS (aT rfl) ze33 rfl (fun N3 b3 B3=>?_)
 change Blk N3 b3 _ [.int .i64 0]at B3
 refine aA (aB (s_1 (At.seq fun _ s_2=>At.region (op_mkF (aC rfl) .nil (.cons rfl (.cons rfl .nil)) rfl (op_defer rfl hE (aA (aB (s_2 (At.seq fun _ s_3=>At.region (aE (aC rfl) rfl rfl (aG (aT rfl) (.cons rfl .nil) (FEnv_nil (R:=R)) Tryz.func29 rfl rfl (by simp) rfl ?_)))))))))))
 rintro v10 L10 ⟨rfl,rfl⟩
 change At _ _ _ [N3,N2,R] _
 refine aE (aC rfl) rfl rfl (aH (aC rfl) rfl rfl rfl (aH (aC rfl) rfl rfl rfl (aH (aC rfl) rfl rfl rfl (aD (aC rfl) rfl rfl (aD (aC rfl) rfl rfl (aI (nxl rfl) sz33 rfl rfl rfl rfl rfl B3 (by simp) sel0 (fun N3 B3=>?_)))))))
 simp only [setL,List.set]at B3
 refine aA (aB (s_3 (At.seq fun _ s_4=>At.region (aL (aC rfl) sc33 rfl B3 (by first|rfl) aP rfl ?_))))
 refine op_callE (.cons rfl .nil) (FCheck_e (by decide)) (F:= [N3,N2,R]) Tryz.func30 rfl rfl (.refl _) (by simp) rfl ?_ ?_
 ·rintro v15 L15 ⟨rfl,rfl⟩
  change At _ _ _ [N3,N2,R] _
  refine aX ((At.perm sel2 (At.perm sel1 (At.perm sel2 (At.panD (F:= [R]) hE (FRecTx B2 hl B3) Tryz.func28 rfl rfl (.refl _) ?_)))))
  rintro L_ ⟨N2,N3,rfl,B2,B3⟩
  change At _ _ _ [N2,N3,R] _
  refine aU (L1:= []) rfl (.cell rfl (aZ (ds:=z32) ag32 B2 (tk_all hl) hl aP) (.cell rfl (res_scal sc33 B3 rfl bM) .nil)) rfl (.cons _ (.cons _ (.refl _))) (.refl _) ?_
  exact⟨rfl,rfl⟩
 intro _ _ h_;exact h_.elim
end Go.Proofs.YtjfagifjajielaaGreat
/- Keccak-256 in plain words: lanes, rounds, blocks. No condition. -/
namespace Go.Proofs.YtjfagifjajielaaGreat
open Go Go.RowKit
/-- Turned to the left. -/
def rolN (v:UInt64) (n:Nat):UInt64:=if n=0 then v else shl64 v n |||shr64 v (64- n)
theorem rol_go {v:UInt64} {n:Nat} (h:n<64):shl64 v n |||shr64 v (64- n)=rolN v n:=by
 unfold rolN
 split
 ·rename_i h0
  subst h0
  apply UInt64.toNat_inj.1
  rw [UInt64.toNat_or,shl64_nat,shr64_nat,Nat.pow_zero,Nat.mul_one,Nat.mod_eq_of_lt v.toNat_lt,Nat.div_eq_of_lt v.toNat_lt,Nat.or_zero]
 ·rfl
/-! The constants of the rounds. -/
def rI:Nat→Int
 |0=>1
 |n+1=>bits .xor .u8 (IntKind.u8.wrap (rI n*2^(min (1:Int).toNat IntKind.u8.bits))) (IntKind.u8.wrap (rI n/2^(min (7:Int).toNat IntKind.u8.bits)*113))
def cStep (l:List UInt64) (n:Nat):List UInt64:=l.set (n/7) (l.getD (n/7) 0 |||shl64 (UInt64.ofNat (bits .and .u8 (rI n) 1).toNat) (shl64 1 (n % 7)- 1).toNat)
def cN:Nat→List UInt64
 |0=>List.replicate 24 0
 |n+1=>cStep (cN n) n
theorem cN_len: ∀n,(cN n).length=24
 |0=>rfl
 |n+1=>by rw [cN,cStep,List.length_set,cN_len n]
def rcL:List UInt64:=cN 168
def rJ:Nat→Int
 |0=>1
 |n+1=>if rJ n*2≥256 then bits .xor .i64 (rJ n*2- 256) 113 else rJ n*2
def wJ (r:Nat):Nat→UInt64
 |0=>0
 |n+1=>if 7*r≤n∧bits .and .i64 (rJ n) 1=1 then wJ r n |||shl64 1 (shl64 1 (n- 7*r)- 1).toNat else wJ r n
set_option maxRecDepth 100000 in
theorem rI_ok: ∀n:Fin 169,0≤rI n.1∧rI n.1≤255∧0≤bits .and .u8 (rI n.1) 1:=by decide+kernel
/-! Theta. -/
def thC (a:List UInt64):Nat→List UInt64
 |0=> [0,0,0,0,0]
 |i+1=>(thC a i).set (i % 5) ((thC a i).getD (i % 5) 0^^^a.getD i 0)
theorem thC_len (a:List UInt64): ∀i,(thC a i).length=5
 |0=>rfl
 |i+1=>by rw [thC,List.length_set,thC_len a i]
def thA (c a:List UInt64):Nat→List UInt64
 |0=>a
 |i+1=>(thA c a i).set i ((thA c a i).getD i 0^^^(c.getD ((i % 5+4) % 5) 0^^^rolN (c.getD ((i % 5+1) % 5) 0) 1))
theorem thA_len (c a:List UInt64): ∀i,(thA c a i).length=a.length
 |0=>rfl
 |i+1=>by rw [thA,List.length_set,thA_len c a i]
def theta (a:List UInt64):List UInt64:=thA (thC a 25) a 25
theorem theta_len (a:List UInt64):(theta a).length=a.length:=thA_len ..
/-! Rho and pi. -/
def pX:Nat→Nat×Nat
 |0=>(1,0)
 |t+1=>((pX t).2,(2*(pX t).1+3*(pX t).2) % 5)
theorem pX_lt: ∀t,(pX t).1<5∧(pX t).2<5
 |0=>⟨by decide,by decide⟩
 |t+1=>⟨(pX_lt t).2,Nat.mod_lt _ (by decide)⟩
def pos (t:Nat):Nat:=(pX t).1+5*(pX t).2
theorem pos_lt (t:Nat):pos t<25:=by
 have:=pX_lt t
 unfold pos;omega
def rot (t:Nat):Nat:=(t+1)*(t+2)/2 % 64
def tuP (a:List UInt64):Nat→List UInt64×UInt64
 |0=>(a,a.getD 1 0)
 |t+1=>((tuP a t).1.set (pos (t+1)) (rolN (tuP a t).2 (rot t)),(tuP a t).1.getD (pos (t+1)) 0)
theorem tuP_len (a:List UInt64): ∀t,(tuP a t).1.length=a.length
 |0=>rfl
 |t+1=>by rw [tuP];simp only [List.length_set];exact tuP_len a t
def tuR (a:List UInt64):Nat→List UInt64
 |0=>(List.replicate 25 0).set 0 (a.getD 0 0)
 |t+1=>(tuR a t).set (pos (t+1)) (rolN (a.getD (pos t) 0) (rot t))
/-! Chi. -/
def chL (b:List UInt64) (y x:Nat):UInt64:=b.getD (y+x) 0^^^(~~~(b.getD (y+(x+1) % 5) 0)&&&b.getD (y+(x+2) % 5) 0)
def chI (row p:List UInt64) (y:Nat):Nat→List UInt64
 |0=>p
 |x+1=>(chI row p y x).set (y+x) (row.getD x 0^^^(~~~(row.getD ((x+1) % 5) 0)&&&row.getD ((x+2) % 5) 0))
theorem chI_len (row p:List UInt64) (y:Nat): ∀x,(chI row p y x).length=p.length
 |0=>rfl
 |x+1=>by rw [chI,List.length_set,chI_len row p y x]
def chP (a:List UInt64):Nat→List UInt64
 |0=>a
 |k+1=>chI (((chP a k).drop (5*k)).take 5) (chP a k) (5*k) 5
theorem chP_len (a:List UInt64): ∀k,(chP a k).length=a.length
 |0=>rfl
 |k+1=>by rw [chP,chI_len,chP_len a k]
def chR (b a:List UInt64):Nat→List UInt64
 |0=>a
 |i+1=>(chR b a i).set i (b.getD i 0^^^(~~~(b.getD (i- i % 5+(i+1) % 5) 0)&&&b.getD (i- i % 5+(i+2) % 5) 0))
/-! The permutation. -/
def kRound (a:List UInt64) (k:Nat):List UInt64:=(chP (tuP (theta a) 24).1 5).set 0 ((chP (tuP (theta a) 24).1 5).getD 0 0^^^rcL.getD k 0)
theorem kRound_len (a:List UInt64) (k:Nat):(kRound a k).length=a.length:=by rw [kRound,List.length_set,chP_len,tuP_len,theta_len]
def prm (a:List UInt64):Nat→List UInt64
 |0=>a
 |k+1=>kRound (prm a k) k
theorem prm_len (a:List UInt64): ∀k,(prm a k).length=a.length
 |0=>rfl
 |k+1=>by rw [prm,kRound_len,prm_len a k]
/-! Blocks. -/
def abI (a:List UInt64) (l:List UInt8):Nat→List UInt64
 |0=>a
 |i+1=>(abI a l i).set (i/8) ((abI a l i).getD (i/8) 0^^^shl64 (UInt64.ofNat (l.getD i 0).toNat) (i % 8*8))
theorem abI_len (a:List UInt64) (l:List UInt8): ∀i,(abI a l i).length=a.length
 |0=>rfl
 |i+1=>by rw [abI,List.length_set,abI_len a l i]
def absorb (a:List UInt64) (l:List UInt8):List UInt64:=prm (abI a l 136) 24
theorem absorb_len (a:List UInt64) (l:List UInt8):(absorb a l).length=a.length:=by rw [absorb,prm_len,abI_len]
def absN (l:List UInt8):Nat→List UInt64
 |0=>List.replicate 25 0
 |k+1=>absorb (absN l k) ((l.drop (136*k)).take 136)
theorem absN_len (l:List UInt8): ∀k,(absN l k).length=25
 |0=>List.length_replicate
 |k+1=>by rw [absN,absorb_len,absN_len l k]
/-- The last block: what is left, a one, naughts, a one. -/
def padL (r:List UInt8):List UInt8:=
 let z:=(r++List.replicate (136- r.length) 0).set r.length 1
 z.set 135 (z.getD 135 0 |||128)
def ouI (a:List UInt64):Nat→List UInt8
 |0=>List.replicate 32 0
 |i+1=>(ouI a i).set i (UInt8.ofNat (shr64 (a.getD (i/8) 0) (i % 8*8)).toNat)
theorem ouI_len (a:List UInt64): ∀i,(ouI a i).length=32
 |0=>List.length_replicate
 |i+1=>by rw [ouI,List.length_set,ouI_len a i]
/-- Keccak-256. -/
def kec (l:List UInt8):List UInt8:=ouI (absorb (absN l (l.length/136)) (padL (l.drop (136*(l.length/136))))) 32
theorem kec_len (l:List UInt8):(kec l).length=32:=ouI_len ..
end Go.Proofs.YtjfagifjajielaaGreat
/- Package hash: the steps of Keccak's permutation. No condition. -/
namespace Go.Proofs.YtjfagifjajielaaGreat
open Go Go.RowKit
section
variable {P : Program} {n : Nat} {l : List (Nat × Value)} {E : World} {L Ls : List Heaplet} {X Y : Act → World → Prop} {d : Nat} {t ty e : TypeId} {x : Operand}
theorem op_toArr {alen size len cap:Nat} {ad:Addr} {pos:_} {aft:_} {g:_} (s:NxF P n l E L Ls ⟨some d,.sliceToArrayPointer t x,ty,pos,aft,g⟩ X Y) (ht:aelt P t=some (alen,e,size)) (hx:ev l x=some (.slice (some ad) len cap)) (hl:alen≤len) (hn:Nat.ble (d+1) n=true) (h:At n ((d,.pointer (some ad))::l) E L Y):At n l E L X:=by
 obtain⟨hu,i,hi,hsz⟩:=aelt_spec ht
 refine op_val s (fun a w hf hw=>?_) rfl hn h
 simp [execOp,hf.eval hx,Instr.arrayAt,run_underlying hu,Nat.not_lt.2 hl]
end
theorem getT {a:List UInt64} {T:List Value} {j:Nat} (h:j<a.length):(u64s a++T)[0+j*1]? =some (.int .u64 ((a.getD j 0).toNat:Int)):=by
 rw [Nat.zero_add,Nat.mul_one,List.getElem?_append_left (by simpa [u64s]using h)]
 exact get64 h
theorem setT {a:List UInt64} {T:List Value} {j:Nat} {x:UInt64} (h:j<a.length):setL (u64s a++T) (0+j*1) [.int .u64 (x.toNat:Int)]=u64s (a.set j x)++T:=by
 rw [Nat.zero_add,Nat.mul_one,setL,setL,List.set_append_left _ _ (by simpa [u64s]using h),set_u64s]
theorem lenT {a:List UInt64} {T:List Value} :(u64s a++T).length=a.length+T.length:=by simp [u64s]
theorem Rot_f (x:UInt64) (k:Nat) (hk:k<64):Fn Tryz.prog 185 #[.int .u64 (x.toNat:Int),.int .i64 (k:Int)] [] [] (fun v L=>v=.int .u64 ((rolN x k).toNat:Int)∧L= []):=by
 have e2:(UInt64.ofNat k).toNat=k:=by rw [UInt64.toNat_ofNat'];omega
 have e:UInt64.ofNat k&&&63=UInt64.ofNat k:=by
  apply UInt64.toNat_inj.1
  rw [UInt64.toNat_and,e2,show(63:UInt64).toNat=2^6- 1 from rfl,Nat.and_two_pow_sub_one_eq_mod,Nat.mod_eq_of_lt (show k<2^6 from hk)]
 have e3:(64- UInt64.ofNat k).toNat=64- k:=by
  rw [UInt64.toNat_sub_of_le _ _ (UInt64.le_iff_toNat_le.2 (by rw [e2];exact Nat.le_of_lt hk)),e2];rfl
 refine Fn.enter (vs:= [.int .u64 (x.toNat:Int),.int .i64 (k:Int)]) Tryz.func185 rfl rfl rfl ?_
 intro E R hR
 change At _ _ E [R] _
 refine At.seq fun _ s_1=>At.region (aD (aC rfl) rfl rfl (aA (aB (s_1 (At.seq fun _ s_2=>At.region (aE (aC rfl) rfl rfl (op_conv64 (aC rfl) (und_some Tryz.underlying3) Tryz.underlying222 rfl (show _=(((k:Nat)):Int)from by omega) rfl ?_)))))))
 refine op_andU (b:=63) (aC rfl) rfl rfl rfl ?_
 rw [e]
 refine aD (aC rfl) rfl rfl (aA (aB (s_2 (At.seq fun _ s_3=>At.region (aE (aC rfl) rfl rfl (aE (aC rfl) rfl rfl (op_shlU (aC rfl) rfl rfl (show _=(((k:Nat)):Int)from by omega) rfl ?_)))))))
 refine aE (aC rfl) rfl rfl (aE (aC rfl) rfl rfl (op_subU (a:=64) (aC rfl) rfl rfl rfl (op_shrU (aC rfl) rfl rfl (show _=(((64- k:Nat)):Int)from by omega) rfl ?_)))
 refine op_orU (aC rfl) rfl rfl rfl (aD (aC rfl) rfl rfl (aA (aB (s_3 (At.ret ((aW (L1:= []) rfl (.tmp rfl .nil) (.refl _) (.refl _) ?_)))))))
 exact⟨by rw [rol_go hk],rfl⟩
set_option maxRecDepth 100000 in
theorem FTheta_f {N:Heaplet} {b0:Nat} {e0:TypeId} {a:List UInt64} {T:List Value} (ha:a.length=25) (B0:Blk N b0 e0 (u64s a++T)):Fn Tryz.prog 177 #[.pointer (some ⟨b0,0,none⟩)] [N] [] (fun v L=> ∃M,v=.tuple #[]∧L= [M]∧Blk M b0 e0 (u64s (theta a)++T)):=by
 obtain⟨N0,h0⟩: ∃N0,N0=N:=⟨_,rfl⟩
 rw [←h0]at B0⊢
 refine Fn.enter (vs:= [.pointer (some ⟨b0,0,none⟩)]) Tryz.func177 rfl rfl rfl ?_
 intro E R hR
 change At _ _ E [N0,R] _
 refine At.seq fun _ s_1=>At.region (aS (aT rfl) ze230 rfl (fun N2 b2 B2=>?_))
 change Blk N2 b2 _ [.int .u64 0,.int .u64 0,.int .u64 0,.int .u64 0,.int .u64 0]at B2
 change Blk N2 b2 _ (u64s (thC a 0))at B2
 refine aA (aB (s_1 (At.seq fun _ s_2=>At.seq fun _ s_3=>At.region (aE (aC rfl) rfl rfl (aE (aC rfl) rfl rfl (aA (aB (s_3 (At.block (At.loop (fun fr_ hp_ ms_=> ∃(i:Nat) (N2:Heaplet),fr_= [(0,.pointer (some ⟨b0,0,none⟩)),(2,.pointer (some ⟨b2,0,none⟩)),(7,.pointer (some ⟨b0,0,none⟩)),(8,.int .i64 (i:Int))]∧hp_= [N2,N0,R]∧25- i=ms_∧(i≤25)∧(Blk N2 b2 230 (u64s (thC a i)))) ?_ (.refl _) ⟨0,N2,rfl,rfl,rfl,by omega,B2⟩ ?_))))))))))
 ·exact .cons (by first|exact a6 rfl (by omega)|rfl) (.cons (by first|exact a6 rfl (by omega)|rfl) (.cons (by first|exact a6 rfl (by omega)|rfl) (.cons (by first|exact a6 rfl (by omega)|rfl) .nil)))
 rintro _ _ _ ⟨i,N2,rfl,rfl,rfl,hi,B2⟩
 have hcl:=thC_len a i
 refine At.seq fun _ s_4=>At.region (op_lss (aC rfl) rfl rfl rfl (aA (aB (s_4 (At.seq fun _ s_5=>aO rfl (fun c9=>?_) (fun c9=>?_))))))
 ·refine At.skip (aB (s_5 (At.seq fun _ s_6=>At.block (At.seq fun _ s_7=>At.drawn [] [0,1,2,3,4,5] (by kernel_rfl) (by kernel_rfl) (aE (aR rfl rfl rfl (by kernel_rfl)) rfl rfl (op_nilChk (aR rfl rfl rfl (by kernel_rfl)) rfl rfl (op_idxA (aR rfl rfl rfl (by kernel_rfl)) ae187 rfl rfl (show _=(((i:Nat)):Int)from by omega) (by omega) rfl ?_)))))))
  refine aL (aR rfl rfl rfl (by kernel_rfl)) sc24 rfl B0 (by first|exact get64A (by omega)|rfl|exact getT (by first|omega|(rw [thA_len];omega))) bM rfl ?_
  refine aD (aR rfl rfl rfl (by kernel_rfl)) rfl rfl (aD (aR rfl rfl rfl (by kernel_rfl)) rfl rfl (At.oneNil (aB (s_7 (At.region (aE (aC rfl) rfl rfl (op_rem (aC rfl) rfl rfl (by omega) (by omega) rfl (op_idxA (aC rfl) ae230 rfl rfl (show _=(((i % 5:Nat)):Int)from by omega) (by omega) rfl ?_))))))))
  refine aL (aC rfl) sc24 rfl B2 (by first|exact get64A (by omega)|rfl|exact getT (by first|omega|(rw [thA_len];omega))) aP rfl ?_
  refine aE (aC rfl) rfl rfl (op_xorU (aC rfl) rfl rfl rfl (op_idxA (aC rfl) ae230 rfl rfl (show _=(((i % 5:Nat)):Int)from by omega) (by omega) rfl ?_))
  refine aI (nxl rfl) sz24 rfl rfl rfl rfl rfl B2 (by simp<;>omega) sel0 (fun N2 B2=>?_)
  rw [set64A]at B2
  refine aA (bC (aB (s_6 (At.region (bI (aC rfl) rfl rfl (by omega) (by omega) rfl (aE (aC rfl) rfl rfl (aA (aB (At.back ?_ (.refl _) ⟨i+1,N2,rfl,rfl,rfl,by omega,B2⟩ ?_)))))))))
  ·exact .cons (by first|exact a6 rfl (by omega)|rfl) (.cons (by first|exact a6 rfl (by omega)|rfl) (.cons (by first|exact a6 rfl (by omega)|rfl) (.cons (by first|exact a6 rfl (by omega)|rfl) .nil)))
  ·omega
 refine At.exit (aM (aM (At.inHit (aB (s_2 (At.seq fun _ s_8=>At.region (aE (aC rfl) rfl rfl (aA (aB (s_8 (At.block ?_)))))))))))
 obtain rfl:i=25:=by omega
 change Blk N0 b0 _ (u64s (thA (thC a 25) a 0)++T)at B0
 refine At.loop (fun fr_ hp_ ms_=> ∃(j:Nat) (N0:Heaplet),fr_= [(0,.pointer (some ⟨b0,0,none⟩)),(2,.pointer (some ⟨b2,0,none⟩)),(22,.int .i64 (j:Int))]∧hp_= [N2,N0,R]∧25- j=ms_∧(j≤25)∧(Blk N0 b0 e0 (u64s (thA (thC a 25) a j)++T))) ?_ (.refl _) ⟨0,N0,rfl,rfl,rfl,by omega,B0⟩ ?_
 ·exact .cons (by first|exact a6 rfl (by omega)|rfl) (.cons (by first|exact a6 rfl (by omega)|rfl) (.cons (by first|exact a6 rfl (by omega)|rfl) .nil))
 rintro _ _ _ ⟨j,N0,rfl,rfl,rfl,hj,B0⟩
 have hal:=thA_len (thC a 25) a j
 refine At.seq fun _ s_9=>At.region (op_lss (aC rfl) rfl rfl rfl (aA (aB (s_9 (At.seq fun _ s_10=>aO rfl (fun c23=>?_) (fun c23=>?_))))))
 ·refine At.skip (aB (s_10 (At.seq fun _ s_11=>At.block (At.seq fun _ s_12=>At.region (aE (aC rfl) rfl rfl (aD (aC rfl) rfl rfl (aA (aB (s_12 (At.seq fun _ s_13=>At.region (aE (aC rfl) rfl rfl (op_rem (aC rfl) rfl rfl (by omega) (by omega) rfl (aD (aC rfl) rfl rfl (aA (aB (s_13 (At.drawn [20] [0,1,2,3,4,5,6,7,8,9,10,11,12,13,14,18,15,16,17,19,20] (by kernel_rfl) (by kernel_rfl) (aE (aR rfl rfl rfl (by kernel_rfl)) rfl rfl (aE (aR rfl rfl rfl (by kernel_rfl)) rfl rfl (op_nilChk (aR rfl rfl rfl (by kernel_rfl)) rfl rfl ?_))))))))))))))))))))
  refine op_idxA (aR rfl rfl rfl (by kernel_rfl)) ae187 rfl rfl (show _=(((j:Nat)):Int)from by omega) (by omega) rfl ?_
  refine aL (aR rfl rfl rfl (by kernel_rfl)) sc24 rfl B0 (by first|exact get64A (by omega)|rfl|exact getT (by first|omega|(rw [thA_len];omega))) bM rfl ?_
  refine aE (aR rfl rfl rfl (by kernel_rfl)) rfl rfl (bI (aR rfl rfl rfl (by kernel_rfl)) rfl rfl (by omega) (by omega) rfl (op_rem (aR rfl rfl rfl (by kernel_rfl)) rfl rfl (by omega) (by omega) rfl (op_idxA (aR rfl rfl rfl (by kernel_rfl)) ae230 rfl rfl (show _=((((j % 5+4) % 5:Nat)):Int)from by omega) (by omega) rfl ?_)))
  refine aL (aR rfl rfl rfl (by kernel_rfl)) sc24 rfl B2 (by first|exact get64A (by omega)|rfl|exact getT (by first|omega|(rw [thA_len];omega))) aP rfl ?_
  refine aE (aR rfl rfl rfl (by kernel_rfl)) rfl rfl (bI (aR rfl rfl rfl (by kernel_rfl)) rfl rfl (by omega) (by omega) rfl (op_rem (aR rfl rfl rfl (by kernel_rfl)) rfl rfl (by omega) (by omega) rfl (op_idxA (aR rfl rfl rfl (by kernel_rfl)) ae230 rfl rfl (show _=((((j % 5+1) % 5:Nat)):Int)from by omega) (by omega) rfl ?_)))
  refine aL (aR rfl rfl rfl (by kernel_rfl)) sc24 rfl B2 (by first|exact get64A (by omega)|rfl|exact getT (by first|omega|(rw [thA_len];omega))) aP rfl ?_
  refine op_nilChk (aR rfl rfl rfl (by kernel_rfl)) rfl rfl (aG (nxoa rfl rfl rfl) (.cons rfl (.cons rfl .nil)) (Rot_f ((thC a 25).getD ((j % 5+1) % 5) 0) 1 (by decide)) Tryz.func185 rfl rfl (by simp) rfl ?_)
  rintro v42 L42 ⟨rfl,rfl⟩
  change At _ _ _ [N2,N0,R] _
  refine op_xorU (aR rfl rfl rfl (by kernel_rfl)) rfl rfl rfl (op_xorU (aR rfl rfl rfl (by kernel_rfl)) rfl rfl rfl (op_idxA (aR rfl rfl rfl (by kernel_rfl)) ae187 rfl rfl (show _=(((j:Nat)):Int)from by omega) (by omega) rfl ?_))
  refine aI (nxos rfl rfl rfl rfl) sz24 rfl rfl rfl rfl rfl B0 (by rw [lenT];simp;omega) sel1 (fun N0 B0=>?_)
  rw [setT (by omega)]at B0
  refine At.oneNil (bC (aB (s_11 (At.region (bI (aC rfl) rfl rfl (by omega) (by omega) rfl (aE (aC rfl) rfl rfl (aA (aB (At.perm sel2 (At.perm sel1 (At.perm sel2 (At.back ?_ (.refl _) ⟨j+1,N0,rfl,rfl,rfl,by omega,B0⟩ ?_))))))))))))
  ·exact .cons (by first|exact a6 rfl (by omega)|rfl) (.cons (by first|exact a6 rfl (by omega)|rfl) (.cons (by first|exact a6 rfl (by omega)|rfl) .nil))
  ·omega
 refine At.exit (aM (aM (At.inHit (At.sub (L':= [N0,R]) (.cons _ (.cons_cons _ (.cons_cons _ (.slnil)))) (At.retNE (L1:= [N0]) rfl .nil rfl (.refl _) (.refl _) ?_)))))
 obtain rfl:j=25:=by omega
 exact⟨N0,rfl,rfl,B0⟩
set_option maxRecDepth 100000 in
set_option maxHeartbeats 1000000 in
theorem FTurn_f {N:Heaplet} {b0:Nat} {e0:TypeId} {a:List UInt64} {T:List Value} (ha:a.length=25) (B0:Blk N b0 e0 (u64s a++T)):Fn Tryz.prog 178 #[.pointer (some ⟨b0,0,none⟩)] [N] [] (fun v L=> ∃M,v=.tuple #[]∧L= [M]∧Blk M b0 e0 (u64s (tuP a 24).1++T)):=by
 obtain⟨N0,h0⟩: ∃N0,N0=N:=⟨_,rfl⟩
 rw [←h0]at B0⊢
 refine Fn.enter (vs:= [.pointer (some ⟨b0,0,none⟩)]) Tryz.func178 rfl rfl rfl ?_
 intro E R hR
 change At _ _ E [N0,R] _
 refine At.seq fun _ s_1=>At.drawn [] [0,1,2,3,4,5,6] (by kernel_rfl) (by kernel_rfl) (aE (aR rfl rfl rfl (by kernel_rfl)) rfl rfl (op_nilChk (aR rfl rfl rfl (by kernel_rfl)) rfl rfl (op_idxA (aR rfl rfl rfl (by kernel_rfl)) ae187 rfl rfl (show _=(((1:Nat)):Int)from by omega) (by omega) rfl ?_)))
 refine aL (aR rfl rfl rfl (by kernel_rfl)) sc24 rfl B0 (by first|exact get64A (by omega)|rfl|exact getT (by omega)) aP rfl ?_
 refine aD (aR rfl rfl rfl (by kernel_rfl)) rfl rfl (aD (aR rfl rfl rfl (by kernel_rfl)) rfl rfl (aD (aR rfl rfl rfl (by kernel_rfl)) rfl rfl (At.oneNil (aB (s_1 (At.seq fun _ s_2=>At.region (aE (aC rfl) rfl rfl (aA (aB (s_2 (At.block (At.loop (fun fr_ hp_ ms_=> ∃(t:Nat) (N0:Heaplet),fr_= [(0,.pointer (some ⟨b0,0,none⟩)),(2,.int .i64 ((pX t).1:Int)),(3,.int .i64 ((pX t).2:Int)),(4,.int .u64 ((tuP a t).2.toNat:Int)),(11,.int .i64 (t:Int))]∧hp_= [N0,R]∧24- t=ms_∧(t≤24)∧(Blk N0 b0 e0 (u64s (tuP a t).1++T))) ?_ (.refl _) ⟨0,N0,rfl,rfl,rfl,by omega,B0⟩ ?_))))))))))))
 ·exact .cons (by first|exact a6 rfl (by omega)|rfl) (.cons (by first|exact a6 rfl (by omega)|rfl) (.cons (by first|exact a6 rfl (by omega)|rfl) (.cons (by first|exact a6 rfl (by omega)|rfl) (.cons (by first|exact a6 rfl (by omega)|rfl) .nil))))
 rintro _ _ _ ⟨t,N0,rfl,rfl,rfl,ht,B0⟩
 have hal:=(tuP_len a t).trans ha
 have hx:=pX_lt t
 have hp1:(pX (t+1)).1=(pX t).2:=rfl
 have hp2:(pX (t+1)).2=(2*(pX t).1+3*(pX t).2) % 5:=rfl
 have hpos:pos (t+1)=(pX t).2+5*((2*(pX t).1+3*(pX t).2) % 5):=rfl
 have hpl:=pos_lt (t+1)
 have hm:((t:Int)+1)*((t:Int)+2)=(((t+1)*(t+2):Nat):Int):=by simp
 have hm2:(t+1)*(t+2)≤25*26:=Nat.mul_le_mul (by omega) (by omega)
 obtain⟨m,hmm⟩: ∃m,(t+1)*(t+2)=m:=⟨_,rfl⟩
 have hrot:rot t=m/2 % 64:=by rw [rot,hmm]
 rw [hmm]at hm hm2
 refine At.seq fun _ s_3=>At.region (op_lss (aC rfl) rfl rfl rfl (aA (aB (s_3 (At.seq fun _ s_4=>aO rfl (fun c12=>?_) (fun c12=>?_))))))
 ·refine At.skip (aB (s_4 (At.seq fun _ s_5=>At.block (At.seq fun _ s_6=>At.region (aE (aC rfl) rfl rfl (aD (aC rfl) rfl rfl (aA (aB (s_6 (At.seq fun _ s_7=>At.region (aE (aC rfl) rfl rfl (aE (aC rfl) rfl rfl (op_mulI (aC rfl) rfl rfl (by omega) (by omega) rfl (aE (aC rfl) rfl rfl (op_mulI (aC rfl) rfl rfl (by omega) (by omega) rfl (bI (aC rfl) rfl rfl (by omega) (by omega) rfl (op_rem (aC rfl) rfl rfl (by omega) (by omega) rfl (aD (aC rfl) rfl rfl (aD (aC rfl) rfl rfl ?_)))))))))))))))))))
  refine aA (aB (s_7 (At.seq fun _ s_8=>At.region (aE (aC rfl) rfl rfl (aE (aC rfl) rfl rfl (op_mulI (aC rfl) rfl rfl (by omega) (by omega) rfl (bI (aC rfl) rfl rfl (by omega) (by omega) rfl (aD (aC rfl) rfl rfl (aA (aB (s_8 (At.drawn [18] [0,1,2,3,4,5,6,7,8,9,11,12,13,14,15,16,10,17,18,19] (by kernel_rfl) (by kernel_rfl) (aE (aR rfl rfl rfl (by kernel_rfl)) rfl rfl (aE (aR rfl rfl rfl (by kernel_rfl)) rfl rfl (aE (aR rfl rfl rfl (by kernel_rfl)) rfl rfl (aE (aR rfl rfl rfl (by kernel_rfl)) rfl rfl (bI (aR rfl rfl rfl (by kernel_rfl)) rfl rfl (by omega) (by omega) rfl (aE (aR rfl rfl rfl (by kernel_rfl)) rfl rfl (bI (aR rfl rfl rfl (by kernel_rfl)) rfl rfl (by omega) (by omega) rfl ?_)))))))))))))))))))
  -- an operation that writes, not last
  refine op_mulI (aR rfl rfl rfl (by kernel_rfl)) rfl rfl (by rw [hm];omega) (by rw [hm];omega) rfl ?_
  rw [hm]
  refine op_quoI (aR rfl rfl rfl (by kernel_rfl)) rfl rfl (by omega) (by omega) (by omega) rfl (op_rem (aR rfl rfl rfl (by kernel_rfl)) rfl rfl (by omega) (by omega) rfl ?_)
  rw [show(m:Int)/2 % 64=((rot t:Nat):Int)from by omega]
  refine aE (aR rfl rfl rfl (by kernel_rfl)) rfl rfl (aE (aR rfl rfl rfl (by kernel_rfl)) rfl rfl (op_nilChk (aR rfl rfl rfl (by kernel_rfl)) rfl rfl (op_idxA (aR rfl rfl rfl (by kernel_rfl)) ae187 rfl rfl (show _=(((pos (t+1):Nat)):Int)from by omega) (by omega) rfl ?_)))
  refine aL (aR rfl rfl rfl (by kernel_rfl)) sc24 rfl B0 (by first|exact get64A (by omega)|rfl|exact getT (by omega)) aP rfl ?_
  refine op_nilChk (aR rfl rfl rfl (by kernel_rfl)) rfl rfl (aG (nxoa rfl rfl rfl) (.cons rfl (.cons rfl .nil)) (Rot_f (tuP a t).2 (rot t) (by omega)) Tryz.func185 rfl rfl (by simp) rfl ?_)
  rintro v35 L35 ⟨rfl,rfl⟩
  change At _ _ _ [N0,R] _
  refine op_idxA (aR rfl rfl rfl (by kernel_rfl)) ae187 rfl rfl (show _=(((pos (t+1):Nat)):Int)from by omega) (by omega) rfl ?_
  refine aI (nxos rfl rfl rfl rfl) sz24 rfl rfl rfl rfl rfl B0 (by rw [lenT];simp;omega) sel0 (fun N0 B0=>?_)
  rw [setT (by omega)]at B0
  refine aD (aR rfl rfl rfl (by kernel_rfl)) rfl rfl (At.oneNil (bC (aB (s_5 (At.region (bI (aC rfl) rfl rfl (by omega) (by omega) rfl (aE (aC rfl) rfl rfl (aA (aB (At.back ?_ (.refl _) ⟨t+1,N0,rfl,rfl,rfl,by omega,B0⟩ ?_))))))))))
  ·exact .cons (by first|exact a6 rfl (by omega)|rfl) (.cons (by first|exact a6 rfl (by omega)|rfl) (.cons (by first|exact a6 rfl (by omega)|rfl) (.cons (by first|exact a6 rfl (by omega)|rfl) (.cons (by first|exact a6 rfl (by omega)|rfl) .nil))))
  ·omega
 refine At.exit (aM (aM (At.inHit (At.retNE (L1:= [N0]) rfl .nil rfl (.refl _) (.refl _) ?_))))
 obtain rfl:t=24:=by omega
 exact⟨N0,rfl,rfl,B0⟩
end Go.Proofs.YtjfagifjajielaaGreat
/- Package hash: chi, the constants, Keccak's permutation. No condition. -/
namespace Go.Proofs.YtjfagifjajielaaGreat
open Go Go.RowKit
theorem cutL {a m b:List Value} {k n:Nat} (ha:a.length=k) (hm:m.length=n):((a++(m++b)).drop k).take n=m:=by
 subst ha;subst hm
 rw [List.drop_left,List.take_left]
theorem all64 (l:List UInt64):(u64s l).all (·.oneCell')=true:=List.all_eq_true.2 (one_u64s l)
theorem row_cells {a:List UInt64} {T:List Value} {y:Nat} (h:y+5≤a.length):((u64s a++T).drop (0+y*1)).take 5=u64s ((a.drop y).take 5):=by
 have e:u64s a=u64s (a.take y)++(u64s ((a.drop y).take 5)++u64s (a.drop (y+5))):=by
  conv=>lhs;rw [←List.take_append_drop y a, ←List.take_append_drop 5 (a.drop y),List.drop_drop]
  simp [u64s]
 rw [e,Nat.zero_add,Nat.mul_one,List.append_assoc,List.append_assoc]
 exact cutL (by simp [u64s];omega) (by simp [u64s];omega)
set_option maxRecDepth 100000 in
set_option maxHeartbeats 1000000 in
theorem FChi_f {N:Heaplet} {b0:Nat} {e0:TypeId} {a:List UInt64} {T:List Value} (ha:a.length=25) (B0:Blk N b0 e0 (u64s a++T)):Fn Tryz.prog 179 #[.pointer (some ⟨b0,0,none⟩)] [N] [] (fun v L=> ∃M,v=.tuple #[]∧L= [M]∧Blk M b0 e0 (u64s (chP a 5)++T)):=by
 obtain⟨N0,h0⟩: ∃N0,N0=N:=⟨_,rfl⟩
 rw [←h0]at B0⊢
 refine Fn.enter (vs:= [.pointer (some ⟨b0,0,none⟩)]) Tryz.func179 rfl rfl rfl ?_
 intro E R hR
 change At _ _ E [N0,R] _
 refine At.seq fun _ s_1=>At.region (aD (aC rfl) rfl rfl (aA (aB (s_1 (At.block (At.loop (fun fr_ hp_ ms_=> ∃(k:Nat) (N0:Heaplet),fr_= [(0,.pointer (some ⟨b0,0,none⟩)),(2,.int .i64 (5*(k:Int)))]∧hp_= [N0,R]∧5- k=ms_∧(k≤5)∧(Blk N0 b0 e0 (u64s (chP a k)++T))) ?_ (.refl _) ⟨0,N0,rfl,rfl,rfl,by omega,B0⟩ ?_))))))
 ·exact .cons (by first|exact a6 rfl (by omega)|rfl) (.cons (by first|exact a6 rfl (by omega)|rfl) .nil)
 rintro _ _ _ ⟨k,N0,rfl,rfl,rfl,hk,B0⟩
 have hal:=(chP_len a k).trans ha
 refine At.seq fun _ s_2=>At.seq fun _ s_3=>At.region (aE (aC rfl) rfl rfl (op_lss (aC rfl) rfl rfl rfl (aA (aB (s_3 (aO rfl (fun c6=>?_) (fun c6=>?_)))))))
 ·refine At.skip (aB (s_2 (At.seq fun _ s_4=>At.block (At.seq fun _ s_5=>At.region (aE (aC rfl) rfl rfl (op_nilChk (aC rfl) rfl rfl (aE (aC rfl) rfl rfl (aE (aC rfl) rfl rfl (bI (aC rfl) rfl rfl (by omega) (by omega) rfl (op_sliceA (aC rfl) ae187 rfl (.some rfl (show _=(((5*k:Nat)):Int)from by omega)) (.some rfl (show _=(((5*k+5:Nat)):Int)from by omega)) .none (by omega) (by omega) (by omega) (by simp) rfl ?_))))))))))
  rw [if_neg (by omega)]
  have hrl:(((chP a k).drop (5*k)).take 5).length=5:=by rw [List.length_take,List.length_drop];omega
  have hrc:=row_cells (a:=chP a k) (T:=T) (y:=5*k) (by omega)
  obtain⟨row,hrow⟩: ∃row,row=((chP a k).drop (5*k)).take 5:=⟨_,rfl⟩
  rw [←hrow]at hrl hrc
  refine op_toArr (aC rfl) ae230 rfl (by omega) rfl (aQ (ds:=u64s row) (aC rfl) ag230 rfl B0 hrc (by simp [u64s,hrl]) aP rfl ?_)
  refine aS (aT rfl) ze230 rfl (fun N3 b3 B3=>?_)
  change Blk N3 b3 _ [.int .u64 0,.int .u64 0,.int .u64 0,.int .u64 0,.int .u64 0]at B3
  refine aI (nxl rfl) sz230 rfl rfl rfl (by simp [u64s,hrl]) (all64 _) B3 (by simp [u64s,hrl]) sel0 (fun N3 B3=>?_)
  rw [setL_whole (by simp [u64s,hrl])]at B3
  refine aA (aB (s_5 (At.seq fun _ s_6=>At.region (aE (aC rfl) rfl rfl (aA (aB (s_6 (At.block ?_))))))))
  change Blk N0 b0 _ (u64s (chI row (chP a k) (5*k) 0)++T)at B0
  refine At.loop (fun fr_ hp_ ms_=> ∃(x:Nat) (N0:Heaplet),fr_= [(0,.pointer (some ⟨b0,0,none⟩)),(2,.int .i64 (5*(k:Int))),(3,.pointer (some ⟨b3,0,none⟩)),(17,.int .i64 (x:Int))]∧hp_= [N3,N0,R]∧5- x=ms_∧(x≤5)∧(Blk N0 b0 e0 (u64s (chI row (chP a k) (5*k) x)++T))) ?_ (.refl _) ⟨0,N0,rfl,rfl,rfl,by omega,B0⟩ ?_
  ·exact .cons (by first|exact a6 rfl (by omega)|rfl) (.cons (by first|exact a6 rfl (by omega)|rfl) (.cons (by first|exact a6 rfl (by omega)|rfl) (.cons (by first|exact a6 rfl (by omega)|rfl) .nil)))
  rintro _ _ _ ⟨x,N0,rfl,rfl,rfl,hx,B0⟩
  have hcl:=chI_len row (chP a k) (5*k) x
  refine At.seq fun _ s_7=>At.region (op_lss (aC rfl) rfl rfl rfl (aA (aB (s_7 (At.seq fun _ s_8=>aO rfl (fun c18=>?_) (fun c18=>?_))))))
  ·refine At.skip (aB (s_8 (At.seq fun _ s_9=>At.block (At.seq fun _ s_10=>At.region (aE (aC rfl) rfl rfl (aD (aC rfl) rfl rfl (aA (aB (s_10 (At.drawn [22] [0,1,2,3,4,5,6,7,8,9,10,11,12,13,14,15,16,17,18,19,20,21,22] (by kernel_rfl) (by kernel_rfl) (aE (aR rfl rfl rfl (by kernel_rfl)) rfl rfl (aE (aR rfl rfl rfl (by kernel_rfl)) rfl rfl (aE (aR rfl rfl rfl (by kernel_rfl)) rfl rfl (bI (aR rfl rfl rfl (by kernel_rfl)) rfl rfl (by omega) (by omega) rfl (aE (aR rfl rfl rfl (by kernel_rfl)) rfl rfl (op_idxA (aR rfl rfl rfl (by kernel_rfl)) ae230 rfl rfl (show _=(((x:Nat)):Int)from by omega) (by omega) rfl ?_))))))))))))))))
   refine aL (aR rfl rfl rfl (by kernel_rfl)) sc24 rfl B3 (by first|exact get64A (by omega)|rfl) aP rfl ?_
   refine aE (aR rfl rfl rfl (by kernel_rfl)) rfl rfl (bI (aR rfl rfl rfl (by kernel_rfl)) rfl rfl (by omega) (by omega) rfl (op_rem (aR rfl rfl rfl (by kernel_rfl)) rfl rfl (by omega) (by omega) rfl (op_idxA (aR rfl rfl rfl (by kernel_rfl)) ae230 rfl rfl (show _=((((x+1) % 5:Nat)):Int)from by omega) (by omega) rfl ?_)))
   refine aL (aR rfl rfl rfl (by kernel_rfl)) sc24 rfl B3 (by first|exact get64A (by omega)|rfl) aP rfl ?_
   refine op_compU (aR rfl rfl rfl (by kernel_rfl)) rfl rfl (aE (aR rfl rfl rfl (by kernel_rfl)) rfl rfl (bI (aR rfl rfl rfl (by kernel_rfl)) rfl rfl (by omega) (by omega) rfl (op_rem (aR rfl rfl rfl (by kernel_rfl)) rfl rfl (by omega) (by omega) rfl (op_idxA (aR rfl rfl rfl (by kernel_rfl)) ae230 rfl rfl (show _=((((x+2) % 5:Nat)):Int)from by omega) (by omega) rfl ?_))))
   refine aL (aR rfl rfl rfl (by kernel_rfl)) sc24 rfl B3 (by first|exact get64A (by omega)|rfl) aP rfl ?_
   refine op_andU (aR rfl rfl rfl (by kernel_rfl)) rfl rfl rfl (op_xorU (aR rfl rfl rfl (by kernel_rfl)) rfl rfl rfl (op_nilChk (aR rfl rfl rfl (by kernel_rfl)) rfl rfl (op_idxA (aR rfl rfl rfl (by kernel_rfl)) ae187 rfl rfl (show _=(((5*k+x:Nat)):Int)from by omega) (by omega) rfl ?_)))
   refine aI (nxos rfl rfl rfl rfl) sz24 rfl rfl rfl rfl rfl B0 (by rw [lenT];simp;omega) sel1 (fun N0 B0=>?_)
   rw [setT (by omega)]at B0
   refine At.oneNil (bC (aB (s_9 (At.region (bI (aC rfl) rfl rfl (by omega) (by omega) rfl (aE (aC rfl) rfl rfl (aA (aB (At.perm sel2 (At.perm sel1 (At.perm sel2 (At.back ?_ (.refl _) ⟨x+1,N0,rfl,rfl,rfl,by omega,B0⟩ ?_))))))))))))
   ·exact .cons (by first|exact a6 rfl (by omega)|rfl) (.cons (by first|exact a6 rfl (by omega)|rfl) (.cons (by first|exact a6 rfl (by omega)|rfl) (.cons (by first|exact a6 rfl (by omega)|rfl) .nil)))
   ·omega
  refine At.exit (aM (aM (At.inHit (bC (aB (s_4 (At.region ?_)))))))
  obtain rfl:x=5:=by omega
  rw [hrow]at B0
  refine aE (aC rfl) rfl rfl (bI (aC rfl) rfl rfl (by omega) (by omega) rfl (aD (aC rfl) rfl rfl (aA (aB (At.sub (L':= [N0,R]) (.cons _ (.cons_cons _ (.cons_cons _ (.slnil)))) (At.back ?_ (.refl _) ⟨k+1,N0,rfl,rfl,rfl,by omega,B0⟩ ?_))))))
  ·exact .cons (by first|exact a6 rfl (by omega)|rfl) (.cons (by first|exact a6 rfl (by omega)|rfl) .nil)
  ·omega
 refine At.exit (aM (aM (At.inHit (At.retNE (L1:= [N0]) rfl .nil rfl (.refl _) (.refl _) ?_))))
 obtain rfl:k=5:=by omega
 exact⟨N0,rfl,rfl,B0⟩
set_option maxRecDepth 100000 in
set_option maxHeartbeats 1000000 in
theorem FConst_f:Fn Tryz.prog 176 #[] [] [] (fun v L=>v=.agg (u64s rcL).toArray∧L= []):=by
 refine Fn.enter (vs:= []) Tryz.func176 rfl rfl rfl ?_
 intro E R hR
 change At _ _ E [R] _
 refine At.seq fun _ s_1=>At.region (aS (aT rfl) ze249 rfl (fun N0 b0 B0=>?_))
 change Blk N0 b0 _ [.int .u64 0,.int .u64 0,.int .u64 0,.int .u64 0,.int .u64 0,.int .u64 0,.int .u64 0,.int .u64 0,.int .u64 0,.int .u64 0,.int .u64 0,.int .u64 0,.int .u64 0,.int .u64 0,.int .u64 0,.int .u64 0,.int .u64 0,.int .u64 0,.int .u64 0,.int .u64 0,.int .u64 0,.int .u64 0,.int .u64 0,.int .u64 0]at B0
 change Blk N0 b0 _ (u64s (List.replicate 24 0))at B0
 refine aA (aB (s_1 (At.seq fun _ s_2=>At.region (aS (aT rfl) ze249 rfl (fun N1 b1 B1=>?_)))))
 change Blk N1 b1 _ [.int .u64 0,.int .u64 0,.int .u64 0,.int .u64 0,.int .u64 0,.int .u64 0,.int .u64 0,.int .u64 0,.int .u64 0,.int .u64 0,.int .u64 0,.int .u64 0,.int .u64 0,.int .u64 0,.int .u64 0,.int .u64 0,.int .u64 0,.int .u64 0,.int .u64 0,.int .u64 0,.int .u64 0,.int .u64 0,.int .u64 0,.int .u64 0]at B1
 change Blk N1 b1 _ (u64s (cN (7*0)))at B1
 refine aA (aB (s_2 (At.seq fun _ s_3=>At.region (aD (aC rfl) rfl rfl (aA (aB (s_3 (At.seq fun _ s_4=>At.seq fun _ s_5=>At.region (aE (aC rfl) rfl rfl (aA (aB (s_5 (At.block (At.loop (fun fr_ hp_ ms_=> ∃(i:Nat) (N1:Heaplet),fr_= [(0,.pointer (some ⟨b0,0,none⟩)),(1,.pointer (some ⟨b1,0,none⟩)),(2,.int .u8 (rI (7*i))),(6,.int .i64 (i:Int))]∧hp_= [N1,N0,R]∧24- i=ms_∧(i≤24)∧(Blk N1 b1 249 (u64s (cN (7*i))))) ?_ (.refl _) ⟨0,N1,rfl,rfl,rfl,by omega,B1⟩ ?_))))))))))))))
 ·exact .cons (by first|exact a6 rfl (by omega)|rfl) (.cons (by first|exact a6 rfl (by omega)|rfl) (.cons (by first|exact a6 rfl (by omega)|rfl) (.cons (by first|exact a6 rfl (by omega)|rfl) .nil)))
 rintro _ _ _ ⟨i,N1,rfl,rfl,rfl,hi,B1⟩
 refine At.seq fun _ s_6=>At.region (op_lss (aC rfl) rfl rfl rfl (aA (aB (s_6 (At.seq fun _ s_7=>aO rfl (fun c7=>?_) (fun c7=>?_))))))
 ·refine At.skip (aB (s_7 (At.seq fun _ s_8=>At.block (At.seq fun _ s_9=>At.region (aE (aC rfl) rfl rfl (aD (aC rfl) rfl rfl (aA (aB (s_9 (At.seq fun _ s_10=>At.region (aE (aC rfl) rfl rfl (aA (aB (s_10 (At.block (At.loop (fun fr_ hp_ ms_=> ∃(j:Nat) (N1:Heaplet),fr_= [(0,.pointer (some ⟨b0,0,none⟩)),(1,.pointer (some ⟨b1,0,none⟩)),(2,.int .u8 (rI (7*i+j))),(3,.int .i64 (i:Int)),(6,.int .i64 (i:Int)),(9,.int .i64 (j:Int))]∧hp_= [N1,N0,R]∧7- j=ms_∧(j≤7)∧(Blk N1 b1 249 (u64s (cN (7*i+j))))) ?_ (.refl _) ⟨0,N1,rfl,rfl,rfl,by omega,B1⟩ ?_))))))))))))))))
  ·exact .cons (by first|exact a6 rfl (by omega)|rfl) (.cons (by first|exact a6 rfl (by omega)|rfl) (.cons (by first|exact a6 rfl (by omega)|rfl) (.cons (by first|exact a6 rfl (by omega)|rfl) (.cons (by first|exact a6 rfl (by omega)|rfl) (.cons (by first|exact a6 rfl (by omega)|rfl) .nil)))))
  rintro _ _ _ ⟨j,N1,rfl,rfl,rfl,hj,B1⟩
  have hcl:=cN_len (7*i+j)
  obtain⟨hr0,hr1,hr2⟩:=rI_ok ⟨7*i+j,by omega⟩
  simp only at hr0 hr1 hr2
  refine At.seq fun _ s_11=>At.region (op_lss (aC rfl) rfl rfl rfl (aA (aB (s_11 (At.seq fun _ s_12=>aO rfl (fun c10=>?_) (fun c10=>?_))))))
  ·refine At.skip (aB (s_12 (At.seq fun _ s_13=>At.block (At.seq fun _ s_14=>At.region (aE (aC rfl) rfl rfl (aD (aC rfl) rfl rfl (aA (aB (s_14 (At.seq fun _ s_15=>At.drawn [12] [0,1,2,3,4,5,6,7,8,9,10,11,12] (by kernel_rfl) (by kernel_rfl) (aE (aR rfl rfl rfl (by kernel_rfl)) rfl rfl (op_idxA (aR rfl rfl rfl (by kernel_rfl)) ae249 rfl rfl (show _=(((i:Nat)):Int)from by omega) (by omega) rfl ?_))))))))))))
   refine aL (aR rfl rfl rfl (by kernel_rfl)) sc24 rfl B1 (by first|exact get64A (by omega)|rfl) aP rfl ?_
   refine aE (aR rfl rfl rfl (by kernel_rfl)) rfl rfl (op_bits (by simp) (aR rfl rfl rfl (by kernel_rfl)) rfl rfl rfl (op_conv64 (aR rfl rfl rfl (by kernel_rfl)) (und_some Tryz.underlying5) Tryz.underlying24 rfl (show _=((((bits .and .u8 (rI (7*i+j)) 1).toNat:Nat)):Int)from by omega) rfl ?_))
   refine aE (aR rfl rfl rfl (by kernel_rfl)) rfl rfl (op_shlU (a:=1) (aR rfl rfl rfl (by kernel_rfl)) rfl rfl (show _=(((j:Nat)):Int)from by omega) rfl ?_)
   refine op_subU (b:=1) (aR rfl rfl rfl (by kernel_rfl)) rfl rfl rfl (op_shlU (aR rfl rfl rfl (by kernel_rfl)) rfl rfl (show _=((((shl64 1 j- 1).toNat:Nat)):Int)from by omega) rfl ?_)
   refine op_orU (aR rfl rfl rfl (by kernel_rfl)) rfl rfl rfl (op_idxA (aR rfl rfl rfl (by kernel_rfl)) ae249 rfl rfl (show _=(((i:Nat)):Int)from by omega) (by omega) rfl ?_)
   refine aI (nxos rfl rfl rfl rfl) sz24 rfl rfl rfl rfl rfl B1 (by simp<;>omega) sel0 (fun N1 B1=>?_)
   rw [set64A]at B1
   refine At.oneNil (aB (s_15 (At.seq fun _ s_16=>At.region (aE (aC rfl) rfl rfl (op_shrW (aC rfl) rfl rfl (by omega) (by omega) rfl (aD (aC rfl) rfl rfl (aA (aB (s_16 (At.region (aE (aC rfl) rfl rfl (op_shlW (aC rfl) rfl rfl (by omega) rfl (aE (aC rfl) rfl rfl (op_mulW (aC rfl) rfl rfl rfl (op_bits (by simp) (aC rfl) rfl rfl rfl (aD (aC rfl) rfl rfl (aA (bC (aB (s_13 (At.region (bI (aC rfl) rfl rfl (by omega) (by omega) rfl ?_))))))))))))))))))))))
   refine aE (aC rfl) rfl rfl (aA (aB ?_))
   refine At.back ?_ (.refl _) ⟨j+1,N1,rfl,rfl,rfl,by omega,by rw [show 7*i+(j+1)=(7*i+j)+1 by omega,cN,cStep,show(7*i+j)/7=i by omega,show(7*i+j) % 7=j by omega];exact B1⟩ ?_
   ·exact .cons (by first|exact a6 rfl (by omega)|rfl) (.cons (by first|exact a6 rfl (by omega)|rfl) (.cons (by first|exact a6 rfl (by omega)|rfl) (.cons (by first|exact a6 rfl (by omega)|rfl) (.cons (by first|exact a6 rfl (by omega)|rfl) (.cons (by first|exact a6 rfl (by omega)|rfl) .nil)))))
   ·omega
  refine At.exit (aM (aM (At.inHit (bC (aB (s_8 (At.region ?_)))))))
  obtain rfl:j=7:=by omega
  change Blk N1 b1 _ (u64s (cN (7*(i+1))))at B1
  refine bI (aC rfl) rfl rfl (by omega) (by omega) rfl (aE (aC rfl) rfl rfl (aA (aB (At.back ?_ (.refl _) ⟨i+1,N1,rfl,rfl,rfl,by omega,B1⟩ ?_))))
  ·exact .cons (by first|exact a6 rfl (by omega)|rfl) (.cons (by first|exact a6 rfl (by omega)|rfl) (.cons (by first|exact a6 rfl (by omega)|rfl) (.cons (by first|exact a6 rfl (by omega)|rfl) .nil)))
  ·omega
 refine At.exit (aM (aM (At.inHit (aB (s_4 (At.seq fun _ s_17=>At.region ?_))))))
 obtain rfl:i=24:=by omega
 change Blk N1 b1 _ (u64s rcL)at B1
 have hrl:rcL.length=24:=cN_len 168
 refine aQ (ds:=u64s rcL) (aC rfl) ag249 rfl B1 (by rw [List.drop_zero,List.take_of_length_le (by simp [u64s,hrl])]) (by simp [u64s,hrl]) aP rfl ?_
 refine aI (nxl rfl) sz249 rfl rfl rfl (by simp [u64s,hrl]) (all64 _) B0 (by simp [u64s,hrl]) sel1 (fun N0 B0=>?_)
 rw [setL_whole (by simp [u64s,hrl])]at B0
 refine aA (aB (s_17 (At.ret ((At.sub (L':= [N0,R]) (.cons_cons _ (.cons _ (.cons_cons _ (.slnil)))) (aW (L1:= []) rfl (.cell rfl (aZ (ds:=u64s rcL) ag249 B0 (by rw [List.drop_zero,List.take_of_length_le (by simp [u64s,hrl])]) (by simp [u64s,hrl]) aP) .nil) (.cons _ (.refl _)) (.refl _) ?_))))))
 exact⟨rfl,rfl⟩
set_option maxRecDepth 100000 in
set_option maxHeartbeats 1000000 in
theorem FPermute_f {N:Heaplet} {b0:Nat} {e0:TypeId} {a:List UInt64} {T:List Value} (ha:a.length=25) (B0:Blk N b0 e0 (u64s a++T)):Fn Tryz.prog 157 #[.pointer (some ⟨b0,0,none⟩)] [N] [] (fun v L=> ∃M,v=.tuple #[]∧L= [M]∧Blk M b0 e0 (u64s (prm a 24)++T)):=by
 obtain⟨N0,h0⟩: ∃N0,N0=N:=⟨_,rfl⟩
 rw [←h0]at B0⊢
 have hrl:rcL.length=24:=cN_len 168
 refine Fn.enter (vs:= [.pointer (some ⟨b0,0,none⟩)]) Tryz.func157 rfl rfl rfl ?_
 intro E R hR
 change At _ _ E [N0,R] _
 refine At.seq fun _ s_1=>At.region (aG (aT rfl) .nil (FConst_f) Tryz.func176 rfl rfl (by simp) rfl ?_)
 rintro v4 L4 ⟨rfl,rfl⟩
 change At _ _ _ [N0,R] _
 refine aE (aC rfl) rfl rfl (aA (aB (s_1 (At.block ?_))))
 change Blk N0 b0 _ (u64s (prm a 0)++T)at B0
 refine At.loop (fun fr_ hp_ ms_=> ∃(k:Nat) (N0:Heaplet),fr_= [(0,.pointer (some ⟨b0,0,none⟩)),(4,.agg (u64s rcL).toArray),(5,.int .i64 (k:Int))]∧hp_= [N0,R]∧24- k=ms_∧(k≤24)∧(Blk N0 b0 e0 (u64s (prm a k)++T))) ?_ (.refl _) ⟨0,N0,rfl,rfl,rfl,by omega,B0⟩ ?_
 ·exact .cons (by first|exact a6 rfl (by omega)|rfl) (.cons (by first|exact a6 rfl (by omega)|rfl) (.cons (by first|exact a6 rfl (by omega)|rfl) .nil))
 rintro _ _ _ ⟨k,N0,rfl,rfl,rfl,hk,B0⟩
 have hal:=(prm_len a k).trans ha
 have hl1:(theta (prm a k)).length=25:=(theta_len _).trans hal
 have hl2:(tuP (theta (prm a k)) 24).1.length=25:=(tuP_len _ _).trans hl1
 have hl3:(chP (tuP (theta (prm a k)) 24).1 5).length=25:=(chP_len _ _).trans hl2
 refine At.seq fun _ s_2=>At.region (op_lss (aC rfl) rfl rfl rfl (aA (aB (s_2 (At.seq fun _ s_3=>aO rfl (fun c6=>?_) (fun c6=>?_))))))
 ·refine At.skip (aB (s_3 (At.seq fun _ s_4=>At.block (At.seq fun _ s_5=>At.region ?_))))
  refine op_idxV (aC rfl) ae249 sc24 rfl rfl (show _=(((k:Nat)):Int)from by omega) (by omega) (by rw [List.getElem?_toArray];exact get64 (by omega)) rfl ?_
  refine aD (aC rfl) rfl rfl (aA (aB (s_5 (At.seq fun _ s_6=>At.region (aE (aC rfl) rfl rfl (op_call (nxl rfl) (.cons rfl .nil) (FTheta_f hal B0) (F:= [R]) Tryz.func177 rfl rfl (.refl _) (by simp) rfl ?_))))))
  rintro v9 L9 ⟨N0,rfl,rfl,B0⟩
  change At _ _ _ [N0,R] _
  refine aA (aB (s_6 (At.seq fun _ s_7=>At.region (aE (aC rfl) rfl rfl (op_call (nxl rfl) (.cons rfl .nil) (FTurn_f hl1 B0) (F:= [R]) Tryz.func178 rfl rfl (.refl _) (by simp) rfl ?_)))))
  rintro v11 L11 ⟨N0,rfl,rfl,B0⟩
  change At _ _ _ [N0,R] _
  refine aA (aB (s_7 (At.seq fun _ s_8=>At.region (aE (aC rfl) rfl rfl (op_call (nxl rfl) (.cons rfl .nil) (FChi_f hl2 B0) (F:= [R]) Tryz.func179 rfl rfl (.refl _) (by simp) rfl ?_)))))
  rintro v13 L13 ⟨N0,rfl,rfl,B0⟩
  change At _ _ _ [N0,R] _
  obtain⟨q,hq⟩: ∃q,chP (tuP (theta (prm a k)) 24).1 5=q:=⟨_,rfl⟩
  rw [hq]at B0 hl3
  refine aA (aB (s_8 (At.drawn [8] [0,1,2,3,4,5,6,7,8] (by kernel_rfl) (by kernel_rfl) (aE (aR rfl rfl rfl (by kernel_rfl)) rfl rfl (op_nilChk (aR rfl rfl rfl (by kernel_rfl)) rfl rfl (op_idxA (aR rfl rfl rfl (by kernel_rfl)) ae187 rfl rfl (show _=(((0:Nat)):Int)from by omega) (by omega) rfl ?_))))))
  refine aL (aR rfl rfl rfl (by kernel_rfl)) sc24 rfl B0 (by first|exact get64A (by omega)|rfl|exact getT (by omega)) aP rfl ?_
  refine aE (aR rfl rfl rfl (by kernel_rfl)) rfl rfl (op_xorU (aR rfl rfl rfl (by kernel_rfl)) rfl rfl rfl (op_nilChk (aR rfl rfl rfl (by kernel_rfl)) rfl rfl (op_idxA (aR rfl rfl rfl (by kernel_rfl)) ae187 rfl rfl (show _=(((0:Nat)):Int)from by omega) (by omega) rfl ?_)))
  refine aI (nxos rfl rfl rfl rfl) sz24 rfl rfl rfl rfl rfl B0 (by rw [lenT];simp;omega) sel0 (fun N0 B0=>?_)
  rw [setT (by omega)]at B0
  refine At.oneNil (bC (aB (s_4 (At.region (bI (aC rfl) rfl rfl (by omega) (by omega) rfl (aE (aC rfl) rfl rfl (aA (aB ?_))))))))
  refine At.back ?_ (.refl _) ⟨k+1,N0,rfl,rfl,rfl,by omega,by rw [prm,kRound,hq];exact B0⟩ ?_
  ·exact .cons (by first|exact a6 rfl (by omega)|rfl) (.cons (by first|exact a6 rfl (by omega)|rfl) (.cons (by first|exact a6 rfl (by omega)|rfl) .nil))
  ·omega
 refine At.exit (aM (aM (At.inHit (At.retNE (L1:= [N0]) rfl .nil rfl (.refl _) (.refl _) ?_))))
 obtain rfl:k=24:=by omega
 exact⟨N0,rfl,rfl,B0⟩
end Go.Proofs.YtjfagifjajielaaGreat
