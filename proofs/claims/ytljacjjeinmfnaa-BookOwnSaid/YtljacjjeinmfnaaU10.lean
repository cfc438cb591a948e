/- Several texts in one: see the remarks ahead of each part. No condition but those told there. -/
import Derived.Test.YtljacjjeinmfnaaU9
import Derived.Test.YtljacjjeinmfnaaU5
import Derived.Test.YtljacjjeinmfnaaU6
import Derived.Test.YtljacjjeinmfnaaU7
set_option linter.unusedSimpArgs false
set_option linter.unusedVariables false
/- Package word: all bits turned, order. No condition. -/
namespace Go.Proofs.Ytljacjjeinmfnaa
open Go Go.RowKit
set_option maxRecDepth 100000 in
theorem WCmp_f {x y:Nat} (hx:x<WW) (hy:y<WW):Fn Try.prog 128 #[wo x,wo y] [] [] (fun v L=>v=.int .i64 (cmpN x y)∧L= []):=by
 have hlx:=length_wl x
 have hly:=length_wl y
 have hvx:=v64_wl_lt hx
 have hvy:=v64_wl_lt hy
 refine Fn.enter (vs:= [wo x,wo y]) Try.func128 rfl rfl rfl ?_
 intro E R hR
 change At _ _ E [R] _
 refine At.seq fun _ s_1=>At.region (op_box (aV rfl) rfl rfl rfl (fun N2 b2 B2=>?_))
 change Blk N2 b2 _ (u64s (wl x))at B2
 refine op_box (aV rfl) rfl rfl rfl (fun N3 b3 B3=>?_)
 change Blk N3 b3 _ (u64s (wl y))at B3
 refine aE (aC rfl) rfl rfl (aA (aB (s_1 (At.seq fun _ s_2=>At.seq fun _ s_3=>At.region (aE (aC rfl) rfl rfl (aA (aB (s_3 (At.block (At.perm aX (At.perm bZ (At.perm aX (At.loop (fun fr_ hp_ ms_=> ∃(j:Nat),fr_= [(2,.pointer (some ⟨b2,0,none⟩)),(3,.pointer (some ⟨b3,0,none⟩)),(5,.int .i64 ((j:Int)- 1))]∧hp_= [N2,N3,R]∧j=ms_∧(j≤4)∧((wl x).drop j=(wl y).drop j)) ?_ (.refl _) ⟨4,rfl,rfl,rfl,by omega,by rw [List.drop_of_length_le (by omega),List.drop_of_length_le (by omega)]⟩ ?_)))))))))))))
 ·exact .cons (by first|exact bE rfl (by omega)|rfl) (.cons (by first|exact bE rfl (by omega)|rfl) (.cons (by first|exact bE rfl (by omega)|rfl) .nil))
 rintro _ _ _ ⟨j,rfl,rfl,rfl,hj,hd⟩
 refine At.seq fun _ s_4=>At.seq fun _ s_5=>At.region (aD (aC rfl) rfl rfl (op_geq (aC rfl) rfl rfl rfl (aA (aB (s_5 (aP rfl (fun c7=>?_) (fun c7=>?_)))))))
 ·refine At.skip (aB (s_4 (At.seq fun _ s_6=>At.block (At.block (At.seq fun _ s_7=>At.drawnS [N2,N3,R] [] [] [0,1,2,3,4,5,6,7] (by kernel_rfl) (by kernel_rfl) (.refl _) (aD (bK rfl rfl rfl) rfl rfl (bY (bK rfl rfl rfl) ae26 rfl rfl (show _=(((j- 1:Nat)):Int)from by omega) (by omega) rfl ?_)))))))
  refine aH (bK rfl rfl rfl) sc24 rfl B2 (by first|exact get64A (by omega)|rfl) aN rfl ?_
  refine aD (bK rfl rfl rfl) rfl rfl (bY (bK rfl rfl rfl) ae26 rfl rfl (show _=(((j- 1:Nat)):Int)from by omega) (by omega) rfl ?_)
  refine aH (bK rfl rfl rfl) sc24 rfl B3 (by first|exact get64A (by omega)|rfl) bC rfl ?_
  refine op_lss (bK rfl rfl rfl) rfl rfl rfl (aE (bK rfl rfl rfl) rfl rfl (At.sNil (aB (s_7 (aP rfl (fun c10=>?_) (fun c10=>?_))))))
  ·refine At.seq fun _ s_8=>At.region (aE (aC rfl) rfl rfl (aA (aB (s_8 (At.ret (At.inRet (At.inRet (aT (aT (At.inRet (aT ((At.sub (L':= [R]) (.cons _ (.cons _ (.cons_cons _ (.slnil)))) (aZ (L1:= []) rfl (.tmp rfl .nil) (.refl _) (.refl _) ?_))))))))))))))
   have hd':(wl x).drop (j- 1+1)=(wl y).drop (j- 1+1):=by rw [show j- 1+1=j by omega];exact hd
   have h:=cmp_at (by omega) (by omega) hd' (by omega)
   rw [hvx,hvy]at h
   exact⟨by rw [cmpN_lt h],rfl⟩
  refine At.seq fun _ s_9=>At.drawnS [N2,N3,R] [] [] [0,1,2,3,4,5,6,7] (by kernel_rfl) (by kernel_rfl) (.refl _) (aD (bK rfl rfl rfl) rfl rfl (bY (bK rfl rfl rfl) ae26 rfl rfl (show _=(((j- 1:Nat)):Int)from by omega) (by omega) rfl ?_))
  refine aH (bK rfl rfl rfl) sc24 rfl B2 (by first|exact get64A (by omega)|rfl) aN rfl ?_
  refine aD (bK rfl rfl rfl) rfl rfl (bY (bK rfl rfl rfl) ae26 rfl rfl (show _=(((j- 1:Nat)):Int)from by omega) (by omega) rfl ?_)
  refine aH (bK rfl rfl rfl) sc24 rfl B3 (by first|exact get64A (by omega)|rfl) bC rfl ?_
  refine op_gtr (bK rfl rfl rfl) rfl rfl rfl (aE (bK rfl rfl rfl) rfl rfl (At.sNil (aB (s_9 (aP rfl (fun c18=>?_) (fun c18=>?_))))))
  ·refine At.seq fun _ s_10=>At.region (aE (aC rfl) rfl rfl (aA (aB (s_10 (At.ret (At.inRet (At.inRet (aT (aT (At.inRet (aT ((At.sub (L':= [R]) (.cons _ (.cons _ (.cons_cons _ (.slnil)))) (aZ (L1:= []) rfl (.tmp rfl .nil) (.refl _) (.refl _) ?_))))))))))))))
   have hd':(wl x).drop (j- 1+1)=(wl y).drop (j- 1+1):=by rw [show j- 1+1=j by omega];exact hd
   have h:=cmp_at (by omega) (by omega) hd'.symm (by omega)
   rw [hvx,hvy]at h
   exact⟨by rw [cmpN_gt h],rfl⟩
  refine At.skip (bB (bB (aB (s_6 (At.region (aD (aC rfl) rfl rfl (op_subI (aC rfl) rfl rfl (by omega) (by omega) rfl (aE (aC rfl) rfl rfl (aA (aB ?_))))))))))
  refine At.back ?_ (.refl _) ⟨j- 1,rfl,rfl,rfl,by omega,drop_eq_succ (z:=0) (by omega) (by omega) (UInt64.toNat_inj.1 (by omega)) (by rw [show j- 1+1=j by omega];exact hd)⟩ ?_
  ·exact .cons (by first|exact bE rfl (by omega)|rfl) (.cons (by first|exact bE rfl (by omega)|rfl) (.cons (by first|exact bE rfl (by omega)|rfl) .nil))
  ·omega
 refine At.exit (aO (aO (At.inHit (aB (s_2 (At.seq fun _ s_11=>At.region (aE (aC rfl) rfl rfl (aA (aB (s_11 (At.ret ((At.sub (L':= [R]) (.cons _ (.cons _ (.cons_cons _ (.slnil)))) (aZ (L1:= []) rfl (.tmp rfl .nil) (.refl _) (.refl _) ?_))))))))))))))
 have e:x=y:=by
  rw [show j=0 by omega]at hd
  exact wl_inj hx hy (by simpa using hd)
 exact⟨by rw [e,cmpN_eq],rfl⟩
end Go.Proofs.Ytljacjjeinmfnaa
/- Plain laws on numbers in digits of 32 bits (out of those on limbs, by a program). No condition. -/
namespace Go.Proofs.Ytljacjjeinmfnaa
end Go.Proofs.Ytljacjjeinmfnaa
/- Plain laws on numbers in digits of 32 bits that are reckoned in words of 64 bits. No condition. -/
namespace Go.Proofs.Ytljacjjeinmfnaa
open Go Go.RowKit
/-- The lower half of a limb. -/
def lo32 (s:UInt64):UInt32:=UInt32.ofNat s.toNat
/-- Digits in new memory: a number without zeros at its upper end. -/
def DigsP (V:Nat) (v:Value) (L:List Heaplet):Prop:=
 ∃M a c,v=.slice a (digsOf V).length c∧L= [M]∧RSl M 1 a (digsOf V).length c (u32s (digsOf V))
end Go.Proofs.Ytljacjjeinmfnaa
/- The reference's Add, Sub, Mul: numbers in digits of 32 bits. Condition: numbers of at most 2^40 digits; for Sub: the second is no greater. -/
namespace Go.Proofs.Ytljacjjeinmfnaa
open Go Go.RowKit
end Go.Proofs.Ytljacjjeinmfnaa
/- The reference's Shl, Shr, Bit, Len, Fill. Condition: numbers of at most 2^40 digits, shifts of at most 2^40 places. -/
namespace Go.Proofs.Ytljacjjeinmfnaa
open Go Go.RowKit
end Go.Proofs.Ytljacjjeinmfnaa
/- The reference's less and back: the parts of a division. Condition: numbers of at most 2^40 digits. -/
namespace Go.Proofs.Ytljacjjeinmfnaa
open Go Go.RowKit
def LessP (co:Option Addr) (nc cc:Nat) (pre u v post:List UInt32) (q:Nat) (r:Value) (L:List Heaplet):Prop:=
 ∃M x, ∃bw:Nat,r=.bool (decide (bw=1))∧L= [M]∧Row M 193 1 co nc cc (u32s (pre++x++post))∧x.length=u.length∧bw≤1∧v32 x+q*v32 v=v32 u+bw*2^(32*u.length)
def BackP (co:Option Addr) (nc cc:Nat) (pre u v post:List UInt32) (r:Value) (L:List Heaplet):Prop:=
 ∃M x, ∃c:Nat,r=.tuple #[]∧L= [M]∧Row M 193 1 co nc cc (u32s (pre++x++post))∧x.length=u.length∧c≤1∧v32 x+c*2^(32*u.length)=v32 u+v32 v∧((u.getD v.length 0).toNat≤(x.getD v.length 0).toNat↔c=0)
end Go.Proofs.Ytljacjjeinmfnaa
/- The reference's DivMod. Condition: numbers of at most some 2^40 digits; the divisor is not 0. -/
namespace Go.Proofs.Ytljacjjeinmfnaa
open Go Go.RowKit
/-- Two numbers in digits, in new memory. -/
def DigsP2 (A B:Nat) (v:Value) (L:List Heaplet):Prop:=
 ∃M1 a1 c1 M2 a2 c2,v=.tuple #[.slice a1 (digsOf A).length c1,.slice a2 (digsOf B).length c2]∧L= [M1,M2]∧RSl M1 1 a1 (digsOf A).length c1 (u32s (digsOf A))∧RSl M2 1 a2 (digsOf B).length c2 (u32s (digsOf B))
end Go.Proofs.Ytljacjjeinmfnaa
/- The reference's DivMod, Mod, ModExp in full. Condition: numbers of at most some 2^40 digits; the divisor is not 0. -/
namespace Go.Proofs.Ytljacjjeinmfnaa
open Go Go.RowKit
theorem Hp.empty {E w:World} {L:List Heaplet} (h:Hp E L w):Hp E (nilH::L) w:=
 ⟨h.os,h.tape,h.output,fun N hN=>by
  rcases List.mem_cons.1 hN with rfl|hN
  ·intro k o hk;cases hk
  ·exact h.sub N hN,List.pairwise_cons.2 ⟨fun N _ k=>.inl rfl,h.sep⟩⟩
/-- A quotient in new memory, and a rest that may be what was divided. -/
def DivR (N:Heaplet) (A B:Nat) (v:Value) (L:List Heaplet):Prop:=
 ∃Mq aq cq Mr ar cr,v=.tuple #[.slice aq (digsOf A).length cq,.slice ar (digsOf B).length cr]∧L= [Mq,Mr]∧RSl Mq 1 aq (digsOf A).length cq (u32s (digsOf A))∧(RSl Mr 1 ar (digsOf B).length cr (u32s (digsOf B))∨RSl N 1 ar (digsOf B).length cr (u32s (digsOf B)))
def ModR (N:Heaplet) (V:Nat) (v:Value) (L:List Heaplet):Prop:=
 ∃Q p c,v=.slice p (digsOf V).length c∧L= [Q]∧(RSl Q 1 p (digsOf V).length c (u32s (digsOf V))∨RSl N 1 p (digsOf V).length c (u32s (digsOf V)))
section
variable {N M : Heaplet} {ax bx : Option Addr} {na nb ca cb A B : Nat}
end
section
variable {N M Nm : Heaplet} {bx ex mx : Option Addr} {nb ne nm cb ce cm B E' Mv : Nat}
end
end Go.Proofs.Ytljacjjeinmfnaa
/- The reference's words: sums, products, quotients, with signs and without. No condition. -/
namespace Go.Proofs.Ytljacjjeinmfnaa
open Go Go.RowKit
end Go.Proofs.Ytljacjjeinmfnaa
/- The reference's words: quotients, with signs and without. No condition. -/
namespace Go.Proofs.Ytljacjjeinmfnaa
open Go Go.RowKit
end Go.Proofs.Ytljacjjeinmfnaa
/- The reference's words: in and out, orders. No condition. -/
namespace Go.Proofs.Ytljacjjeinmfnaa
open Go Go.RowKit
theorem wo_four {x:Nat} (hx:x<WW): ∃a b c d:UInt64,wo x=.agg #[.int .u64 (a.toNat:Int),.int .u64 (b.toNat:Int),.int .u64 (c.toNat:Int),.int .u64 (d.toNat:Int)]∧v64 [a,b,c,d]=x:=by
 obtain⟨a,b,c,d,h⟩:=four (length_wl x)
 have hv:=v64_wl_lt hx
 rw [h]at hv
 exact⟨a,b,c,d,by rw [wo,h];rfl,hv⟩
end Go.Proofs.Ytljacjjeinmfnaa
/- Layer 14: items of texts, numbers, lists and their forms; the last bytes of a hash. No condition. -/
namespace Go.Proofs.Ytljacjjeinmfnaa
open Go Go.RowKit
set_option maxRecDepth 100000
theorem Fn.overJ {P:Program} {f:FuncId} {args:Array Value} {Ns:List Heaplet} {Post:Value→List Heaplet→Prop} (h: ∀J,(∀N∈Ns,N.le J)→Fn P f args [] [J] Post):Fn P f args [] Ns Post:=
 fun E w R hw hr=>h R hr E w R hw fun N hN=>by rw [List.mem_singleton.1 hN];exact Heaplet.le_refl _
theorem Fn.liftB {P:Program} {f:FuncId} {args:Array Value} {L0:List Heaplet} {N R:Heaplet} {Post:Value→List Heaplet→Prop} (h:Fn P f args L0 [N] Post) (hl:N.le R):Fn P f args L0 [R] Post:=fun E w F hp hr=>
 h E w F hp fun M hM=>by rw [List.mem_singleton.1 hM];exact Heaplet.le_trans hl (hr R (by simp))
theorem all8x2 (l:List UInt8):(u8s l).all (·.oneCell')=true:=List.all_eq_true.2 (one_u8s l)
def itS (b:List UInt8):It:=.mk false b []
def itL (l:List It):It:=.mk true [] l
/-- The cells of an item of bytes, of a list. -/
def ivS (a:Option Addr) (n c:Nat):IV:=⟨false,a,n,c,none,0,0⟩
def ivL (a:Option Addr) (n c:Nat):IV:=⟨true,none,0,0,a,n,c⟩
section
variable {J N : Heaplet} {a : Option Addr} {n c : Nat}
theorem ItN_S {b:List UInt8} (h:RSl J 1 a n c (u8s b)):ItN J (itS b) (ivS a n c):=by
 simp only [itS,ItN]
 exact⟨rfl,h,[],RSl.nil J 3,rfl⟩
theorem ItN_L {its:List It} {xs:List IV} (h:RSl J 3 a n c (cellsI xs)) (hx:ItsN J its xs):ItN J (itL its) (ivL a n c):=by
 simp only [itL,ItN]
 exact⟨rfl,RSl.nil J 1,xs,h,hx⟩
theorem ItsN_nil:ItsN J [] []:=rfl
theorem ItsN_cons {t:It} {ts:List It} {x:IV} {xs:List IV} (h:ItN J t x) (k:ItsN J ts xs):ItsN J (t::ts) (x::xs):=⟨x,xs,rfl,h,k⟩
theorem FText_b:Fn Try.prog 37 #[.slice a n c] [] [] (fun v L=>v=.agg #[.bool false,.slice a n c,.slice none 0 0]∧L= []):=by
 refine Fn.enter (vs:= [.slice a n c]) Try.func37 rfl rfl rfl ?_
 intro E R hR
 change At _ _ E [R] _
 refine At.seq fun _ s_1=>At.region (aU (aV rfl) ze92 rfl (fun N2 b2 B2=>?_))
 change Blk N2 b2 _ [.bool false,.slice none 0 0,.slice none 0 0]at B2
 refine aA (aB (s_1 (At.seq fun _ s_2=>At.region (aD (aC rfl) rfl rfl (op_build (out:= [.bool false,_,.slice none 0 0]) (aC rfl) ze92 pl92 (.cons rfl .nil) rfl rfl (aG (nxl rfl) sz92 rfl rfl rfl rfl rfl B2 (by simp) sel0 (fun N2 B2=>?_)))))))
 simp only [setL,List.set]at B2
 refine aA (aB (s_2 (At.ret ((aZ (L1:= []) rfl (.cell rfl (bH (ds:= [_,_,_]) ag92 B2 rfl rfl aN) .nil) (.cons _ (.refl _)) (.refl _) ?_)))))
 exact⟨rfl,rfl⟩
theorem FList_b:Fn Try.prog 36 #[.slice a n c] [] [] (fun v L=>v=.agg #[.bool true,.slice none 0 0,.slice a n c]∧L= []):=by
 refine Fn.enter (vs:= [.slice a n c]) Try.func36 rfl rfl rfl ?_
 intro E R hR
 change At _ _ E [R] _
 refine At.seq fun _ s_1=>At.region (aU (aV rfl) ze92 rfl (fun N2 b2 B2=>?_))
 change Blk N2 b2 _ [.bool false,.slice none 0 0,.slice none 0 0]at B2
 refine aA (aB (s_1 (At.seq fun _ s_2=>At.region (aD (aC rfl) rfl rfl (op_build (out:= [_,.slice none 0 0,_]) (aC rfl) ze92 pl92 (.cons rfl (.cons rfl .nil)) rfl rfl (aG (nxl rfl) sz92 rfl rfl rfl rfl rfl B2 (by simp) sel0 (fun N2 B2=>?_)))))))
 simp only [setL,List.set]at B2
 refine aA (aB (s_2 (At.ret ((aZ (L1:= []) rfl (.cell rfl (bH (ds:= [_,_,_]) ag92 B2 rfl rfl aN) .nil) (.cons _ (.refl _)) (.refl _) ?_)))))
 exact⟨rfl,rfl⟩
/-- An item of a number, in new memory. -/
def NumI (x:Nat) (v:Value) (L:List Heaplet):Prop:= ∃M p k,v=.agg #[.bool false,.slice p (bytesOf x).length k,.slice none 0 0]∧L= [M]∧RSl M 1 p (bytesOf x).length k (u8s (bytesOf x))
theorem FOf_b {x:Nat} (hx:x<WW):Fn Try.prog 59 #[wo x] [] [] (NumI x):=by
 obtain⟨a,b,c,d,e,hv⟩:=wo_four hx
 have:=Of_f a b c d
 rw [←e]at this
 refine this.mono fun v L h=>?_
 unfold OfP at h
 rw [hv]at h
 obtain⟨M,p,k,h1,h2,h3⟩:=h
 exact⟨M,p,k,h1,h2,h3.rsl⟩
theorem u64_ww (u:UInt64):u.toNat<WW:=Nat.lt_of_lt_of_le u.toNat_lt (by decide)
theorem FNumber_b (u:UInt64):Fn Try.prog 38 #[.int .u64 (u.toNat:Int)] [] [] (NumI u.toNat):=by
 refine Fn.enter (vs:= [.int .u64 (u.toNat:Int)]) Try.func38 rfl rfl rfl ?_
 intro E R hR
 change At _ _ E [R] _
 refine At.seq fun _ s_1=>At.region (aU (aV rfl) ze92 rfl (fun N2 b2 B2=>?_))
 change Blk N2 b2 _ [.bool false,.slice none 0 0,.slice none 0 0]at B2
 refine aA (aB (s_1 (At.seq fun _ s_2=>At.region (aD (aC rfl) rfl rfl (aR (aV rfl) (.cons rfl .nil) (WOf_f u) Try.func87 rfl rfl (by simp) rfl ?_)))))
 rintro v4 L4 ⟨rfl,rfl⟩
 change At _ _ _ [N2,R] _
 refine aR (aV rfl) (.cons rfl .nil) (FOf_b (u64_ww u)) Try.func59 rfl rfl (by simp) rfl ?_
 rintro v5 L5 ⟨M5,p5,k5,rfl,rfl,s5⟩
 change At _ _ _ [M5,N2,R] _
 refine aG (nxl rfl) sz92 rfl rfl rfl rfl rfl B2 (by simp) bZ (fun N2 B2=>?_)
 simp only [setL,List.set]at B2
 refine aA (aB (s_2 (At.ret ((aZ (L1:= [M5]) rfl (.cell rfl (bH (ds:= [_,_,_]) ag92 B2 rfl rfl aN) .nil) (.cons _ (.refl _)) (.refl _) ?_)))))
 exact⟨M5,p5,k5,rfl,rfl,s5⟩
/-- An item of bytes that are copied. -/
def StrI (b:List UInt8) (v:Value) (L:List Heaplet):Prop:= ∃M p k,v=.agg #[.bool false,.slice p b.length k,.slice none 0 0]∧L= [M]∧RSl M 1 p b.length k (u8s b)
/-- The form, in new memory. -/
def FormP (t:It) (v:Value) (L:List Heaplet):Prop:= ∃M p k,v=.slice p t.form.length k∧L= [M]∧Row M 5 1 p t.form.length k (u8s t.form)
def IV.val (x:IV):Value:=.agg #[.bool x.l,.slice x.ab x.nb x.cb,.slice x.ai x.ni x.ci]
theorem FForm_b {t:It} {x:IV} (h:ItN N t x) (hlen:t.form.length≤1099511627776) (hd:t.depth≤1024):Fn Try.prog 35 #[.agg #[.bool x.l,.slice x.ab x.nb x.cb,.slice x.ai x.ni x.ci]] [] [N] (FormP t):=by
 have hE:Fn Try.prog 86 #[.agg #[.bool x.l,.slice x.ab x.nb x.cb,.slice x.ai x.ni x.ci]] [] [N] (fun v L=> ∃M p k,v=.tuple #[.slice p t.form.length k,.int .i64 0]∧L= [M]∧Row M 5 1 p t.form.length k (u8s t.form)):=
  (Encode_f h hlen).mono fun v L hp=>by
   rcases hp with ⟨M,p,k,h1,h2,h3,_⟩|⟨_,_,h3⟩
   ·exact⟨M,p,k,h1,h2,h3⟩
   ·omega
 refine Fn.enter (vs:= [.agg #[.bool x.l,.slice x.ab x.nb x.cb,.slice x.ai x.ni x.ci]]) Try.func35 rfl rfl rfl ?_
 intro E R hR
 have hE:=hE.liftB (hR N (by simp))
 change At _ _ E [R] _
 refine At.seq fun _ s_1=>At.region (op_box (aV rfl) rfl rfl rfl (fun N1 b1 B1=>aE (aC rfl) rfl rfl (aA (aB (s_1 (At.seq fun _ s_2=>At.region (aL (ds:= [_,_,_]) (aC rfl) ag92 rfl B1 rfl rfl aN rfl (aR (aV rfl) (.cons rfl .nil) (hE) Try.func86 rfl rfl (by simp) rfl ?_))))))))
 rintro v7 L7 ⟨M7,p7,k7,rfl,rfl,r7⟩
 change At _ _ _ [M7,N1,R] _
 refine aD (aC rfl) rfl rfl (aM (aC rfl) rfl rfl rfl (aM (aC rfl) rfl rfl rfl (aE (aC rfl) rfl rfl (aE (aC rfl) rfl rfl (aA (aB (s_2 (At.seq fun _ s_3=>At.region (aD (aC rfl) rfl rfl (aE (aC rfl) rfl rfl (aA (aB (s_3 (At.ret ((At.sub (L':= [M7,R]) (.cons_cons _ (.cons _ (.cons_cons _ (.slnil)))) (aZ (L1:= [M7]) rfl (.tmp rfl .nil) (.refl _) (.refl _) ?_)))))))))))))))))
 exact⟨M7,p7,k7,rfl,rfl,r7⟩
/-- The address that a hash ends with. -/
def lastA (l:List UInt8):List UInt8:=(kec l).drop 12
theorem lastA_len (l:List UInt8):(lastA l).length=20:=by rw [lastA,List.length_drop,kec_len]
theorem u8s_part {l m:List UInt8} {o k:Nat} (h:(l.drop o).take k=m):((u8s l).drop o).take k=u8s m:=by rw [←h,u8s,u8s,List.map_take,List.map_drop]
theorem FLast_b {l:List UInt8} (h:RSl N 1 a n c (u8s l)) (hn:n≤1099511627776):Fn Try.prog 34 #[.slice a n c] [] [N] (fun v L=>v=.agg (u8s (lastA l)).toArray∧L= []):=by
 have hk:=kec_len l
 have hll:=lastA_len l
 refine Fn.enter (vs:= [.slice a n c]) Try.func34 rfl rfl rfl ?_
 intro E R hR
 have h:=h.le (hR N (by simp))
 change At _ _ E [R] _
 refine At.seq fun _ s_1=>At.region (aU (aV rfl) ze23 rfl (fun N2 b2 B2=>?_))
 change Blk N2 b2 _ [.int .u8 0,.int .u8 0,.int .u8 0,.int .u8 0,.int .u8 0,.int .u8 0,.int .u8 0,.int .u8 0,.int .u8 0,.int .u8 0,.int .u8 0,.int .u8 0,.int .u8 0,.int .u8 0,.int .u8 0,.int .u8 0,.int .u8 0,.int .u8 0,.int .u8 0,.int .u8 0]at B2
 refine aA (aB (s_1 (At.seq fun _ s_2=>At.region (aD (aC rfl) rfl rfl (aR (aV rfl) (.cons rfl .nil) (FKeccak_f h hn) Try.func45 rfl rfl (by simp) rfl ?_)))))
 rintro v5 L5 ⟨rfl,rfl⟩
 change At _ _ _ [N2,R] _
 refine aU (aV rfl) ze39 rfl (fun N3 b3 B3=>?_)
 change Blk N3 b3 _ [.int .u8 0,.int .u8 0,.int .u8 0,.int .u8 0,.int .u8 0,.int .u8 0,.int .u8 0,.int .u8 0,.int .u8 0,.int .u8 0,.int .u8 0,.int .u8 0,.int .u8 0,.int .u8 0,.int .u8 0,.int .u8 0,.int .u8 0,.int .u8 0,.int .u8 0,.int .u8 0,.int .u8 0,.int .u8 0,.int .u8 0,.int .u8 0,.int .u8 0,.int .u8 0,.int .u8 0,.int .u8 0,.int .u8 0,.int .u8 0,.int .u8 0,.int .u8 0]at B3
 refine aG (nxl rfl) sz39 rfl rfl rfl (by simp [u8s,hk]) (all8x2 _) B3 (by simp [u8s,hk]) sel0 (fun N3 B3=>?_)
 rw [bD (by simp [u8s,hk])]at B3
 refine aA (aB (s_2 (At.seq fun _ s_3=>At.region (op_sliceA (aC rfl) ae39 rfl (.some rfl (show _=(((12:Nat)):Int)from by omega)) .none .none (by omega) (by omega) (by omega) (by simp) rfl ?_))))
 rw [if_neg (by decide)]
 refine op_toArr (aC rfl) ae23 rfl (by omega) rfl ?_
 refine aL (ds:=u8s (lastA l)) (aC rfl) ag23 rfl B3 (by exact u8s_part (by rw [lastA,List.take_of_length_le (by rw [List.length_drop];omega)])) (by simp [u8s,hll]) aN rfl ?_
 refine aG (nxl rfl) sz23 rfl rfl rfl (by simp [u8s,hll]) (all8x2 _) B2 (by simp [u8s,hll]) bZ (fun N2 B2=>?_)
 rw [bD (by simp [u8s,hll])]at B2
 refine aA (aB (s_3 (At.ret ((At.sub (L':= [N2,R]) (.cons_cons _ (.cons _ (.cons_cons _ (.slnil)))) (aZ (L1:= []) rfl (.cell rfl (bH (ds:=u8s (lastA l)) ag23 B2 (tk_all (by simp [u8s,hll])) (by simp [u8s,hll]) aN) .nil) (.cons _ (.refl _)) (.refl _) ?_))))))
 exact⟨rfl,rfl⟩
end
end Go.Proofs.Ytljacjjeinmfnaa
/- Layer 14: the addresses of contracts, in the program and in the reference. No condition. -/
namespace Go.Proofs.Ytljacjjeinmfnaa
open Go Go.RowKit
set_option maxRecDepth 100000
theorem formS_len (b:List UInt8) (h:b.length≤4294967296):(itS b).form.length≤b.length+9:=by
 have:=rlpHead_le 128 b.length (Nat.lt_of_le_of_lt h (by decide))
 rw [itS,form_false]
 split
 ·omega
 ·rw [List.length_append];omega
theorem formL_len (l:List It) (h:(It.forms l).length≤4294967296):(itL l).form.length≤(It.forms l).length+9:=by
 have:=rlpHead_le 192 (It.forms l).length (Nat.lt_of_le_of_lt h (by decide))
 rw [itL,form_true,List.length_append];omega
theorem forms_nil:It.forms []= []:=by simp [It.forms]
theorem forms_cons (t:It) (l:List It):It.forms (t::l)=t.form++It.forms l:=by simp [It.forms]
theorem depthS (b:List UInt8):(itS b).depth=0:=by simp [itS,It.depth]
theorem depthL (l:List It):(itL l).depth=It.depths l+1:=by simp [itL,It.depth]
theorem depths_nil:It.depths []=0:=by simp [It.depths]
theorem depths_cons (t:It) (l:List It):It.depths (t::l)=max t.depth (It.depths l):=by simp [It.depths]
theorem bytes8 (n:UInt64):(bytesOf n.toNat).length≤8:=byteLen8 n.toNat_lt
def mkT (a:List UInt8) (n:Nat):It:=itL [itS a,itS (bytesOf n)]
theorem mkT_len {a:List UInt8} (ha:a.length=20) (n:UInt64):(mkT a n.toNat).form.length≤100:=by
 have h1:=formS_len a (by omega)
 have h2:=formS_len (bytesOf n.toNat) (by have:=bytes8 n;omega)
 have h3:=bytes8 n
 have h4:(It.forms [itS a,itS (bytesOf n.toNat)]).length≤60:=by
  rw [forms_cons,forms_cons,forms_nil,List.length_append,List.length_append,List.length_nil];omega
 have:=formL_len [itS a,itS (bytesOf n.toNat)] (by omega)
 unfold mkT;omega
theorem mkT_dep (a:List UInt8) (n:Nat):(mkT a n).depth≤1024:=by
 rw [mkT,depthL,depths_cons,depths_cons,depths_nil,depthS,depthS];decide
/-- A contract's address by its maker's nonce; by a salt. -/
def madeA (a:List UInt8) (n:Nat):List UInt8:=lastA (mkT a n).form
def saltA (a:List UInt8) (x:Nat) (code:List UInt8):List UInt8:=lastA (255::(a++bytesN 32 x++kec code))
section
variable {N : Heaplet} {ao : Option Addr} {n cap : Nat} {a l : List UInt8}
theorem FMade_b (ha:a.length=20) (n:UInt64):Fn Try.prog 9 #[.agg (u8s a).toArray,.int .u64 (n.toNat:Int)] [] [] (fun v L=>v=.agg (u8s (madeA a n.toNat)).toArray∧L= []):=by
 have hm:=mkT_len ha n
 have hd:=mkT_dep a n.toNat
 have hll:=lastA_len (mkT a n.toNat).form
 refine Fn.enter (vs:= [.agg (u8s a).toArray,.int .u64 (n.toNat:Int)]) Try.func9 rfl rfl rfl ?_
 intro E R hR
 change At _ _ E [R] _
 refine At.seq fun _ s_1=>At.region (op_box (aV rfl) rfl rfl rfl (fun N2 b2 B2=>?_))
 have s2:=blk8 B2 ha (by decide)
 refine aU (aV rfl) ze23 rfl (fun N4 b4 B4=>?_)
 change Blk N4 b4 _ [.int .u8 0,.int .u8 0,.int .u8 0,.int .u8 0,.int .u8 0,.int .u8 0,.int .u8 0,.int .u8 0,.int .u8 0,.int .u8 0,.int .u8 0,.int .u8 0,.int .u8 0,.int .u8 0,.int .u8 0,.int .u8 0,.int .u8 0,.int .u8 0,.int .u8 0,.int .u8 0]at B4
 refine aA (aB (s_1 (At.seq fun _ s_2=>At.region (op_sliceA (aC rfl) ae23 rfl .none .none .none (by omega) (by omega) (by omega) (by simp) rfl (aR (aV rfl) (.cons rfl .nil) (FText_b) Try.func37 rfl rfl (by simp) rfl ?_)))))
 rintro v6 L6 ⟨rfl,rfl⟩
 change At _ _ _ [N4,N2,R] _
 refine aD (aC rfl) rfl rfl (aR (aV rfl) (.cons rfl .nil) (FNumber_b n) Try.func38 rfl rfl (by simp) rfl ?_)
 rintro v8 L8 ⟨M8,p8,k8,rfl,rfl,s8⟩
 change At _ _ _ [M8,N4,N2,R] _
 refine op_lit (aV rfl) Try.underlying90 ze92 sz92 (.cons rfl (.cons rfl .nil)) rfl rfl (by simp [Value.cells]) rfl rfl rfl (fun N9 a9 r9=>?_)
 simp only [flatV,List.flatMap_cons,List.flatMap_nil,Value.cells,List.append_nil,List.cons_append,List.nil_append]at r9
 have s9:=r9.rsl
 refine aR (aV rfl) (.cons rfl .nil) (FList_b) Try.func36 rfl rfl (by simp) rfl ?_
 rintro v10 L10 ⟨rfl,rfl⟩
 change At _ _ _ [N9,M8,N4,N2,R] _
 refine aR (aV rfl) (.cons rfl .nil) (Fn.overJ (Ns:= [N9,M8,N2]) fun J hJ=>FForm_b (t:=mkT a n.toNat) (x:=ivL a9 2 2) (ItN_L (xs:= [ivS _ _ _,ivS _ _ _]) (s9.le (hJ _ (by simp))) (ItsN_cons (ItN_S (s2.le (hJ _ (by simp)))) (ItsN_cons (ItN_S (s8.le (hJ _ (by simp)))) ItsN_nil))) (by omega) hd) Try.func35 rfl rfl (by simp) rfl ?_
 rintro v11 L11 ⟨N11,a11,k11,rfl,rfl,r11⟩
 change At _ _ _ [N11,N9,M8,N4,N2,R] _
 refine aR (aV rfl) (.cons rfl .nil) (FLast_b r11.rsl (by omega)) Try.func34 rfl rfl (by simp) rfl ?_
 rintro v12 L12 ⟨rfl,rfl⟩
 change At _ _ _ [N11,N9,M8,N4,N2,R] _
 refine aG (nxl rfl) sz23 rfl rfl rfl (by simp [u8s,hll]) (all8x2 _) B4 (by simp [u8s,hll]) aW (fun N4 B4=>?_)
 rw [bD (by simp [u8s,hll])]at B4
 refine aA (aB (s_2 (At.ret ((At.sub (L':= [N4,R]) (.cons_cons _ (.cons _ (.cons _ (.cons _ (.cons _ (.cons_cons _ (.slnil))))))) (aZ (L1:= []) rfl (.cell rfl (bH (ds:=u8s (madeA a n.toNat)) ag23 B4 (tk_all (by simp [u8s,madeA,hll])) (by simp [u8s,madeA,hll]) aN) .nil) (.cons _ (.refl _)) (.refl _) ?_))))))
 exact⟨rfl,rfl⟩
theorem u8s_app (a b:List UInt8):u8s (a++b)=u8s a++u8s b:=by simp [u8s]
/-- The first so many bytes of the last of a hash, zeros behind. -/
def fillA (h:List UInt8) (i:Nat):List UInt8:=(h.drop 12).take i++List.replicate (20- i) 0
end
end Go.Proofs.Ytljacjjeinmfnaa
