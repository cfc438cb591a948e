/- Several texts in one: see the remarks ahead of each part. No condition but those told there. -/
import Derived.Test.YtdpjbefeabokgaaGreatU9
import Derived.Test.YtdpjbefeabokgaaGreatU6
import Derived.Test.YtdpjbefeabokgaaGreatU5
import Derived.Test.YtdpjbefeabokgaaGreatU7
import Derived.Test.YtdpjbefeabokgaaGreatU3
import Derived.ArgAppend
import Derived.Test.YtdpjbefeabokgaaGreatU4
import Derived.Laws.OwnMore
set_option linter.unusedSimpArgs false
set_option linter.unusedVariables false
/- Plain laws on numbers in digits of 32 bits that are reckoned in words of 64 bits. No condition. -/
namespace Go.Proofs.YtdpjbefeabokgaaGreat
open Go Go.RowKit
/-- The lower half of a limb. -/
def lo32 (s:UInt64):UInt32:=UInt32.ofNat s.toNat
/-- Digits in new memory: a number without zeros at its upper end. -/
def DigsP (V:Nat) (v:Value) (L:List Heaplet):Prop:=
 ∃M a c,v=.slice a (digsOf V).length c∧L= [M]∧RSl M 1 a (digsOf V).length c (u32s (digsOf V))
end Go.Proofs.YtdpjbefeabokgaaGreat
/- The reference's Add, Sub, Mul: numbers in digits of 32 bits. Condition: numbers of at most 2^40 digits; for Sub: the second is no greater. -/
namespace Go.Proofs.YtdpjbefeabokgaaGreat
open Go Go.RowKit
end Go.Proofs.YtdpjbefeabokgaaGreat
/- The reference's Shl, Shr, Bit, Len, Fill. Condition: numbers of at most 2^40 digits, shifts of at most 2^40 places. -/
namespace Go.Proofs.YtdpjbefeabokgaaGreat
open Go Go.RowKit
end Go.Proofs.YtdpjbefeabokgaaGreat
/- The reference's less and back: the parts of a division. Condition: numbers of at most 2^40 digits. -/
namespace Go.Proofs.YtdpjbefeabokgaaGreat
open Go Go.RowKit
def LessP (co:Option Addr) (nc cc:Nat) (pre u v post:List UInt32) (q:Nat) (r:Value) (L:List Heaplet):Prop:=
 ∃M x, ∃bw:Nat,r=.bool (decide (bw=1))∧L= [M]∧Row M 157 1 co nc cc (u32s (pre++x++post))∧x.length=u.length∧bw≤1∧v32 x+q*v32 v=v32 u+bw*2^(32*u.length)
def BackP (co:Option Addr) (nc cc:Nat) (pre u v post:List UInt32) (r:Value) (L:List Heaplet):Prop:=
 ∃M x, ∃c:Nat,r=.tuple #[]∧L= [M]∧Row M 157 1 co nc cc (u32s (pre++x++post))∧x.length=u.length∧c≤1∧v32 x+c*2^(32*u.length)=v32 u+v32 v∧((u.getD v.length 0).toNat≤(x.getD v.length 0).toNat↔c=0)
end Go.Proofs.YtdpjbefeabokgaaGreat
/- The reference's DivMod. Condition: numbers of at most some 2^40 digits; the divisor is not 0. -/
namespace Go.Proofs.YtdpjbefeabokgaaGreat
open Go Go.RowKit
/-- Two numbers in digits, in new memory. -/
def DigsP2 (A B:Nat) (v:Value) (L:List Heaplet):Prop:=
 ∃M1 a1 c1 M2 a2 c2,v=.tuple #[.slice a1 (digsOf A).length c1,.slice a2 (digsOf B).length c2]∧L= [M1,M2]∧RSl M1 1 a1 (digsOf A).length c1 (u32s (digsOf A))∧RSl M2 1 a2 (digsOf B).length c2 (u32s (digsOf B))
end Go.Proofs.YtdpjbefeabokgaaGreat
/- The reference's DivMod, Mod, ModExp in full. Condition: numbers of at most some 2^40 digits; the divisor is not 0. -/
namespace Go.Proofs.YtdpjbefeabokgaaGreat
open Go Go.RowKit
theorem Hp.empty {E w:World} {L:List Heaplet} (h:Hp E L w):Hp E (nilH::L) w:=
 ⟨h.os,h.tape,h.output,fun N hN=>by
  rcases List.mem_cons.1 hN with rfl|hN
  ·intro k o hk;cases hk
  ·exact h.sub N hN,List.pairwise_cons.2 ⟨fun N _ k=>.inl rfl,h.sep⟩⟩
/-- A quotient in new memory, and a rest that may be what was divided. -/
def DivR (N:Heaplet) (A B:Nat) (v:Value) (L:List Heaplet):Prop:=
 ∃Mq aq cq Mr ar cr,v=.tuple #[.slice aq (digsOf A).length cq,.slice ar (digsOf B).length cr]∧L= [Mq,Mr]∧RSl Mq 1 aq (digsOf A).length cq (u32s (digsOf A))∧(RSl Mr 1 ar (digsOf B).length cr (u32s (digsOf B))∨RSl N 1 ar (digsOf B).length cr (u32s (digsOf B)))
def ModR (N:Heaplet) (V:Nat) (v:Value) (L:List Heaplet):Prop:=
 ∃Q p c,v=.slice p (digsOf V).length c∧L= [Q]∧(RSl Q 1 p (digsOf V).length c (u32s (digsOf V))∨RSl N 1 p (digsOf V).length c (u32s (digsOf V)))
section
variable {N M : Heaplet} {ax bx : Option Addr} {na nb ca cb A B : Nat}
end
section
variable {N M Nm : Heaplet} {bx ex mx : Option Addr} {nb ne nm cb ce cm B E' Mv : Nat}
end
end Go.Proofs.YtdpjbefeabokgaaGreat
/- The reference's words: sums, products, quotients, with signs and without. No condition. -/
namespace Go.Proofs.YtdpjbefeabokgaaGreat
open Go Go.RowKit
end Go.Proofs.YtdpjbefeabokgaaGreat
/- The reference's words: quotients, with signs and without. No condition. -/
namespace Go.Proofs.YtdpjbefeabokgaaGreat
open Go Go.RowKit
end Go.Proofs.YtdpjbefeabokgaaGreat
/- The reference's words: in and out, orders. No condition. -/
namespace Go.Proofs.YtdpjbefeabokgaaGreat
open Go Go.RowKit
end Go.Proofs.YtdpjbefeabokgaaGreat
/- Layer 14: items of texts, numbers, lists and their forms; the last bytes of a hash. No condition. -/
namespace Go.Proofs.YtdpjbefeabokgaaGreat
open Go Go.RowKit
set_option maxRecDepth 100000
theorem Fn.overJ {P:Program} {f:FuncId} {args:Array Value} {Ns:List Heaplet} {Post:Value→List Heaplet→Prop} (h: ∀J,(∀N∈Ns,N.le J)→Fn P f args [] [J] Post):Fn P f args [] Ns Post:=
 fun E w R hw hr=>h R hr E w R hw fun N hN=>by rw [List.mem_singleton.1 hN];exact Heaplet.le_refl _
theorem Fn.liftB {P:Program} {f:FuncId} {args:Array Value} {L0:List Heaplet} {N R:Heaplet} {Post:Value→List Heaplet→Prop} (h:Fn P f args L0 [N] Post) (hl:N.le R):Fn P f args L0 [R] Post:=fun E w F hp hr=>
 h E w F hp fun M hM=>by rw [List.mem_singleton.1 hM];exact Heaplet.le_trans hl (hr R (by simp))
theorem all8x2 (l:List UInt8):(u8s l).all (·.oneCell')=true:=List.all_eq_true.2 (one_u8s l)
def itS (b:List UInt8):It:=.mk false b []
def itL (l:List It):It:=.mk true [] l
/-- The cells of an item of bytes, of a list. -/
def ivS (a:Option Addr) (n c:Nat):IV:=⟨false,a,n,c,none,0,0⟩
def ivL (a:Option Addr) (n c:Nat):IV:=⟨true,none,0,0,a,n,c⟩
section
variable {J N : Heaplet} {a : Option Addr} {n c : Nat}
theorem ItN_S {b:List UInt8} (h:RSl J 1 a n c (u8s b)):ItN J (itS b) (ivS a n c):=by
 simp only [itS,ItN]
 exact⟨rfl,h,[],RSl.nil J 3,rfl⟩
theorem ItN_L {its:List It} {xs:List IV} (h:RSl J 3 a n c (cellsI xs)) (hx:ItsN J its xs):ItN J (itL its) (ivL a n c):=by
 simp only [itL,ItN]
 exact⟨rfl,RSl.nil J 1,xs,h,hx⟩
theorem ItsN_nil:ItsN J [] []:=rfl
theorem ItsN_cons {t:It} {ts:List It} {x:IV} {xs:List IV} (h:ItN J t x) (k:ItsN J ts xs):ItsN J (t::ts) (x::xs):=⟨x,xs,rfl,h,k⟩
theorem rList_b:Fn Tryz.prog 70 #[.slice a n c] [] [] (fun v L=>v=.agg #[.bool true,.slice none 0 0,.slice a n c]∧L= []):=by
 refine Fn.enter (vs:= [.slice a n c]) Tryz.func70 rfl rfl rfl ?_
 intro E R hR
 change At _ _ E [R] _
 refine At.seq fun _ s_1=>At.region (bO (bA rfl) ze68 rfl (fun N2 b2 B2=>?_))
 change Blk N2 b2 _ [.bool false,.slice none 0 0,.slice none 0 0]at B2
 refine aA (aB (s_1 (At.seq fun _ s_2=>At.region (aC (aD rfl) rfl rfl (op_build (out:= [_,.slice none 0 0,_]) (aD rfl) ze68 pl68 (.cons rfl (.cons rfl .nil)) rfl rfl (aO (nxl rfl) sz68 rfl rfl rfl rfl rfl B2 (by simp) sel0 (fun N2 B2=>?_)))))))
 simp only [setL,List.set]at B2
 refine aA (aB (s_2 (At.ret ((aW (L1:= []) rfl (.cell rfl (res_agg (ds:= [_,_,_]) ag68 B2 rfl rfl aL) .nil) (.cons _ (.refl _)) (.refl _) ?_)))))
 exact⟨rfl,rfl⟩
/-- An item of a number, in new memory. -/
def NumI (x:Nat) (v:Value) (L:List Heaplet):Prop:= ∃M p k,v=.agg #[.bool false,.slice p (bytesOf x).length k,.slice none 0 0]∧L= [M]∧RSl M 1 p (bytesOf x).length k (u8s (bytesOf x))
/-- An item of bytes that are copied. -/
def StrI (b:List UInt8) (v:Value) (L:List Heaplet):Prop:= ∃M p k,v=.agg #[.bool false,.slice p b.length k,.slice none 0 0]∧L= [M]∧RSl M 1 p b.length k (u8s b)
theorem rStr_b {b:List UInt8} (h:RSl N 1 a n c (u8s b)) (hn:n≤1099511627776):Fn Tryz.prog 71 #[.slice a n c] [] [N] (StrI b):=by
 have hlen:=h.len8
 refine Fn.enter (vs:= [.slice a n c]) Tryz.func71 rfl rfl rfl ?_
 intro E R hR
 have h:=h.le (hR N (by simp))
 change At _ _ E [R] _
 refine At.seq fun _ s_1=>At.region (bO (bA rfl) ze68 rfl (fun N2 b2 B2=>?_))
 change Blk N2 b2 _ [.bool false,.slice none 0 0,.slice none 0 0]at B2
 refine aA (aB (s_1 (At.seq fun _ s_2=>At.region (op_lit (bA rfl) Tryz.underlying23 ze5 sz5 .nil rfl rfl (by simp [Value.cells]) rfl rfl rfl (fun N3 a3 r3=>?_)))))
 simp only [flatV,List.flatMap_cons,List.flatMap_nil,Value.cells,List.append_nil,List.cons_append,List.nil_append]at r3
 have s3:=r3.rsl
 refine aC (aD rfl) rfl rfl ?_
 refine bE (nxl rfl) Tryz.underlying23 Tryz.underlying23 te5 rfl rfl r3 h (by first|exact aL|exact aZ|exact bB|exact bF|exact bG|exact bH|exact bL|exact bK|exact bJ|exact bM) (by first|exact one_u8s _|exact one_u64s _|exact one_u32s _|(intro u hu;simp at hu;subst hu;rfl)) (by omega) (by omega) sel0 rfl (fun N5 a5 p5 r5=>?_)
 have s5:=r5.rsl
 rw [Nat.zero_add]at s5
 refine op_build (out:= [.bool false,_,.slice none 0 0]) (aD rfl) ze68 pl68 (.cons rfl .nil) rfl rfl (aO (nxl rfl) sz68 rfl rfl rfl rfl rfl B2 (by simp) sel1 (fun N2 B2=>?_))
 simp only [setL,List.set]at B2
 refine aA (aB (s_2 (At.ret ((aW (L1:= [N5]) rfl (.cell rfl (res_agg (ds:= [_,_,_]) ag68 B2 rfl rfl aL) .nil) (.cons _ (.refl _)) (.refl _) ?_)))))
 exact⟨N5,a5,p5,by rw [hlen,Nat.zero_add],rfl,by rw [hlen];exact s5⟩
/-- The form, in new memory. -/
def FormP (t:It) (v:Value) (L:List Heaplet):Prop:= ∃M p k,v=.slice p t.form.length k∧L= [M]∧Row M 5 1 p t.form.length k (u8s t.form)
def IV.val (x:IV):Value:=.agg #[.bool x.l,.slice x.ab x.nb x.cb,.slice x.ai x.ni x.ci]
theorem rForm_b {t:It} {x:IV} (h:ItN N t x) (hlen:t.form.length≤1099511627776):Fn Tryz.prog 35 #[.agg #[.bool x.l,.slice x.ab x.nb x.cb,.slice x.ai x.ni x.ci]] [] [N] (FormP t):=by
 have hE:=form_f t N x h hlen
 refine Fn.enter (vs:= [.agg #[.bool x.l,.slice x.ab x.nb x.cb,.slice x.ai x.ni x.ci]]) Tryz.func35 rfl rfl rfl ?_
 intro E R hR
 have hE:=hE.liftB (hR N (by simp))
 change At _ _ E [R] _
 refine At.seq fun _ s_1=>At.region (op_box (bA rfl) rfl rfl rfl (fun N1 b1 B1=>aE (aD rfl) rfl rfl (aA (aB (s_1 (At.seq fun _ s_2=>At.region (op_loadAggB (ds:= [_,_,_]) (aD rfl) ag68 rfl B1 rfl rfl aL rfl (aJ (bA rfl) (.cons rfl .nil) (hE) Tryz.func60 rfl rfl (by simp) rfl ?_))))))))
 rintro v4 L4 ⟨M4,p4,k4,rfl,rfl,r4⟩
 change At _ _ _ [M4,N1,R] _
 refine aE (aD rfl) rfl rfl (aA (aB (s_2 (At.ret ((At.sub (L':= [M4,R]) (.cons_cons _ (.cons _ (.cons_cons _ (.slnil)))) (aW (L1:= [M4]) rfl (.tmp rfl .nil) (.refl _) (.refl _) ?_)))))))
 exact⟨M4,p4,k4,rfl,rfl,r4⟩
/-- The address that a hash ends with. -/
def lastA (l:List UInt8):List UInt8:=(kec l).drop 12
end
end Go.Proofs.YtdpjbefeabokgaaGreat
/- Layer 12 in plain words: rows of nibbles, pairs, and their node; neither their order nor who counts what they share matters. No condition. -/
namespace Go.Proofs.YtdpjbefeabokgaaGreat
open Go Go.RowKit
/-- A key's nibbles. -/
def nibs (k:List UInt8):List UInt8:=k.flatMap fun c:UInt8=> [c>>>4,c&&&15]
abbrev PR:=List UInt8×List UInt8
/-- How many places two rows begin with alike. -/
def lcp:List UInt8→List UInt8→Nat
 |a::s,b::t=>if a=b then lcp s t+1 else 0
 |_,_=>0
theorem lcp_iff: ∀ {a b:List UInt8} {k:Nat},k≤lcp a b↔k≤a.length∧k≤b.length∧a.take k=b.take k
 | [],b,k=>by
  cases k with
  |zero=>simp
  |succ k=>simp [lcp]
 |x::a,[],k=>by
  cases k with
  |zero=>simp
  |succ k=>simp [lcp]
 |x::a,y::b,k=>by
  cases k with
  |zero=>simp
  |succ k=>
   have ih:=lcp_iff (a:=a) (b:=b) (k:=k)
   by_cases e:x=y
   ·subst e;simp only [lcp,if_true,Nat.add_le_add_iff_right,List.length_cons,List.take_succ_cons,List.cons.injEq,true_and,ih]
   ·simp [lcp,e]
theorem lcp_self (a:List UInt8):lcp a a=a.length:=Nat.le_antisymm (lcp_iff.1 (Nat.le_refl _)).1 (lcp_iff.2 ⟨Nat.le_refl _,Nat.le_refl _,rfl⟩)
theorem lcp_comm (a b:List UInt8):lcp a b=lcp b a:=
 Nat.le_antisymm (lcp_iff.2 (let ⟨x,y,z⟩:=lcp_iff.1 (Nat.le_refl (lcp a b));⟨y,x,z.symm⟩)) (lcp_iff.2 (let ⟨x,y,z⟩:=lcp_iff.1 (Nat.le_refl (lcp b a));⟨y,x,z.symm⟩))
/-- How many places all rows begin with alike. -/
def shar:List PR→Nat
 | []=>0
 |p::l=>l.foldl (fun n q=>min n (lcp p.1 q.1)) p.1.length
theorem foldl_min {p:List UInt8} : ∀(l:List PR) (m k:Nat),k≤l.foldl (fun n q=>min n (lcp p q.1)) m↔k≤m∧ ∀q∈l,k≤lcp p q.1
 | [],m,k=>by simp
 |x::l,m,k=>by
  rw [List.foldl_cons,foldl_min l]
  simp only [List.mem_cons,forall_eq_or_imp,Nat.le_min,and_assoc]
theorem shar_iff {l:List PR} {k:Nat} (hl:l≠ []):k≤shar l↔ ∀q∈l, ∀r∈l,k≤lcp q.1 r.1:=by
 cases l with
 |nil=>exact absurd rfl hl
 |cons p l=>
  rw [shar,foldl_min]
  constructor
  ·rintro⟨h1,h2⟩
   have h3: ∀q∈p::l,k≤lcp p.1 q.1:=fun q hq=>by
    rcases List.mem_cons.1 hq with rfl|hq
    ·rw [lcp_self];exact h1
    ·exact h2 q hq
   intro q hq r hr
   obtain⟨a1,a2,a3⟩:=lcp_iff.1 (h3 q hq)
   obtain⟨b1,b2,b3⟩:=lcp_iff.1 (h3 r hr)
   exact lcp_iff.2 ⟨a2,b2,a3.symm.trans b3⟩
  ·intro h
   refine⟨?_,fun q hq=>h p (List.mem_cons_self ..) q (List.mem_cons_of_mem _ hq)⟩
   have:=h p (List.mem_cons_self ..) p (List.mem_cons_self ..)
   rwa [lcp_self]at this
theorem shar_perm {l m:List PR} (h:l.Perm m):shar l=shar m:=by
 cases l with
 |nil=>rw [List.nil_perm.1 h]
 |cons p l=>
  have hm:m≠ []:=fun e=>by rw [e]at h;exact absurd h.length_eq (by simp)
  have hi: ∀k,k≤shar (p::l)↔k≤shar m:=fun k=>by
   rw [shar_iff (by simp),shar_iff hm]
   constructor
   ·intro x q hq r hr;exact x q (h.mem_iff.2 hq) r (h.mem_iff.2 hr)
   ·intro x q hq r hr;exact x q (h.mem_iff.1 hq) r (h.mem_iff.1 hr)
  exact Nat.le_antisymm ((hi _).1 (Nat.le_refl _)) ((hi _).2 (Nat.le_refl _))
/-- What the nibbles' pairs come to, two and two. -/
def packN:List UInt8→List UInt8
 |a::b::r=>(16*a+b)::packN r
 |_=> []
/-- Nibbles as bytes. -/
def cpt (l:List UInt8) (leaf:Bool):List UInt8:=if l.length % 2=1 then packN ((if leaf then 3 else 1)::l)else packN ((if leaf then 2 else 0)::0::l)
def cutR (n:Nat) (l:List PR):List PR:=l.map fun p=>(p.1.drop n,p.2)
def undR (c:UInt8) (l:List PR):List PR:=l.filter fun p=>p.1.head?==some c
/-- The value of the empty row. -/
def lastV (l:List PR):List UInt8:=(l.foldl (fun v p=>if p.1.length=0 then p.2 else v) [])
def linkI (x:It):It:=if x.form.length<32 then x else itS (kec x.form)
/-- The pairs' node: f bounds how deep. -/
def nodeF:Nat→List PR→It
 |0,_=>itS []
 |f+1,l=>match l with
  | []=>itS []
  | [p]=>itL [itS (cpt p.1 true),itS p.2]
  |p::q::r=>if 0<shar (p::q::r)then itL [itS (cpt (p.1.take (shar (p::q::r))) false),linkI (nodeF f (cutR (shar (p::q::r)) (p::q::r)))]
   else itL ((List.range 16).map (fun c=>linkI (nodeF f (cutR 1 (undR (UInt8.ofNat c) (p::q::r)))))++ [itS (lastV (p::q::r))])
theorem node_ext {f:Nat} {l:List PR} (h2:2≤l.length) (hs:0<shar l):nodeF (f+1) l=itL [itS (cpt ((l.headD ([],[])).1.take (shar l)) false),linkI (nodeF f (cutR (shar l) l))]:=by
 match l,h2 with
 |p::q::r,_=>rw [nodeF,if_pos hs,List.headD_cons]
theorem node_bra {f:Nat} {l:List PR} (h2:2≤l.length) (hs: ¬0<shar l):nodeF (f+1) l=itL ((List.range 16).map (fun c=>linkI (nodeF f (cutR 1 (undR (UInt8.ofNat c) l))))++ [itS (lastV l)]):=by
 match l,h2 with
 |p::q::r,_=>rw [nodeF,if_neg hs]
/-- No row stands twice. -/
def Dis (l:List PR):Prop:=(l.map Prod.fst).Nodup
theorem Dis.perm {l m:List PR} (h:Dis l) (p:l.Perm m):Dis m:=(p.map _).nodup_iff.1 h
theorem Dis.eq {l:List PR} (h:Dis l) {p q:PR} (hp:p∈l) (hq:q∈l) (e:p.1=q.1):p=q:=by
 induction l with
 |nil=>cases hp
 |cons x l ih=>
  have hn:=List.nodup_cons.1 h
  rcases List.mem_cons.1 hp with rfl|hp'
  ·rcases List.mem_cons.1 hq with rfl|hq'
   ·rfl
   ·exact absurd (e▸List.mem_map_of_mem hq') hn.1
  ·rcases List.mem_cons.1 hq with rfl|hq'
   ·exact absurd (e▸List.mem_map_of_mem hp') hn.1
   ·exact ih hn.2 hp' hq'
theorem lastV_spec: ∀(l:List PR) (v:List UInt8),(∃p∈l,p.1= []∧l.foldl (fun v p=>if p.1.length=0 then p.2 else v) v=p.2)∨((∀p∈l,p.1≠ [])∧l.foldl (fun v p=>if p.1.length=0 then p.2 else v) v=v)
 | [],v=>.inr ⟨by simp,rfl⟩
 |x::l,v=>by
  rw [List.foldl_cons]
  rcases lastV_spec l (if x.1.length=0 then x.2 else v)with ⟨p,hp,h1,h2⟩|⟨h1,h2⟩
  ·exact .inl ⟨p,List.mem_cons_of_mem _ hp,h1,h2⟩
  ·by_cases hx:x.1.length=0
   ·rw [if_pos hx]at h2⊢
    exact .inl ⟨x,List.mem_cons_self ..,List.eq_nil_of_length_eq_zero hx,h2⟩
   ·rw [if_neg hx]at h2⊢
    exact .inr ⟨fun p hp=>by
     rcases List.mem_cons.1 hp with rfl|hp
     ·exact fun e=>hx (by rw [e];rfl)
     ·exact h1 p hp,h2⟩
theorem lastV_of {l:List PR} (h:Dis l) {p:PR} (hp:p∈l) (e:p.1= []):lastV l=p.2:=by
 rcases lastV_spec l []with ⟨q,hq,h1,h2⟩|⟨h1,_⟩
 ·rw [lastV,h2,h.eq hq hp (h1.trans e.symm)]
 ·exact absurd e (h1 p hp)
theorem lastV_no {l:List PR} (h: ∀p∈l,p.1≠ []):lastV l= []:=by
 rcases lastV_spec l []with ⟨q,hq,h1,h2⟩|⟨_,h2⟩
 ·exact absurd h1 (h q hq)
 ·exact h2
theorem lastV_perm {l m:List PR} (h:Dis l) (p:l.Perm m):lastV l=lastV m:=by
 by_cases k: ∃q∈l,q.1= []
 ·obtain⟨q,hq,e⟩:=k
  rw [lastV_of h hq e,lastV_of (h.perm p) (p.mem_iff.1 hq) e]
 ·have k': ∀q∈l,q.1≠ []:=fun q hq e=>k ⟨q,hq,e⟩
  rw [lastV_no k',lastV_no fun q hq=>k' q (p.mem_iff.2 hq)]
theorem shar_take {l:List PR} {p q:PR} (hp:p∈l) (hq:q∈l) {k:Nat} (hk:k≤shar l):p.1.take k=q.1.take k∧k≤p.1.length:=by
 have:=(shar_iff (List.ne_nil_of_mem hp)).1 hk p hp q hq
 exact⟨(lcp_iff.1 this).2.2,(lcp_iff.1 this).1⟩
theorem nodup_map {α β:Type} {f:α→β} : ∀ {l:List α},l.Nodup→(∀a∈l, ∀b∈l,f a=f b→a=b)→(l.map f).Nodup
 | [],_,_=>by simp
 |x::l,h,hf=>by
  obtain⟨h1,h2⟩:=List.nodup_cons.1 h
  rw [List.map_cons,List.nodup_cons]
  refine⟨fun hm=>?_,nodup_map h2 fun a ha b hb=>hf a (List.mem_cons_of_mem _ ha) b (List.mem_cons_of_mem _ hb)⟩
  obtain⟨y,hy,e⟩:=List.mem_map.1 hm
  exact h1 (hf x (List.mem_cons_self ..) y (List.mem_cons_of_mem _ hy) e.symm▸hy)
theorem Dis.cut {l:List PR} (h:Dis l) {k:Nat} (hk:k≤shar l):Dis (cutR k l):=by
 have e:(cutR k l).map Prod.fst=(l.map Prod.fst).map (List.drop k):=by simp [cutR]
 unfold Dis;rw [e]
 refine nodup_map h fun a ha b hb hab=>?_
 obtain⟨p,hp,rfl⟩:=List.mem_map.1 ha
 obtain⟨q,hq,rfl⟩:=List.mem_map.1 hb
 rw [←List.take_append_drop k p.1, ←List.take_append_drop k q.1,hab,(shar_take hp hq hk).1]
theorem mem_und {c:UInt8} {l:List PR} {p:PR} :p∈undR c l↔p∈l∧ ∃r,p.1=c::r:=by
 rw [undR,List.mem_filter]
 cases h:p.1 with
 |nil=>simp
 |cons x r=>simp only [List.head?_cons,List.cons.injEq,beq_iff_eq,Option.some.injEq];exact⟨fun⟨k,e⟩=>⟨k,r,e,rfl⟩,fun⟨k,_,e,_⟩=>⟨k,e⟩⟩
theorem Dis.und {l:List PR} (h:Dis l) (c:UInt8):Dis (cutR 1 (undR c l)):=by
 have e:(cutR 1 (undR c l)).map Prod.fst=((undR c l).map Prod.fst).map (List.drop 1):=by simp [cutR]
 have h0:Dis (undR c l):=List.Sublist.nodup ((List.filter_sublist).map _) h
 unfold Dis;rw [e]
 refine nodup_map h0 fun a ha b hb hab=>?_
 obtain⟨p,hp,rfl⟩:=List.mem_map.1 ha
 obtain⟨q,hq,rfl⟩:=List.mem_map.1 hb
 obtain⟨_,r,e1⟩:=mem_und.1 hp
 obtain⟨_,s,e2⟩:=mem_und.1 hq
 rw [e1,e2]at hab⊢
 simpa using hab
/-- The pairs' order does not matter. -/
theorem node_perm: ∀(f:Nat) {l m:List PR},Dis l→l.Perm m→nodeF f l=nodeF f m
 |0,_,_,_,_=>rfl
 |f+1,l,m,hd,hp=>by
  match l with
  | []=>rw [List.nil_perm.1 hp]
  | [p]=>rw [List.singleton_perm.1 hp]
  |p::q::r=>
   have h2:2≤(p::q::r).length:=by simp
   have h2':2≤m.length:=by rw [←hp.length_eq];exact h2
   by_cases hs:0<shar (p::q::r)
   ·rw [node_ext h2 hs,node_ext h2' (shar_perm hp▸hs), ←shar_perm hp,node_perm f (hd.cut (Nat.le_refl _)) (hp.map _)]
    have e:((p::q::r).headD ([],[])).1.take (shar (p::q::r))=(m.headD ([],[])).1.take (shar (p::q::r)):=by
     match m,h2' with
     |x::m,_=>exact(shar_take (List.mem_cons_self ..) (hp.mem_iff.2 (List.mem_cons_self ..)) (Nat.le_refl _)).1
    rw [e];rfl
   ·have e: ∀c:Nat,nodeF f (cutR 1 (undR (UInt8.ofNat c) (p::q::r)))=nodeF f (cutR 1 (undR (UInt8.ofNat c) m)):=fun c=>node_perm f (hd.und _) ((hp.filter _).map _)
    rw [node_bra h2 hs,node_bra h2' (shar_perm hp▸hs),lastV_perm hd hp,funext fun c=>congrArg linkI (e c)]
theorem u8_lt_or {x y:UInt8} (h1: ¬x<y) (h2:x≠y):y<x:=by
 rw [UInt8.lt_iff_toNat_lt]at*
 rw [Ne, ←UInt8.toNat_inj]at h2
 omega
theorem u8_le_anti {x y:UInt8} (h1: ¬x<y) (h2: ¬y<x):x=y:=Classical.byContradiction fun e=>h2 (u8_lt_or h1 e)
/-- Whoever stands between two rows begins as both do. -/
theorem lex_mid: ∀ {k:Nat} {a b c:List UInt8}, ¬b<a→ ¬c<b→k≤lcp a c→k≤lcp a b
 |0,_,_,_,_,_,_=>Nat.zero_le _
 |k+1,[],b,c,_,_,h=>by simp [lcp]at h
 |k+1,x::a,b,[],_,_,h=>by simp [lcp]at h
 |k+1,x::a,[],z::c,h1,_,_=>absurd (List.nil_lt_cons x a) h1
 |k+1,x::a,y::b,z::c,h1,h2,h=>by
  by_cases e:x=z
  ·subst e
   rw [lcp,if_pos rfl]at h
   rw [List.cons_lt_cons_iff]at h1 h2
   have exy:x=y:=u8_le_anti (fun k=>h2 (.inl k)) (fun k=>h1 (.inl k))
   subst exy
   rw [lcp,if_pos rfl]
   have:=lex_mid (fun k=>h1 (.inr ⟨rfl,k⟩)) (fun k=>h2 (.inr ⟨rfl,k⟩)) (Nat.le_of_succ_le_succ h)
   omega
  ·rw [lcp,if_neg e]at h;omega
theorem lex_asymm: ∀ {a b:List UInt8},a<b→ ¬b<a
 | [],b,_=>List.not_lt_nil b
 |x::a,[],h=>absurd h (List.not_lt_nil _)
 |x::a,y::b,h=>by
  rw [List.cons_lt_cons_iff]at h⊢
  rintro(k|⟨e,k⟩)
  ·rcases h with h|⟨e,_⟩
   ·rw [UInt8.lt_iff_toNat_lt]at*;omega
   ·subst e;rw [UInt8.lt_iff_toNat_lt]at k;omega
  ·subst e
   rcases h with h|⟨_,h⟩
   ·rw [UInt8.lt_iff_toNat_lt]at h;omega
   ·exact lex_asymm h k
/-- The rows rise. -/
def Ris (l:List PR):Prop:=l.Pairwise fun p q=>p.1<q.1
theorem lex_ne {a b:List UInt8} (h:a<b):a≠b:=fun e=>by subst e;exact lex_asymm h h
theorem Ris.dis {l:List PR} (h:Ris l):Dis l:=by
 unfold Dis List.Nodup
 rw [List.pairwise_map]
 exact h.imp fun k=>lex_ne k
/-- Of rising rows the first and the last tell how many places all share. -/
theorem shar_ends {l:List PR} (h:Ris l) (p q:PR) (hp:l.head?=some p) (hq:l.getLast?=some q):shar l=lcp p.1 q.1:=by
 obtain⟨m,rfl⟩: ∃m,l=p::m:=by
  cases l with
  |nil=>cases hp
  |cons x m=>exact⟨m,by rw [Option.some.inj hp]⟩
 have hq':q∈p::m:=List.mem_of_getLast? hq
 apply Nat.le_antisymm
 ·exact(shar_iff (by simp)).1 (Nat.le_refl _) p (List.mem_cons_self ..) q hq'
 ·have key: ∀r∈p::m,lcp p.1 q.1≤lcp p.1 r.1:=fun r hr=>by
   refine lex_mid (c:=q.1) ?_ ?_ (Nat.le_refl _)
   ·rcases List.mem_cons.1 hr with rfl|hr
    ·exact fun k=>lex_asymm k k
    ·exact lex_asymm ((List.pairwise_cons.1 h).1 r hr)
   ·obtain⟨s,hs⟩: ∃s,p::m=s++ [q]:=by
     have hl:=List.getLast?_eq_some_iff.1 hq
     exact hl
    rw [hs]at hr h
    rcases List.mem_append.1 hr with hr|hr
    ·exact lex_asymm ((List.pairwise_append.1 h).2.2 r hr q (by simp))
    ·rw [List.mem_singleton.1 hr];exact fun k=>lex_asymm k k
  refine(shar_iff (by simp)).2 fun r hr s hs=>?_
  obtain⟨a1,a2,a3⟩:=lcp_iff.1 (key r hr)
  obtain⟨b1,b2,b3⟩:=lcp_iff.1 (key s hs)
  exact lcp_iff.2 ⟨a2,b2,a3.symm.trans b3⟩
theorem lex_drop: ∀ {k:Nat} {a b:List UInt8},a<b→k≤lcp a b→a.drop k<b.drop k
 |0,_,_,h,_=>h
 |k+1,[],b,_,hk=>by simp [lcp]at hk
 |k+1,x::a,[],_,hk=>by simp [lcp]at hk
 |k+1,x::a,y::b,h,hk=>by
  by_cases e:x=y
  ·subst e
   rw [lcp,if_pos rfl]at hk
   rw [List.cons_lt_cons_iff]at h
   rcases h with h|⟨_,h⟩
   ·rw [UInt8.lt_iff_toNat_lt]at h;omega
   ·show a.drop k<b.drop k
    exact lex_drop h (by omega)
  ·rw [lcp,if_neg e]at hk;omega
theorem Ris.cut {l:List PR} (h:Ris l) {k:Nat} (hk: ∀p∈l, ∀q∈l,k≤lcp p.1 q.1):Ris (cutR k l):=by
 unfold Ris cutR
 rw [List.pairwise_map]
 exact List.Pairwise.imp_of_mem (fun {p q} hp hq hlt=>lex_drop hlt (hk p hp q hq)) h
theorem Ris.cuts {l:List PR} (h:Ris l):Ris (cutR (shar l) l):=by
 cases l with
 |nil=>exact List.Pairwise.nil
 |cons p l=>exact h.cut ((shar_iff (by simp)).1 (Nat.le_refl _))
theorem Ris.und {l:List PR} (h:Ris l) (c:UInt8):Ris (cutR 1 (undR c l)):=by
 refine Ris.cut (List.Pairwise.filter _ h) fun p hp q hq=>?_
 obtain⟨_,r,e1⟩:=mem_und.1 hp
 obtain⟨_,s,e2⟩:=mem_und.1 hq
 rw [e1,e2]
 exact lcp_iff.2 ⟨by simp,by simp,by simp⟩
theorem nibs_cons (c:UInt8) (k:List UInt8):nibs (c::k)=(c>>>4)::(c&&&15)::nibs k:=rfl
theorem nib_hi (c:UInt8):(c>>>4).toNat=c.toNat/16:=by
 rw [UInt8.toNat_shiftRight,show(4:UInt8).toNat % 8=4 from rfl,Nat.shiftRight_eq_div_pow]
theorem nib_lo (c:UInt8):(c&&&15).toNat=c.toNat % 16:=by
 rw [UInt8.toNat_and]
 exact Nat.and_two_pow_sub_one_eq_mod c.toNat 4
theorem nibs_lt: ∀ {a b:List UInt8},a<b→nibs a<nibs b
 | [],[],h=>absurd h (List.not_lt_nil _)
 | [],y::b,_=>List.nil_lt_cons _ _
 |x::a,[],h=>absurd h (List.not_lt_nil _)
 |x::a,y::b,h=>by
  rw [List.cons_lt_cons_iff]at h
  rw [nibs_cons,nibs_cons,List.cons_lt_cons_iff,List.cons_lt_cons_iff]
  have e1:=nib_hi x;have e2:=nib_hi y;have e3:=nib_lo x;have e4:=nib_lo y
  rcases h with h|⟨e,h⟩
  ·rw [UInt8.lt_iff_toNat_lt]at h
   by_cases k:x.toNat/16=y.toNat/16
   ·refine .inr ⟨by rw [←UInt8.toNat_inj,e1,e2,k],.inl ?_⟩
    rw [UInt8.lt_iff_toNat_lt,e3,e4];omega
   ·refine .inl ?_
    rw [UInt8.lt_iff_toNat_lt,e1,e2];omega
  ·subst e
   exact .inr ⟨rfl,.inr ⟨rfl,nibs_lt h⟩⟩
theorem nibs_inj {a b:List UInt8} (h:nibs a=nibs b):a=b:=by
 induction a generalizing b with
 |nil=>cases b with
  |nil=>rfl
  |cons y b=>cases h
 |cons x a ih=>cases b with
  |nil=>cases h
  |cons y b=>
   rw [nibs_cons,nibs_cons,List.cons.injEq,List.cons.injEq]at h
   obtain⟨h1,h2,h3⟩:=h
   rw [ih h3]
   have e1:=nib_hi x;have e2:=nib_hi y;have e3:=nib_lo x;have e4:=nib_lo y
   rw [h1]at e1;rw [h2]at e3
   rw [show x=y from by rw [←UInt8.toNat_inj];omega]
theorem nibs_length (k:List UInt8):(nibs k).length=2*k.length:=by
 induction k with
 |nil=>rfl
 |cons x k ih=>rw [nibs_cons];simp only [List.length_cons,ih];omega
/-- The pairs of a map's keys and values. -/
def prs (l:List PR):List PR:=l.map fun p=>(nibs p.1,p.2)
theorem Ris.prs {l:List PR} (h:Ris l):Ris (prs l):=by
 unfold Ris Go.Proofs.YtdpjbefeabokgaaGreat.prs
 rw [List.pairwise_map]
 exact List.Pairwise.imp (fun k=>nibs_lt k) h
theorem Dis.prs {l:List PR} (h:Dis l):Dis (prs l):=by
 have e:(Go.Proofs.YtdpjbefeabokgaaGreat.prs l).map Prod.fst=(l.map Prod.fst).map nibs:=by simp [Go.Proofs.YtdpjbefeabokgaaGreat.prs]
 unfold Dis;rw [e]
 exact nodup_map h fun a _ b _ hab=>nibs_inj hab
end Go.Proofs.YtdpjbefeabokgaaGreat
/- rlp.Split, the reference's Split; quarrylaw05.RlpSplit answers true. No condition but that bytes are not longer than a machine holds. -/
namespace Go.Proofs.YtdpjbefeabokgaaGreat
open Go Go.RowKit
/-- What the reference's Split tells. -/
def SplV (N:Heaplet) (r:Option (Bool×List UInt8×List UInt8)) (v:Value):Prop:=match r with
 |none=>v=.tuple #[.bool false,.slice none 0 0,.slice none 0 0,.int .i64 2]
 |some (isL,p,q)=> ∃a1 c1 a2 c2,v=.tuple #[.bool isL,.slice a1 p.length c1,.slice a2 q.length c2,.int .i64 0]∧RSl N 1 a1 p.length c1 (u8s p)∧RSl N 1 a2 q.length c2 (u8s q)
end Go.Proofs.YtdpjbefeabokgaaGreat
/- The reference's Decode; quarrylaw05.RlpDecode answers true. No condition but that bytes are not longer than a machine holds. -/
namespace Go.Proofs.YtdpjbefeabokgaaGreat
open Go Go.RowKit
end Go.Proofs.YtdpjbefeabokgaaGreat
/- Plain laws: what is written is read again, and what is read is written again. No condition but that forms are not longer than a length tells. -/
namespace Go.Proofs.YtdpjbefeabokgaaGreat
theorem ofNat8 {n:Nat} (h:n<256):(UInt8.ofNat n).toNat=n:=by rw [UInt8.toNat_ofNat'];exact Nat.mod_eq_of_lt h
theorem bytesOf_ne {n:Nat} (h:n≠0): ∃x t,bytesOf n=x::t∧x.toNat≠0:=by
 have h1:=head_bytesOf n
 cases hb:bytesOf n with
 |nil=>
  have e:=be_bytesOf n
  rw [hb,be_nil]at e
  exact absurd e.symm h
 |cons x t=>
  rw [hb]at h1
  exact⟨x,t,rfl,fun e=>h1 (by simp only [List.head?_cons,Option.some.injEq];rw [←UInt8.toNat_inj];exact e)⟩
/-- The first item of head, payload and rest. -/
theorem cut_head {base:Nat} {p rest:List UInt8} (hb:base=128∨base=192) (hn:p.length<2^64) (hs:base=128→small p=false):
 cutF (rlpHead base p.length++(p++rest))=some (decide (base=192),p,rest):=by
 by_cases h55:p.length≤55
 ·have hx:=ofNat8 (n:=base+p.length) (by omega)
  have e:rlpHead base p.length++(p++rest)=UInt8.ofNat (base+p.length)::(p++rest):=by rw [rlpHead,if_pos h55,List.singleton_append]
  rw [e]
  generalize hxx:UInt8.ofNat (base+p.length)=x at hx
  have hd:hdr (x::(p++rest))=p.length:=by
   show(x.toNat- 128) % 64=p.length
   rw [hx];omega
  have h0:((x::(p++rest)).getD 0 0).toNat=base+p.length:=hx
  rw [cutF,if_neg (by simp),if_neg (by rw [h0];omega),if_pos (by rw [hd];exact h55),hd,cutAt,if_neg (by simp<;>omega)]
  have e1:((x::(p++rest)).drop 1).take p.length=p:=by simp
  have e2:(x::(p++rest)).drop (1+p.length)=rest:=by rw [Nat.add_comm,List.drop_succ_cons];simp
  rw [e1,e2,h0]
  rcases hb with rfl|rfl
  ·rw [if_neg (by omega),if_neg]
   ·rfl
   ·intro⟨h1,h2⟩
    have:=hs rfl
    rw [←Bool.not_eq_true,small_iffI]at this
    apply this
    refine⟨h1,?_⟩
    match p,h1 with
    | [y],_=>exact h2
  ·rw [if_pos (by omega)];rfl
 ·obtain⟨y,t,hB,hy⟩:=bytesOf_ne (n:=p.length) (by omega)
  have hk:=byteLen8 hn
  have hbe:=be_bytesOf p.length
  have e:rlpHead base p.length++(p++rest)=UInt8.ofNat (base+55+(bytesOf p.length).length)::(bytesOf p.length++(p++rest)):=by rw [rlpHead,if_neg h55];rfl
  rw [e]
  generalize hBB:bytesOf p.length=B at*
  have hk1:1≤B.length:=by rw [hB];simp
  have hx:=ofNat8 (n:=base+55+B.length) (by omega)
  generalize hxx:UInt8.ofNat (base+55+B.length)=x at hx
  have hd:hdr (x::(B++(p++rest)))=55+B.length:=by
   show(x.toNat- 128) % 64=55+B.length
   rw [hx];omega
  have h0:((x::(B++(p++rest))).getD 0 0).toNat=base+55+B.length:=hx
  have h1:((x::(B++(p++rest))).getD 1 0).toNat≠0:=by rw [hB];exact hy
  have hl:lng (x::(B++(p++rest)))=p.length:=by
   rw [lng,hd,show 55+B.length- 54- 1=B.length by omega]
   have:((x::(B++(p++rest))).drop 1).take B.length=B:=by simp
   rw [this,hbe]
  rw [cutF,if_neg (by simp),if_neg (by rw [h0];omega),if_neg (by rw [hd];omega),if_neg (by rw [hd];intro h;rcases h with h|h;(simp at h;omega);exact h1 h),if_neg (by rw [hl];simp;omega),hl,hd,cutAt,if_neg (by simp<;>omega),h0]
  have e1:((x::(B++(p++rest))).drop (55+B.length- 54)).take p.length=p:=by
   rw [show 55+B.length- 54=B.length+1 by omega,List.drop_succ_cons];simp
  have e2:(x::(B++(p++rest))).drop (55+B.length- 54+p.length)=rest:=by
   rw [show 55+B.length- 54+p.length=(B.length+p.length)+1 by omega,List.drop_succ_cons, ←List.drop_drop];simp
  rw [e1,e2]
  rcases hb with rfl|rfl
  ·rw [if_neg (by omega),if_neg (by omega)];rfl
  ·rw [if_pos (by omega)];rfl
theorem cut_small {x:UInt8} {rest:List UInt8} (h:x.toNat<128):cutF (x::rest)=some (false,[x],rest):=by
 rw [cutF,if_neg (by simp),if_pos (by exact h)];rfl
mutual
/-- The item without what is not looked at. -/
def It.plain:It→It
 |.mk false bs _=>.mk false bs []
 |.mk true _ its=>.mk true [] (It.plains its)
def It.plains:List It→List It
 | []=> []
 |t::ts=>It.plain t::It.plains ts
end
theorem form_pos (t:It):0<t.form.length:=by
 obtain⟨l,bs,its⟩:=t
 cases l with
 |false=>
  rw [form_false]
  split
  ·rename_i h
   have:=(small_iffI.1 h).1
   omega
  ·rw [List.length_append]
   have:0<(rlpHead 128 bs.length).length:=by unfold rlpHead;split<;>simp
   omega
 |true=>
  rw [form_true,List.length_append]
  have:0<(rlpHead 192 (It.forms its).length).length:=by unfold rlpHead;split<;>simp
  omega
theorem cut_text {bs:List UInt8} {its:List It} {rest:List UInt8} (h:(It.mk false bs its).form.length<2^64):cutF ((It.mk false bs its).form++rest)=some (false,bs,rest):=by
 rw [form_false]at h⊢
 split at h
 ·rename_i hsm
  rw [if_pos hsm]
  obtain⟨h1,h2⟩:=small_iffI.1 hsm
  match bs,h1 with
  | [x],_=>exact cut_small h2
 ·rename_i hsm
  rw [if_neg hsm,List.append_assoc]
  rw [List.length_append]at h
  rw [cut_head (.inl rfl) (by omega) (fun _=>by simpa using hsm)]
  rfl
theorem cut_list {bs:List UInt8} {its:List It} {rest:List UInt8} (h:(It.mk true bs its).form.length<2^64):cutF ((It.mk true bs its).form++rest)=some (true,It.forms its,rest):=by
 rw [form_true]at h⊢
 rw [List.length_append]at h
 rw [List.append_assoc,cut_head (.inr rfl) (by omega) (fun h=>absurd h (by decide))]
 rfl
mutual
theorem dec_form: ∀(t:It) (k:Nat) (rest:List UInt8),t.form.length<2^64→t.depth≤k→decF k (t.form++rest)=.ok (t.plain,rest)
 |.mk false bs its,k,rest,h,hd=>by
  cases k<;>simp [decF,cut_text h,It.plain]
 |.mk true bs its,k,rest,h,hd=>by
  simp only [It.depth]at hd
  obtain⟨k,rfl⟩: ∃j,k=j+1:=⟨k- 1,by omega⟩
  have hl:(It.forms its).length<2^64:=by rw [form_true,List.length_append]at h;omega
  simp only [decF,cut_list h,It.plain]
  rw [itF,dec_forms its k _ hl (by omega) (Nat.le_refl _)]
theorem dec_forms: ∀(ts:List It) (k f:Nat),(It.forms ts).length<2^64→It.depths ts≤k→(It.forms ts).length≤f→itemsF (decF k) f (It.forms ts)=.ok (It.plains ts)
 | [],k,f,_,_,_=>by cases f<;>simp [It.forms,itemsF,It.plains]
 |t::ts,k,f,h,hd,hf=>by
  have hp:=form_pos t
  simp only [It.forms,List.length_append]at h hf⊢
  simp only [It.depths]at hd
  have e:=dec_form t k (It.forms ts) (by omega) (by omega)
  obtain⟨f,rfl⟩: ∃j,f=j+1:=⟨f- 1,by omega⟩
  have e2:=dec_forms ts k f (by omega) (by omega) (by omega)
  cases hc:t.form++It.forms ts with
  |nil=>
   have:=congrArg List.length hc
   simp at this
   rw [this.1]at hp
   simp at hp
  |cons c b=>
   rw [itemsF, ←hc,e]
   simp only [e2,exMap,It.plains]
end
end Go.Proofs.YtdpjbefeabokgaaGreat
/- Plain laws: what is read is the form of what it tells. No condition but that bytes are not longer than a length tells. -/
namespace Go.Proofs.YtdpjbefeabokgaaGreat
/-- Head and payload. -/
def hf (l:Bool) (p:List UInt8):List UInt8:=if l then rlpHead 192 p.length++p else if small p then p else rlpHead 128 p.length++p
theorem form_hf (bs:List UInt8) (its:List It):(It.mk false bs its).form=hf false bs:=by rw [form_false];rfl
theorem form_hfl (bs:List UInt8) (its:List It):(It.mk true bs its).form=hf true (It.forms its):=by rw [form_true];rfl
theorem drop_split {b:List UInt8} {i n:Nat} :b.drop i=(b.drop i).take n++b.drop (i+n):=by
 conv=>lhs;rw [←List.take_append_drop n (b.drop i)]
 rw [List.drop_drop]
theorem cutF_form {b p r:List UInt8} {l:Bool} (h:cutF b=some (l,p,r)) (hb:b.length<2^64):b=hf l p++r:=by
 cases b with
 |nil=>simp [cutF]at h
 |cons x t=>
  have hx:=x.toNat_lt
  have h0:((x::t).getD 0 0).toNat=x.toNat:=rfl
  have hd:hdr (x::t)=(x.toNat- 128) % 64:=rfl
  rw [cutF,if_neg (by simp)]at h
  by_cases h1:x.toNat<128
  ·rw [if_pos (by rw [h0];exact h1)]at h
   simp only [List.take_succ_cons,List.take_zero,List.drop_succ_cons,List.drop_zero,Option.some.injEq,Prod.mk.injEq]at h
   obtain⟨rfl,rfl,rfl⟩:=h
   have:small [x]=true:=small_iffI.2 ⟨rfl,h1⟩
   simp [hf,this]
  ·rw [if_neg (by rw [h0];exact h1)]at h
   by_cases h55:hdr (x::t)≤55
   ·rw [if_pos h55,cutAt]at h
    split at h
    ·cases h
    ·rename_i hlen
     have hp:((x::t).drop 1).take (hdr (x::t))=t.take (hdr (x::t)):=rfl
     have hl:(t.take (hdr (x::t))).length=hdr (x::t):=by rw [List.length_take];simp at hlen;omega
     have hr:(x::t).drop (1+hdr (x::t))=t.drop (hdr (x::t)):=by rw [Nat.add_comm,List.drop_succ_cons]
     split at h
     ·rename_i h192
      rw [h0]at h192
      simp only [Option.some.injEq,Prod.mk.injEq,hp,hr]at h
      obtain⟨rfl,rfl,rfl⟩:=h
      rw [hf,if_pos rfl,hl,rlpHead,if_pos h55,List.append_assoc,List.take_append_drop]
      have:UInt8.ofNat (192+hdr (x::t))=x:=by rw [←UInt8.toNat_inj,ofNat8 (by omega)];omega
      rw [this];rfl
     ·rename_i h192
      rw [h0]at h192
      split at h
      ·cases h
      ·rename_i hsm
       simp only [Option.some.injEq,Prod.mk.injEq,hp,hr]at h
       obtain⟨rfl,rfl,rfl⟩:=h
       have hs: ¬small (t.take (hdr (x::t)))=true:=fun hs=>by
        obtain⟨h2,h3⟩:=small_iffI.1 hs
        rw [hl]at h2
        apply hsm
        refine⟨h2,?_⟩
        rw [h2]at h3
        cases t with
        |nil=>simp at h3;exact absurd (by simp at hl;omega) (by decide: ¬(0:Nat)=1)
        |cons y u=>exact h3
       rw [hf,if_neg (by decide),if_neg hs,hl,rlpHead,if_pos h55,List.append_assoc,List.take_append_drop]
       have:UInt8.ofNat (128+hdr (x::t))=x:=by rw [←UInt8.toNat_inj,ofNat8 (by omega)];omega
       rw [this];rfl
   ·rw [if_neg h55]at h
    split at h
    ·cases h
    ·rename_i h2
     split at h
     ·cases h
     ·rename_i h3
      generalize hk:hdr (x::t)- 54- 1=k at*
      have hkt:k≤t.length:=by simp at h2;omega
      have e1:hdr (x::t)- 54=k+1:=by omega
      have hlB:(t.take k).length=k:=by rw [List.length_take];omega
      have hB:t.take k=bytesOf (lng (x::t)):=by
       have:lng (x::t)=be (t.take k):=by rw [lng,hk];rfl
       rw [this]
       refine eq_bytesOf fun hh=>h2 (.inr ?_)
       cases t with
       |nil=>simp at hh
       |cons y u=>
        obtain⟨j,rfl⟩: ∃j,k=j+1:=⟨k- 1,by omega⟩
        simp only [List.take_succ_cons,List.head?_cons,Option.some.injEq]at hh
        rw [hh];rfl
      rw [cutAt,e1]at h
      split at h
      ·cases h
      ·rename_i hlen
       have hp:(x::t).drop (k+1)=t.drop k:=rfl
       have hr:(x::t).drop (k+1+lng (x::t))=t.drop (k+lng (x::t)):=by rw [show k+1+lng (x::t)=(k+lng (x::t))+1 by omega,List.drop_succ_cons]
       have hl:((t.drop k).take (lng (x::t))).length=lng (x::t):=by rw [List.length_take,List.length_drop];simp at hlen;omega
       have hall:t=bytesOf (lng (x::t))++((t.drop k).take (lng (x::t))++t.drop (k+lng (x::t))):=by
        rw [←drop_split, ←hB,List.take_append_drop]
       have hBl:(bytesOf (lng (x::t))).length=k:=by rw [←hB];exact hlB
       split at h
       ·rename_i h192
        rw [h0]at h192
        simp only [Option.some.injEq,Prod.mk.injEq,hp,hr]at h
        obtain⟨rfl,rfl,rfl⟩:=h
        rw [hf,if_pos rfl,hl,rlpHead,if_neg (by omega),hBl]
        have:UInt8.ofNat (192+55+k)=x:=by rw [←UInt8.toNat_inj,ofNat8 (by omega)];omega
        rw [this,List.cons_append,List.cons_append,List.append_assoc, ←hall]
       ·rename_i h192
        rw [h0]at h192
        split at h
        ·cases h
        ·rename_i hsm
         simp only [Option.some.injEq,Prod.mk.injEq,hp,hr]at h
         obtain⟨rfl,rfl,rfl⟩:=h
         have hs: ¬small ((t.drop k).take (lng (x::t)))=true:=fun hs=>by
          have h4:=(small_iffI.1 hs).1
          rw [hl]at h4;omega
         rw [hf,if_neg (by decide),if_neg hs,hl,rlpHead,if_neg (by omega),hBl]
         have:UInt8.ofNat (128+55+k)=x:=by rw [←UInt8.toNat_inj,ofNat8 (by omega)];omega
         rw [this,List.cons_append,List.cons_append,List.append_assoc, ←hall]
theorem items_form {dec:List UInt8→Except Nat (It×List UInt8)} {k:Nat} (ih: ∀b t q,b.length<2^64→dec b=.ok (t,q)→t.form++q=b∧t.depth≤k):
 ∀(f:Nat) (p:List UInt8) (ts:List It),p.length<2^64→itemsF dec f p=.ok ts→It.forms ts=p∧It.depths ts≤k
 |f,[],ts,_,h=>by
  cases f<;>(simp only [itemsF,Except.ok.injEq]at h;subst h;simp [It.forms,It.depths])
 |0,c::b,ts,_,h=>by simp [itemsF]at h
 |f+1,c::b,ts,hb,h=>by
  rw [itemsF]at h
  split at h
  ·cases h
  ·rename_i t q he
   obtain⟨h1,h2⟩:=ih _ _ _ hb he
   have hq:q.length<2^64:=by
    have:=congrArg List.length h1
    rw [List.length_append]at this
    omega
   cases hi:itemsF dec f q with
   |error e=>rw [hi]at h;cases h
   |ok us=>
    rw [hi]at h
    simp only [exMap,Except.ok.injEq]at h
    subst h
    obtain⟨h3,h4⟩:=items_form ih f q us hq hi
    exact⟨by rw [It.forms,h3,h1],by rw [It.depths];omega⟩
theorem decF_form: ∀(k:Nat) (b:List UInt8) (t:It) (q:List UInt8),b.length<2^64→decF k b=.ok (t,q)→t.form++q=b∧t.depth≤k:=by
 intro k
 induction k with
 |zero=>
  intro b t q hb h
  unfold decF at h
  split at h
  ·cases h
  ·rename_i hc
   cases h
   exact⟨by rw [form_hf];exact(cutF_form hc hb).symm,by simp [It.depth]⟩
  ·cases h
 |succ k ih=>
  intro b t q hb h
  unfold decF at h
  split at h
  ·cases h
  ·rename_i hc
   cases h
   exact⟨by rw [form_hf];exact(cutF_form hc hb).symm,by simp [It.depth]⟩
  ·rename_i p r hc
   split at h
   ·cases h
   ·rename_i its hi
    cases h
    have hl:=(cutF_len hc).1
    obtain⟨h1,h2⟩:=items_form ih _ _ _ (by omega) hi
    exact⟨by rw [form_hfl,h1];exact(cutF_form hc hb).symm,by rw [It.depth];omega⟩
end Go.Proofs.YtdpjbefeabokgaaGreat
/- quarrylaw05's Twin, cut: an item in new memory, of not too many parts. No condition. -/
namespace Go.Proofs.YtdpjbefeabokgaaGreat
open Go Go.RowKit
mutual
/-- A bound of the form's length. -/
def sizeT:It→Nat
 |.mk _ bs its=>9+bs.length+sizesT its
def sizesT:List It→Nat
 | []=>0
 |t::ts=>sizeT t+sizesT ts
end
mutual
theorem form_size: ∀t:It,sizeT t<256^8→t.form.length≤sizeT t
 |.mk false bs its,h=>by
  simp only [sizeT]at h⊢
  rw [form_false]
  split
  ·omega
  ·have:=rlpHead_le 128 bs.length (by omega)
   rw [List.length_append];omega
 |.mk true bs its,h=>by
  simp only [sizeT]at h⊢
  have:=forms_size its (by omega)
  have h9:=rlpHead_le 192 (It.forms its).length (by omega)
  rw [form_true,List.length_append];omega
theorem forms_size: ∀ts:List It,sizesT ts<256^8→(It.forms ts).length≤sizesT ts
 | [],_=>by simp [It.forms,sizesT]
 |t::ts,h=>by
  simp only [sizesT]at h⊢
  have h1:=form_size t (by omega)
  have h2:=forms_size ts (by omega)
  rw [It.forms,List.length_append];omega
end
/-- What Twin tells: an item of a bounded size; what is left is told. -/
def TwinP (bl deep left:Nat) (v:Value) (L:List Heaplet):Prop:=
 ∃Nl M, ∃y:IV, ∃t' left',v=.agg #[.bool y.l,.slice y.ab y.nb y.cb,.slice y.ai y.ni y.ci]∧L= [Nl,M]∧Blk Nl bl 3 [.int .i64 ((left':Nat):Int)]∧ItN M t' y∧t'.depth≤deep+1∧sizeT t'≤409*(left- left')∧left'<left
end Go.Proofs.YtdpjbefeabokgaaGreat
/- quarrylaw05.RlpEncode answers true. No condition. -/
namespace Go.Proofs.YtdpjbefeabokgaaGreat
open Go Go.RowKit
end Go.Proofs.YtdpjbefeabokgaaGreat
/- quarrylaw05.plain; quarrylaw05.RlpBack answers true. No condition. -/
namespace Go.Proofs.YtdpjbefeabokgaaGreat
open Go Go.RowKit
theorem decodeF_form {t:It} (hl:t.form.length<2^64) (hd:t.depth≤1024):decodeF t.form=.ok t.plain:=by
 have e:=dec_form t 1024 [] hl hd
 rw [List.append_nil]at e
 rw [decodeF,e];rfl
theorem decodeF_back {b:List UInt8} {t:It} (hb:b.length<2^64) (h:decodeF b=.ok t):t.form=b∧t.depth≤1024:=by
 unfold decodeF at h
 split at h
 ·cases h
 ·rename_i u q he
  split at h
  ·rename_i hq
   cases h
   obtain⟨h1,h2⟩:=decF_form 1024 b _ _ hb he
   rw [List.eq_nil_of_length_eq_zero hq,List.append_nil]at h1
   exact⟨h1,h2⟩
  ·cases h
end Go.Proofs.YtdpjbefeabokgaaGreat
/- The engine, append to a slice without room: a new row, whatever memory the old one lies in. For whatever program. Condition: the old slice is full. -/
namespace Go.Proofs.YtdpjbefeabokgaaGreat
open Go Go.RowKit
section
variable {P : Program} {n : Nat} {l : List (Nat × Value)} {E : World} {L Ls : List Heaplet} {X Y : Act → World → Prop} {d : Nat} {t t' ty e : TypeId} {x y : Operand}
theorem run_append_G {w:World} {zv:Value} {size bytes len m cap cap':Nat} {b a:Addr} {xs ys:List Value} (ht:P.underlying t=some (.slice e)) (hE:ElemInfo P e zv size bytes)
 (hlo:xs.length=len*size) (ho: ∀j u,xs[j]? =some u→w.cell? (b.add j)=some u) (hl:ys.length=m*size) (hnews: ∀j u,ys[j]? =some u→w.cell? (a.add j)=some u) (hg:cap<len+m) (h63:len+m≤maxLen) (hb:(len+m)*bytes≤140737488355328):
 ∃cap2 w',(Builtin.append_ #[t,t] ty #[.slice (some b) len cap,.slice (some a) m cap']).run P w=.ok (.slice (some ⟨w.heap.size,0,none⟩) (len+m) cap2) w'∧
  w'.ownsRow 0 e size (.slice (some ⟨w.heap.size,0,none⟩) (len+m) cap2) (len+m) (xs++ys)∧w.grownBy w' none:=by
 obtain⟨i,hi,hz,hsz,hby,hzs,h0⟩:=hE
 subst hsz
 subst hby
 have hsmall:len+m≤9223372036854775807:=by simp only [maxLen]at h63;omega
 have hlen:(xs++ys).length=(len+m)*i.size:=by rw [List.length_append,hlo,hl,Nat.add_mul]
 have hge:=grownCap_ge w (len+m) cap e
 have hcm:grownCap w (len+m) cap e≤maxLen:=grownCap_le_maxLen w (len+m) cap e h63
 have hr:=run_append_grow (P:=P) w t ty e i zv ht hi hz b len cap xs hlo ho a m cap' ys hl hnews hg (by omega) (growslice_fits hg hb)
 refine⟨_,_,hr,⟨hlen,.inr ⟨w.heap.size,_,_,rfl,Nat.zero_le _,heap_alloc_new w.drew _,hge,hcm,?_,?_⟩⟩,⟨rfl,rfl,rfl,by simp,fun k hk _=>heap_alloc_old w.drew _ hk⟩⟩
 ·simp only [Array.size_append,List.size_toArray,size_zeroCells,hzs,hlo,hl, ←Nat.add_mul]
  congr 1
  omega
 ·simp only [Array.toList_append,List.append_assoc]
  rw [←List.append_assoc, ←hlen]
  exact List.take_left
end
end Go.Proofs.YtdpjbefeabokgaaGreat
/- The engine: many rows in one part of the memory, told apart by their blocks; stores and appends that leave the others as they are. For whatever program. No condition. -/
namespace Go.Proofs.YtdpjbefeabokgaaGreat
open Go Go.RowKit
/-- N' is N but for this block. -/
def Off (ao:Option Addr) (N N':Heaplet):Prop:= ∃b,ao=some ⟨b,0,none⟩∧ ∀k,k≠b→N' k=N k
/-- What an append leaves of the memory: in its own block, or in a new one. -/
def App (N N':Heaplet) (ao:Option Addr) (cap:Nat) (ao2:Option Addr) (cap2 need:Nat):Prop:=
 (ao2=ao∧cap2=cap∧need≤cap∧Off ao N N')∨(N.le N'∧ ∃b,ao2=some ⟨b,0,none⟩∧N b=none)
theorem Row.le {N M:Heaplet} (hl:N.le M) {e:TypeId} {size:Nat} {ao:Option Addr} {n cap:Nat} {xs:List Value} (h:Row N e size ao n cap xs):Row M e size ao n cap xs:=by
 obtain⟨h1,h2,h3,h4⟩:=h
 refine⟨h1,h2,h3,?_⟩
 rcases h4 with h4|⟨b,cur,ha,hN,hs,ht⟩
 ·exact .inl h4
 ·exact .inr ⟨b,cur,ha,hl _ _ hN,hs,ht⟩
/-- The block of a row. -/
theorem Row.block {N:Heaplet} {e:TypeId} {size:Nat} {ao:Option Addr} {n cap:Nat} {xs:List Value} (h:Row N e size ao n cap xs):(ao=none∧n=0∧cap=0)∨ ∃b o,ao=some ⟨b,0,none⟩∧N b=some o:=by
 obtain⟨_,_,_,h4⟩:=h
 rcases h4 with h4|⟨b,cur,ha,hN,_⟩
 ·exact .inl h4
 ·exact .inr ⟨b,_,ha,hN⟩
/-- A row is read off its block alone. -/
theorem Row.off {N N':Heaplet} {e:TypeId} {size:Nat} {ao p:Option Addr} {n cap:Nat} {xs:List Value} (h:Row N e size ao n cap xs) (ho:Off p N N') (hne:ao=none∨ao≠p):Row N' e size ao n cap xs:=by
 obtain⟨b,rfl,hk⟩:=ho
 obtain⟨h1,h2,h3,h4⟩:=h
 refine⟨h1,h2,h3,?_⟩
 rcases h4 with h4|⟨b',cur,ha,hN,hs,ht⟩
 ·exact .inl h4
 ·refine .inr ⟨b',cur,ha,?_,hs,ht⟩
  rw [hk b' fun e=>?_]
  ·exact hN
  ·subst e
   rcases hne with h|h
   ·rw [h]at ha;cases ha
   ·exact h ha
/-- The first part of a row. -/
theorem Row.first {N:Heaplet} {e:TypeId} {size:Nat} {ao:Option Addr} {n m cap:Nat} {xs ys:List Value} (h:Row N e size ao n cap xs) (hm:m≤n) (hy:xs.take (m*size)=ys) (ha:ao≠none):Row N e size ao m cap ys:=by
 obtain⟨h1,h2,h3,h4⟩:=h
 rcases h4 with ⟨h4,_⟩|⟨b',cur,hb,hN,hs,ht⟩
 ·exact absurd h4 ha
 ·have hle:m*size≤n*size:=Nat.mul_le_mul_right _ hm
  refine⟨by rw [←hy,List.length_take,h1];exact Nat.min_eq_left hle,Nat.le_trans hm h2,h3,.inr ⟨b',cur,hb,hN,hs,?_⟩⟩
  rw [←hy, ←ht,List.take_take,Nat.min_eq_left hle]
section
variable {P : Program} {n : Nat} {l : List (Nat × Value)} {E : World} {L L1 Ls : List Heaplet} {X Y : Act → World → Prop} {d : Nat} {t t' ty e : TypeId} {x y : Operand}
theorem op_storeU {vs:List Value} {kk:Nat} {N:Heaplet} {v:Value} {ao:Option Addr} {j size len cap:Nat} {xs:List Value} {pos:_} {aft:_} {g:_} (s:Nx P n l E L ⟨none,.store t x y,ty,pos,aft,g⟩ X Y) (ht0:siz P t=some kk) (hx:ev l x=some (eptr ao j)) (hy:ev l y=some v) (hv:v.cells=vs.toArray) (hk:vs.length=kk) (h1:vs.all (·.oneCell')=true) (hb:Row N e size ao len cap xs) (hlen:j+vs.length≤xs.length) (h0:0<vs.length) (hs:L.Perm (N::L1))
 (h: ∀N',Row N' e size ao len cap (setL xs j vs)→Off ao N N'→At n l E (N'::L1) Y):At n l E L X:=fun a w hf hw=>by
 have ht:siz P t=some vs.length:=by rw [ht0,hk]
 have hw2:=hw.perm hs
 obtain⟨a1,a2,a3,a4⟩:=hb
 have hn0:0<len:=by
  rcases Nat.eq_zero_or_pos len with h|h
  ·rw [h,Nat.zero_mul]at a1;omega
  ·exact h
 rcases a4 with ⟨_,hz,_⟩|⟨b,cur,rfl,hN,hcs,ht'⟩
 ·omega
 have hN':N b=some (.cells cur.toList.toArray e (0,0)):=by simpa using hN
 have hheap:=hw2.sub N (List.mem_cons_self ..) _ _ hN'
 have hxl:xs.length≤cur.toList.length:=by rw [a1,Array.length_toList,hcs];exact Nat.mul_le_mul_right _ a2
 obtain⟨w',hr,e1,e2,e3,e4,e5⟩:=run_storeCells (P:=P) vs w b j 0 cur.toList e hheap (fun u hu=>List.all_eq_true.1 h1 u hu) (by omega)
 obtain⟨i,hi,hsz⟩:=Option.map_eq_some_iff.1 ht
 refine s a w hf hw ?_
 unfold Oper.wp
 have hrun:(execOp a.eval ⟨none,.store t x y,ty,pos,aft,g⟩).run P w=.ok .skip w':=by
  simp only [execOp,hf.eval hx,hf.eval hy,eptr,Option.map_some,Nat.zero_add,Instr.storeAt,Instr.sureAddr,Sem.run_bind,Sem.run_pure,Result.andThen_ok,storeVar,run_sizeOf hi,hsz,hv]
  simp only [List.size_toArray,ne_eq,not_true,if_false]
  rw [hr]
  rfl
 rw [hrun]
 refine h (upd N b (.cells (setL cur.toList j vs).toArray e (0,0))) ⟨by rw [length_setL,a1],a2,a3,.inr ⟨b,_,rfl,upd_self _ _ _,by simp [length_setL,hcs],?_⟩⟩ ⟨b,rfl,fun k hk=>by simp [upd,hk]⟩ a w' hf (hw2.put hN' e1 e2 e3 (by simpa using e4) fun k hk _=>e5 k hk)
 rw [List.toList_toArray,setL_take _ _ _ _ (by omega),ht']
theorem op_appendU {zv:Value} {bytes m cap' size len cap:Nat} {ao ao':Option Addr} {xs ys:List Value} {N M:Heaplet} {t2 e2:TypeId} {pos:_} {aft:_} {g:_} (s:Nx P n l E L ⟨some d,.call ⟨.builtin .append, #[x,y], #[t,t2]⟩,ty,pos,aft,g⟩ X Y) (ht:P.underlying t=some (.slice e)) (ht2:P.underlying t2=some (.slice e2)) (hE:ElemInfo P e zv size bytes)
 (hx:ev l x=some (.slice ao len cap)) (hy:ev l y=some (.slice ao' m cap')) (hr:Row N e size ao len cap xs) (hs:RSl M size ao' m cap' ys) (hM:M∈L) (hm:0<m) (h1: ∀u∈ys,u.oneCell'=true) (hb:(len+m)*bytes≤140737488355328) (hl:len+m≤9223372036854775807) (sel:L.Perm (N::L1)) (hn:Nat.ble (d+1) n=true)
 (h: ∀N' ao2 cap2,Row N' e size ao2 (len+m) cap2 (xs++ys)→App N N' ao cap ao2 cap2 (len+m)→At n ((d,.slice ao2 (len+m) cap2)::l) E (N'::L1) Y):At n l E L X:=by
 refine op_upd s (fun v L'=> ∃N' ao2 cap2,v=.slice ao2 (len+m) cap2∧L'=N'::L1∧Row N' e size ao2 (len+m) cap2 (xs++ys)∧App N N' ao cap ao2 cap2 (len+m)) (fun a w hf hw=>?_) rfl hn (fun v L' ⟨N',ao2,cap2,hv,hL,hB,hA⟩=>by subst hv;subst hL;exact h N' ao2 cap2 hB hA)
 have hw2:=hw.perm sel
 have hrest:Hp E L1 w:=hw2.drop (List.sublist_cons_self ..)
 obtain⟨i,hi,hz,hsz,hby,hzs,hpos⟩:=hE
 obtain⟨y1,y2,y3,y4⟩:=hs.sl (hw.sub M hM)
 obtain⟨bs,os,rfl,cs⟩:=y4 hm
 have hnews: ∀j u,ys[j]? =some u→w.cell? ((⟨bs,os,none⟩:Addr).add j)=some u:=fun j u hu=>by
  obtain⟨hj,rfl⟩:=List.getElem?_eq_some_iff.1 hu
  rw [addr_add];exact cs j hj
 have fin: ∀v w',(Builtin.append_ #[t,t] ty #[.slice ao len cap,.slice (some ⟨bs,os,none⟩) m cap']).run P w=.ok v w'→(execOp a.eval ⟨some d,.call ⟨.builtin .append, #[x,y], #[t,t2]⟩,ty,pos,aft,g⟩).run P w=.ok (.value v) w':=fun v w' h4=>by
  simp only [execOp,resolve,invoke,builtin,Sem.run_bind,Sem.run_pure,Result.andThen_ok,List.map_toArray,List.map_cons,List.map_nil,hf.eval hx,hf.eval hy,run_append_src ht ht2,h4]
 have hmax:len+m≤maxLen:=by unfold maxLen;exact hl
 rcases Nat.lt_or_ge cap (len+m)with hg|hg
 · -- a new row
  have new: ∃cap2 w',(Builtin.append_ #[t,t] ty #[.slice ao len cap,.slice (some ⟨bs,os,none⟩) m cap']).run P w=.ok (.slice (some ⟨w.heap.size,0,none⟩) (len+m) cap2) w'∧
   w'.ownsRow 0 e size (.slice (some ⟨w.heap.size,0,none⟩) (len+m) cap2) (len+m) (xs++ys)∧w.grownBy w' none:=by
   rcases hr.block with ⟨rfl,rfl,rfl⟩|⟨b,o,rfl,_⟩
   ·have hx0:xs= []:=List.eq_nil_of_length_eq_zero (by simpa using hr.1)
    obtain⟨ao2,cap2,w',h4,h5,h6,h7⟩:=run_append_row (P:=P) (ty:=ty) ht ⟨i,hi,hz,hsz,hby,hzs,hpos⟩ (hw2.sub N (List.mem_cons_self ..)) hr (hs.sl (hw.sub M hM)) h1 hb hmax
    subst hx0
    rcases h7 with h7|h7
    ·rcases owns_row h5 with ⟨rfl,hrow⟩|⟨b,cur,rfl,hheap,hrow⟩
     ·have:=(hrow nilH).block
      rcases this with ⟨_,h0,_⟩|⟨b,o,hb0,_⟩
      ·omega
      ·cases hb0
     ·cases h7
    ·rcases owns_row h5 with ⟨rfl,hrow⟩|⟨b,cur,rfl,hheap,hrow⟩
     ·cases h7
     ·have:b=w.heap.size:=by simpa [Value.ownBlock]using h7
      subst this
      exact⟨cap2,w',h4,h5,h6⟩
   ·obtain⟨cap2,w',h4,h5,h6⟩:=run_append_G (P:=P) (ty:=ty) (cap':=cap') ht ⟨i,hi,hz,hsz,hby,hzs,hpos⟩ hr.1 (b:=⟨b,0,none⟩) (a:=⟨bs,os,none⟩) (fun j u hu=>by
     obtain⟨hj,rfl⟩:=List.getElem?_eq_some_iff.1 hu
     obtain⟨_,_,_,r4⟩:=hr.rsl.sl (hw2.sub N (List.mem_cons_self ..))
     have h0:0<len:=by
      rcases Nat.eq_zero_or_pos len with h|h
      ·have:=hr.1;rw [h,Nat.zero_mul]at this;omega
      ·exact h
     obtain⟨b1,o1,e1,c1⟩:=r4 h0
     cases e1
     rw [addr_add];exact c1 j hj) y1 hnews hg hmax hb
    exact⟨cap2,w',h4,h5,h6⟩
  obtain⟨cap2,w',h4,h5,h6⟩:=new
  obtain⟨N',h8,h9⟩:=hp_append (L1:=N::L1) (N:=nilH) (e:=e) (size:=size) ⟨hw2.os,hw2.tape,hw2.output,fun K hK=>by
   rcases List.mem_cons.1 hK with rfl|hK
   ·intro k o hk;cases hk
   ·exact hw2.sub K hK,by rw [List.pairwise_cons];exact⟨fun _ _ _=>.inl rfl,hw2.sep⟩⟩ (Row.nil nilH e size) h5 h6 (.inr rfl)
  have hap:=(List.pairwise_cons.1 h9.sep).1 N (by simp)
  refine⟨_,w',_,fin _ _ h4,h9.merge,join2 N' N,_,cap2,rfl,rfl,h8.le join2_left,.inr ⟨join2_right hap,w.heap.size,rfl,?_⟩⟩
  cases hk:N w.heap.size with
  |none=>rfl
  |some o=>exact absurd (hw2.lt (List.mem_cons_self ..) hk) (Nat.lt_irrefl _)
 · -- in its own block
  rcases hr.block with ⟨rfl,rfl,rfl⟩|⟨b,o,rfl,hN⟩
  ·omega
  ·obtain⟨w',h4,h5,h6⟩:=run_append_fits (P:=P) w 0 t ty e i size ht hi hsz b len cap xs (hr.owns (hw2.sub N (List.mem_cons_self ..))) ⟨bs,os,none⟩ m cap' ys y1 hnews h1 hg
   rcases owns_row h5 with ⟨hno,_⟩|⟨b2,cur,hb2,hheap,hrow⟩
   ·cases hno
   ·cases hb2
    have henv:=grown_env h6
    refine⟨_,w',_,fin _ _ h4,hw2.put (o':=.cells cur e (0,0)) hN henv.1 henv.2.1 henv.2.2 hheap (fun k hk hlt=>grown_block h6 hlt (by
     intro h;exact hk (Option.some.inj h).symm)),upd N b (.cells cur e (0,0)),_,cap,rfl,rfl,hrow _ (upd_self _ _ _),.inl ⟨rfl,rfl,hg,b,rfl,fun k hk=>by simp [upd,hk]⟩⟩
end
end Go.Proofs.YtdpjbefeabokgaaGreat
/- Many slices of bytes in one part of the memory, each with a block of its own. For whatever program. No condition. -/
namespace Go.Proofs.YtdpjbefeabokgaaGreat
open Go Go.RowKit
/-- Slices of bytes, each with a block of its own. -/
structure Bag (e:TypeId) (N:Heaplet) (vs:List Value) (xs:List (List UInt8)):Prop where
 len:vs.length=xs.length
 row: ∀(i:Nat) (x:List UInt8),xs[i]? =some x→ ∃p c,vs[i]? =some (Value.slice p x.length c)∧Row N e 1 p x.length c (u8s x)
 apart: ∀(i j:Nat) (p q:Option Addr) (n m c d:Nat),i≠j→vs[i]? =some (Value.slice p n c)→vs[j]? =some (Value.slice q m d)→p=none∨p≠q
/-- Slices of bytes that can be read. -/
structure Bags (N:Heaplet) (vs:List Value) (xs:List (List UInt8)):Prop where
 len:vs.length=xs.length
 rsl: ∀(i:Nat) (x:List UInt8),xs[i]? =some x→ ∃p c,vs[i]? =some (Value.slice p x.length c)∧RSl N 1 p x.length c (u8s x)
theorem Bag.nil (e:TypeId) (N:Heaplet):Bag e N [] []:=⟨rfl,fun i x h=>by simp at h,fun i j p q n m c d _ h=>by simp at h⟩
theorem Bags.nil (N:Heaplet):Bags N [] []:=⟨rfl,fun i x h=>by simp at h⟩
theorem Bag.bags {e:TypeId} {N:Heaplet} {vs:List Value} {xs:List (List UInt8)} (h:Bag e N vs xs):Bags N vs xs:=⟨h.len,fun i x hx=>let ⟨p,c,h1,h2⟩:=h.row i x hx;⟨p,c,h1,h2.rsl⟩⟩
theorem Bags.le {N M:Heaplet} {vs:List Value} {xs:List (List UInt8)} (h:Bags N vs xs) (hl:N.le M):Bags M vs xs:=⟨h.len,fun i x hx=>let ⟨p,c,h1,h2⟩:=h.rsl i x hx;⟨p,c,h1,h2.le hl⟩⟩
theorem Bag.le {e:TypeId} {N M:Heaplet} {vs:List Value} {xs:List (List UInt8)} (h:Bag e N vs xs) (hl:N.le M):Bag e M vs xs:=⟨h.len,fun i x hx=>let ⟨p,c,h1,h2⟩:=h.row i x hx;⟨p,c,h1,h2.le hl⟩,h.apart⟩
theorem snoc_get {α:Type} {xs:List α} {y z:α} {i:Nat} (h:(xs++ [y])[i]? =some z):(i<xs.length∧xs[i]? =some z)∨(i=xs.length∧z=y):=by
 rcases Nat.lt_or_ge i xs.length with hi|hi
 ·rw [List.getElem?_append_left hi]at h;exact .inl ⟨hi,h⟩
 ·rw [List.getElem?_append_right hi]at h
  rcases Nat.eq_zero_or_pos (i- xs.length)with h0|h0
  ·rw [h0]at h;simp at h;exact .inr ⟨by omega,h.symm⟩
  ·rw [List.getElem?_eq_none (by simp;omega)]at h;cases h
theorem get_snoc_l {α:Type} {xs:List α} {y z:α} {i:Nat} (h:xs[i]? =some z):(xs++ [y])[i]? =some z:=by
 rw [List.getElem?_append_left (List.getElem?_eq_some_iff.1 h).1];exact h
theorem get_snoc_r {α:Type} {xs:List α} {y:α} {i:Nat} (h:i=xs.length):(xs++ [y])[i]? =some y:=by subst h;simp
theorem Bags.snoc {N M:Heaplet} {vs:List Value} {xs:List (List UInt8)} {x:List UInt8} {p:Option Addr} {c:Nat} (h:Bags N vs xs) (hr:RSl M 1 p x.length c (u8s x)) (ha:Apart M N):Bags (join2 M N) (vs++ [Value.slice p x.length c]) (xs++ [x]):=by
 refine⟨by simp [h.len],fun i y hy=>?_⟩
 rcases snoc_get hy with ⟨hi,hy⟩|⟨hi,rfl⟩
 ·obtain⟨q,d,h1,h2⟩:=h.rsl i y hy
  exact⟨q,d,get_snoc_l h1,h2.le (join2_right ha)⟩
 ·exact⟨p,c,get_snoc_r (by rw [hi,h.len]),hr.le join2_left⟩
theorem Bag.snoc {e:TypeId} {N M:Heaplet} {vs:List Value} {xs:List (List UInt8)} {x:List UInt8} {p:Option Addr} {c:Nat} (h:Bag e N vs xs) (hr:Row M e 1 p x.length c (u8s x)) (ha:Apart M N):Bag e (join2 M N) (vs++ [Value.slice p x.length c]) (xs++ [x]):=by
 have old: ∀i q m d,i<vs.length→vs[i]? =some (Value.slice q m d)→p=none∨q=none∨p≠q:=fun i q m d hi hv=>by
  obtain⟨y,hy⟩: ∃y,xs[i]? =some y:=⟨_,List.getElem?_eq_getElem (by rw [←h.len];exact hi)⟩
  obtain⟨q',d',h1,h2⟩:=h.row i y hy
  rw [hv]at h1
  simp only [Option.some.injEq,Value.slice.injEq]at h1
  obtain⟨rfl,rfl,rfl⟩:=h1
  rcases hr.block with ⟨hp,_⟩|⟨b,o,hp,hb⟩
  ·exact .inl hp
  ·rcases h2.block with ⟨hq,_⟩|⟨b',o',hq,hb'⟩
   ·exact .inr (.inl hq)
   ·refine .inr (.inr fun e=>?_)
    rw [hp,hq]at e
    cases e
    rcases ha b with h|h
    ·rw [hb]at h;cases h
    ·rw [hb']at h;cases h
 refine⟨by simp [h.len],fun i y hy=>?_,fun i j q r n m c' d hij hi hj=>?_⟩
 ·rcases snoc_get hy with ⟨hi,hy⟩|⟨hi,rfl⟩
  ·obtain⟨q,d,h1,h2⟩:=h.row i y hy
   exact⟨q,d,get_snoc_l h1,h2.le (join2_right ha)⟩
  ·exact⟨p,c,get_snoc_r (by rw [hi,h.len]),hr.le join2_left⟩
 ·rcases snoc_get hi with ⟨li,hi'⟩|⟨li,hi'⟩<;>rcases snoc_get hj with ⟨lj,hj'⟩|⟨lj,hj'⟩
  ·exact h.apart i j q r n m c' d hij hi' hj'
  ·simp only [Value.slice.injEq]at hj'
   obtain⟨rfl,_⟩:=hj'
   rcases old i q n c' li hi' with h|h|h
   ·by_cases hq:q=none
    ·exact .inl hq
    ·exact .inr fun e=>hq (e.trans h)
   ·exact .inl h
   ·exact .inr fun e=>h e.symm
  ·simp only [Value.slice.injEq]at hi'
   obtain⟨rfl,_⟩:=hi'
   rcases old j r m d lj hj' with h|h|h
   ·exact .inl h
   ·by_cases hq:q=none
    ·exact .inl hq
    ·exact .inr fun e=>hq (e.trans h)
   ·exact .inr h
  ·omega
/-- One of them is written. -/
theorem Bag.set {e:TypeId} {N N':Heaplet} {vs:List Value} {xs:List (List UInt8)} {i n c:Nat} {x:List UInt8} {p:Option Addr} (h:Bag e N vs xs) (hv:vs[i]? =some (Value.slice p n c)) (hr:Row N' e 1 p n c (u8s x)) (ho:Off p N N'):Bag e N' vs (xs.set i x):=by
 refine⟨by simp [h.len],fun j y hy=>?_,h.apart⟩
 by_cases hij:i=j
 ·subst hij
  have hlt:i<xs.length:=by
   have:=(List.getElem?_eq_some_iff.1 hy).1
   simpa using this
  rw [List.getElem?_set_self hlt]at hy
  cases hy
  have hlen:x.length=n:=by have:=hr.1;simpa using this
  subst hlen
  exact⟨p,c,hv,hr⟩
 ·rw [List.getElem?_set_ne hij]at hy
  obtain⟨q,d,h1,h2⟩:=h.row j y hy
  exact⟨q,d,h1,h2.off ho (h.apart j i q p _ _ _ _ (fun e=>hij e.symm) h1 hv)⟩
/-! Parts of the memory put together. -/
def joinL:List Heaplet→Heaplet
 | []=>nilH
 |N::t=>join2 N (joinL t)
theorem apart_joinL {A:Heaplet} : ∀ {Ns:List Heaplet},(∀N∈Ns,Apart A N)→Apart A (joinL Ns):=by
 intro Ns
 induction Ns with
 |nil=>intro _ k;exact .inr rfl
 |cons N t ih=>
  intro h k
  rcases h N (by simp) k with h1|h1
  ·exact .inl h1
  ·rcases ih (fun M hM=>h M (by simp [hM])) k with h2|h2
   ·exact .inl h2
   ·exact .inr (by simp [joinL,join2,h1,h2])
theorem Hp.packL {E:World} {w:World} : ∀ {Ns L:List Heaplet},Hp E (Ns++L) w→Hp E (joinL Ns::L) w:=by
 intro Ns
 induction Ns with
 |nil=>
  intro L h
  exact⟨h.os,h.tape,h.output,fun N hN=>by
   rcases List.mem_cons.1 hN with rfl|hN
   ·intro k o hk;cases hk
   ·exact h.sub N hN,by rw [List.pairwise_cons];exact⟨fun _ _ _=>.inl rfl,h.sep⟩⟩
 |cons N t ih=>
  intro L h
  have h1:Hp E (t++(N::L)) w:=h.perm (List.perm_middle.symm)
  exact((ih h1).perm (.swap ..)).merge
theorem le_joinL {Ns:List Heaplet} (hs:Ns.Pairwise Apart) {N:Heaplet} (hN:N∈Ns):N.le (joinL Ns):=by
 induction Ns with
 |nil=>cases hN
 |cons A t ih=>
  have hp:=List.pairwise_cons.1 hs
  rcases List.mem_cons.1 hN with rfl|hN
  ·exact join2_left
  ·exact Heaplet.le_trans (ih hp.2 hN) (join2_right (apart_joinL hp.1))
theorem Hp.unpackL {E:World} {L:List Heaplet} {w:World} {Ns:List Heaplet} (hs:Ns.Pairwise Apart) (h:Hp E (joinL Ns::L) w):Hp E (Ns++L) w:=by
 have hp:=List.pairwise_cons.1 h.sep
 refine⟨h.os,h.tape,h.output,fun N hN=>?_,?_⟩
 ·rcases List.mem_append.1 hN with hN|hN
  ·exact Heaplet.le_trans (le_joinL hs hN) (h.sub _ (by simp))
  ·exact h.sub N (by simp [hN])
 ·rw [List.pairwise_append]
  exact⟨hs,hp.2,fun a ha b hb=>(hp.1 b hb).le (le_joinL hs ha) (Heaplet.le_refl _)⟩
/-- A function's own parts of the memory, handed over as one. -/
theorem Fn.pack {P:Program} {f:FuncId} {args:Array Value} {L0 Lr:List Heaplet} {Post Post':Value→List Heaplet→Prop} {As:List Heaplet} (hA:As.Pairwise Apart) (h:Fn P f args (As++L0) Lr Post)
 (hp: ∀v L,Post v L→ ∃Bs L1,L=Bs++L1∧(Bs.Pairwise Apart→Post' v (joinL Bs::L1))):Fn P f args (joinL As::L0) Lr Post':=by
 intro E w R hw hr
 have hw2:Hp E (As++L0++ [R]) w:=by
  rw [List.append_assoc]
  exact hw.unpackL hA
 refine(h E w R hw2 hr).mono ?_
 rintro e w' ⟨v,L,rfl,hP,hh⟩
 obtain⟨Bs,L1,rfl,hq⟩:=hp v L hP
 rw [List.append_assoc]at hh
 have hs:=(List.pairwise_append.1 hh.sep).1
 exact⟨v,_,rfl,hq hs,hh.packL⟩
end Go.Proofs.YtdpjbefeabokgaaGreat
