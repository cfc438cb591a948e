/- Several texts in one: see the remarks ahead of each part. No condition but those told there. -/
import Derived.Test.YtalmjkcapecpiaaGreatX1
import Derived.Test.YtalmjkcapecpiaaGreatX13
import Derived.Test.YtalmjkcapecpiaaGreatX6
import Derived.Test.YtalmjkcapecpiaaGreatX12
import Derived.Test.YtalmjkcapecpiaaGreatX5
import Derived.Test.YtalmjkcapecpiaaGreatX8
set_option linter.unusedSimpArgs false
set_option linter.unusedVariables false
namespace Go.Proofs.YtalmjkcapecpiaaGreat
open Go Go.RowKit
def lo32 (s:UInt64):UInt32:=UInt32.ofNat s.toNat
def DigsP (V:Nat) (v:Value) (L:List Heaplet):Prop:=
 ∃M a c,v=.slice a (digsOf V).length c∧L= [M]∧RSl M 1 a (digsOf V).length c (u32s (digsOf V))
def LessP (co:Option Addr) (nc cc:Nat) (pre u v post:List UInt32) (q:Nat) (r:Value) (L:List Heaplet):Prop:=
 ∃M x, ∃bw:Nat,r=.bool (decide (bw=1))∧L= [M]∧Row M 201 1 co nc cc (u32s (pre++x++post))∧x.length=u.length∧bw≤1∧v32 x+q*v32 v=v32 u+bw*2^(32*u.length)
def BackP (co:Option Addr) (nc cc:Nat) (pre u v post:List UInt32) (r:Value) (L:List Heaplet):Prop:=
 ∃M x, ∃c:Nat,r=.tuple #[]∧L= [M]∧Row M 201 1 co nc cc (u32s (pre++x++post))∧x.length=u.length∧c≤1∧v32 x+c*2^(32*u.length)=v32 u+v32 v∧((u.getD v.length 0).toNat≤(x.getD v.length 0).toNat↔c=0)
def DigsP2 (A B:Nat) (v:Value) (L:List Heaplet):Prop:=
 ∃M1 a1 c1 M2 a2 c2,v=.tuple #[.slice a1 (digsOf A).length c1,.slice a2 (digsOf B).length c2]∧L= [M1,M2]∧RSl M1 1 a1 (digsOf A).length c1 (u32s (digsOf A))∧RSl M2 1 a2 (digsOf B).length c2 (u32s (digsOf B))
theorem Hp.empty {E w:World} {L:List Heaplet} (h:Hp E L w):Hp E (nilH::L) w:=
 ⟨h.os,h.tape,h.output,fun N hN=>by
  rcases List.mem_cons.1 hN with rfl|hN
  ·intro k o hk;cases hk
  ·exact h.sub N hN,List.pairwise_cons.2 ⟨fun N _ k=>.inl rfl,h.sep⟩⟩
def DivR (N:Heaplet) (A B:Nat) (v:Value) (L:List Heaplet):Prop:=
 ∃Mq aq cq Mr ar cr,v=.tuple #[.slice aq (digsOf A).length cq,.slice ar (digsOf B).length cr]∧L= [Mq,Mr]∧RSl Mq 1 aq (digsOf A).length cq (u32s (digsOf A))∧(RSl Mr 1 ar (digsOf B).length cr (u32s (digsOf B))∨RSl N 1 ar (digsOf B).length cr (u32s (digsOf B)))
def ModR (N:Heaplet) (V:Nat) (v:Value) (L:List Heaplet):Prop:=
 ∃Q p c,v=.slice p (digsOf V).length c∧L= [Q]∧(RSl Q 1 p (digsOf V).length c (u32s (digsOf V))∨RSl N 1 p (digsOf V).length c (u32s (digsOf V)))
section
variable {N M : Heaplet} {ax bx : Option Addr} {na nb ca cb A B : Nat}
end
section
variable {N M Nm : Heaplet} {bx ex mx : Option Addr} {nb ne nm cb ce cm B E' Mv : Nat}
end
theorem wo_four {x:Nat} (hx:x<WW): ∃a b c d:UInt64,wo x=.agg #[.int .u64 (a.toNat:Int),.int .u64 (b.toNat:Int),.int .u64 (c.toNat:Int),.int .u64 (d.toNat:Int)]∧v64 [a,b,c,d]=x:=by
 obtain⟨a,b,c,d,h⟩:=four (length_wl x)
 have hv:=v64_wl_lt hx
 rw [h]at hv
 exact⟨a,b,c,d,by rw [wo,h];rfl,hv⟩
theorem WBytes_w {x:Nat} (hx:x<WW):Fn Tryz.prog 105 #[wo x] [] [] (fun v L=>v=.agg (u8s (bytesN 32 x)).toArray∧L= []):=by
 obtain⟨a,b,c,d,e,hv⟩:=wo_four hx
 have:=WBytes_f a b c d
 rw [hv, ←e]at this
 exact this
set_option maxRecDepth 100000
theorem Fn.overJ {P:Program} {f:FuncId} {args:Array Value} {Ns:List Heaplet} {Post:Value→List Heaplet→Prop} (h: ∀J,(∀N∈Ns,N.le J)→Fn P f args [] [J] Post):Fn P f args [] Ns Post:=
 fun E w R hw hr=>h R hr E w R hw fun N hN=>by rw [List.mem_singleton.1 hN];exact Heaplet.le_refl _
theorem all8x2 (l:List UInt8):(u8s l).all (·.oneCell')=true:=List.all_eq_true.2 (one_u8s l)
def itS (b:List UInt8):It:=.mk false b []
def itL (l:List It):It:=.mk true [] l
def ivS (a:Option Addr) (n c:Nat):IV:=⟨false,a,n,c,none,0,0⟩
def ivL (a:Option Addr) (n c:Nat):IV:=⟨true,none,0,0,a,n,c⟩
section
variable {J N : Heaplet} {a : Option Addr} {n c : Nat}
theorem ItN_S {b:List UInt8} (h:RSl J 1 a n c (u8s b)):ItN J (itS b) (ivS a n c):=by
 simp only [itS,ItN]
 exact⟨rfl,h,[],RSl.nil J 3,rfl⟩
theorem ItN_L {its:List It} {xs:List IV} (h:RSl J 3 a n c (cellsI xs)) (hx:ItsN J its xs):ItN J (itL its) (ivL a n c):=by
 simp only [itL,ItN]
 exact⟨rfl,RSl.nil J 1,xs,h,hx⟩
theorem ItsN_nil:ItsN J [] []:=rfl
theorem ItsN_cons {t:It} {ts:List It} {x:IV} {xs:List IV} (h:ItN J t x) (k:ItsN J ts xs):ItsN J (t::ts) (x::xs):=⟨x,xs,rfl,h,k⟩
def NumI (x:Nat) (v:Value) (L:List Heaplet):Prop:= ∃M p k,v=.agg #[.bool false,.slice p (bytesOf x).length k,.slice none 0 0]∧L= [M]∧RSl M 1 p (bytesOf x).length k (u8s (bytesOf x))
theorem FOf_b {x:Nat} (hx:x<WW):Fn Tryz.prog 83 #[wo x] [] [] (NumI x):=by
 obtain⟨a,b,c,d,e,hv⟩:=wo_four hx
 have:=Of_f a b c d
 rw [←e]at this
 refine this.mono fun v L h=>?_
 unfold OfP at h
 rw [hv]at h
 obtain⟨M,p,k,h1,h2,h3⟩:=h
 exact⟨M,p,k,h1,h2,h3.rsl⟩
theorem u64_ww (u:UInt64):u.toNat<WW:=Nat.lt_of_lt_of_le u.toNat_lt (by decide)
def StrI (b:List UInt8) (v:Value) (L:List Heaplet):Prop:= ∃M p k,v=.agg #[.bool false,.slice p b.length k,.slice none 0 0]∧L= [M]∧RSl M 1 p b.length k (u8s b)
def FormP (t:It) (v:Value) (L:List Heaplet):Prop:= ∃M p k,v=.slice p t.form.length k∧L= [M]∧Row M 5 1 p t.form.length k (u8s t.form)
def IV.val (x:IV):Value:=.agg #[.bool x.l,.slice x.ab x.nb x.cb,.slice x.ai x.ni x.ci]
def lastA (l:List UInt8):List UInt8:=(kec l).drop 12
end
def nibs (k:List UInt8):List UInt8:=k.flatMap fun c:UInt8=> [c>>>4,c&&&15]
abbrev PR:=List UInt8×List UInt8
def lcp:List UInt8→List UInt8→Nat
 |a::s,b::t=>if a=b then lcp s t+1 else 0
 |_,_=>0
theorem lcp_iff: ∀ {a b:List UInt8} {k:Nat},k≤lcp a b↔k≤a.length∧k≤b.length∧a.take k=b.take k
 | [],b,k=>by
  cases k with
  |zero=>simp
  |succ k=>simp [lcp]
 |x::a,[],k=>by
  cases k with
  |zero=>simp
  |succ k=>simp [lcp]
 |x::a,y::b,k=>by
  cases k with
  |zero=>simp
  |succ k=>
   have ih:=lcp_iff (a:=a) (b:=b) (k:=k)
   by_cases e:x=y
   ·subst e;simp only [lcp,if_true,Nat.add_le_add_iff_right,List.length_cons,List.take_succ_cons,List.cons.injEq,true_and,ih]
   ·simp [lcp,e]
theorem lcp_self (a:List UInt8):lcp a a=a.length:=Nat.le_antisymm (lcp_iff.1 (Nat.le_refl _)).1 (lcp_iff.2 ⟨Nat.le_refl _,Nat.le_refl _,rfl⟩)
def shar:List PR→Nat
 | []=>0
 |p::l=>l.foldl (fun n q=>min n (lcp p.1 q.1)) p.1.length
theorem foldl_min {p:List UInt8} : ∀(l:List PR) (m k:Nat),k≤l.foldl (fun n q=>min n (lcp p q.1)) m↔k≤m∧ ∀q∈l,k≤lcp p q.1
 | [],m,k=>by simp
 |x::l,m,k=>by
  rw [List.foldl_cons,foldl_min l]
  simp only [List.mem_cons,forall_eq_or_imp,Nat.le_min,and_assoc]
theorem shar_iff {l:List PR} {k:Nat} (hl:l≠ []):k≤shar l↔ ∀q∈l, ∀r∈l,k≤lcp q.1 r.1:=by
 cases l with
 |nil=>exact absurd rfl hl
 |cons p l=>
  rw [shar,foldl_min]
  constructor
  ·rintro⟨h1,h2⟩
   have h3: ∀q∈p::l,k≤lcp p.1 q.1:=fun q hq=>by
    rcases List.mem_cons.1 hq with rfl|hq
    ·rw [lcp_self];exact h1
    ·exact h2 q hq
   intro q hq r hr
   obtain⟨a1,a2,a3⟩:=lcp_iff.1 (h3 q hq)
   obtain⟨b1,b2,b3⟩:=lcp_iff.1 (h3 r hr)
   exact lcp_iff.2 ⟨a2,b2,a3.symm.trans b3⟩
  ·intro h
   refine⟨?_,fun q hq=>h p (List.mem_cons_self ..) q (List.mem_cons_of_mem _ hq)⟩
   have:=h p (List.mem_cons_self ..) p (List.mem_cons_self ..)
   rwa [lcp_self]at this
theorem shar_perm {l m:List PR} (h:l.Perm m):shar l=shar m:=by
 cases l with
 |nil=>rw [List.nil_perm.1 h]
 |cons p l=>
  have hm:m≠ []:=fun e=>by rw [e]at h;exact absurd h.length_eq (by simp)
  have hi: ∀k,k≤shar (p::l)↔k≤shar m:=fun k=>by
   rw [shar_iff (by simp),shar_iff hm]
   constructor
   ·intro x q hq r hr;exact x q (h.mem_iff.2 hq) r (h.mem_iff.2 hr)
   ·intro x q hq r hr;exact x q (h.mem_iff.1 hq) r (h.mem_iff.1 hr)
  exact Nat.le_antisymm ((hi _).1 (Nat.le_refl _)) ((hi _).2 (Nat.le_refl _))
def packN:List UInt8→List UInt8
 |a::b::r=>(16*a+b)::packN r
 |_=> []
def cpt (l:List UInt8) (leaf:Bool):List UInt8:=if l.length % 2=1 then packN ((if leaf then 3 else 1)::l)else packN ((if leaf then 2 else 0)::0::l)
def cutR (n:Nat) (l:List PR):List PR:=l.map fun p=>(p.1.drop n,p.2)
def undR (c:UInt8) (l:List PR):List PR:=l.filter fun p=>p.1.head?==some c
def lastV (l:List PR):List UInt8:=(l.foldl (fun v p=>if p.1.length=0 then p.2 else v) [])
def linkI (x:It):It:=if x.form.length<32 then x else itS (kec x.form)
def nodeF:Nat→List PR→It
 |0,_=>itS []
 |f+1,l=>match l with
  | []=>itS []
  | [p]=>itL [itS (cpt p.1 true),itS p.2]
  |p::q::r=>if 0<shar (p::q::r)then itL [itS (cpt (p.1.take (shar (p::q::r))) false),linkI (nodeF f (cutR (shar (p::q::r)) (p::q::r)))]
   else itL ((List.range 16).map (fun c=>linkI (nodeF f (cutR 1 (undR (UInt8.ofNat c) (p::q::r)))))++ [itS (lastV (p::q::r))])
theorem node_ext {f:Nat} {l:List PR} (h2:2≤l.length) (hs:0<shar l):nodeF (f+1) l=itL [itS (cpt ((l.headD ([],[])).1.take (shar l)) false),linkI (nodeF f (cutR (shar l) l))]:=by
 match l,h2 with
 |p::q::r,_=>rw [nodeF,if_pos hs,List.headD_cons]
theorem node_bra {f:Nat} {l:List PR} (h2:2≤l.length) (hs: ¬0<shar l):nodeF (f+1) l=itL ((List.range 16).map (fun c=>linkI (nodeF f (cutR 1 (undR (UInt8.ofNat c) l))))++ [itS (lastV l)]):=by
 match l,h2 with
 |p::q::r,_=>rw [nodeF,if_neg hs]
def Dis (l:List PR):Prop:=(l.map Prod.fst).Nodup
theorem Dis.perm {l m:List PR} (h:Dis l) (p:l.Perm m):Dis m:=(p.map _).nodup_iff.1 h
theorem Dis.eq {l:List PR} (h:Dis l) {p q:PR} (hp:p∈l) (hq:q∈l) (e:p.1=q.1):p=q:=by
 induction l with
 |nil=>cases hp
 |cons x l ih=>
  have hn:=List.nodup_cons.1 h
  rcases List.mem_cons.1 hp with rfl|hp'
  ·rcases List.mem_cons.1 hq with rfl|hq'
   ·rfl
   ·exact absurd (e▸List.mem_map_of_mem hq') hn.1
  ·rcases List.mem_cons.1 hq with rfl|hq'
   ·exact absurd (e▸List.mem_map_of_mem hp') hn.1
   ·exact ih hn.2 hp' hq'
theorem lastV_spec: ∀(l:List PR) (v:List UInt8),(∃p∈l,p.1= []∧l.foldl (fun v p=>if p.1.length=0 then p.2 else v) v=p.2)∨((∀p∈l,p.1≠ [])∧l.foldl (fun v p=>if p.1.length=0 then p.2 else v) v=v)
 | [],v=>.inr ⟨by simp,rfl⟩
 |x::l,v=>by
  rw [List.foldl_cons]
  rcases lastV_spec l (if x.1.length=0 then x.2 else v)with ⟨p,hp,h1,h2⟩|⟨h1,h2⟩
  ·exact .inl ⟨p,List.mem_cons_of_mem _ hp,h1,h2⟩
  ·by_cases hx:x.1.length=0
   ·rw [if_pos hx]at h2⊢
    exact .inl ⟨x,List.mem_cons_self ..,List.eq_nil_of_length_eq_zero hx,h2⟩
   ·rw [if_neg hx]at h2⊢
    exact .inr ⟨fun p hp=>by
     rcases List.mem_cons.1 hp with rfl|hp
     ·exact fun e=>hx (by rw [e];rfl)
     ·exact h1 p hp,h2⟩
theorem lastV_of {l:List PR} (h:Dis l) {p:PR} (hp:p∈l) (e:p.1= []):lastV l=p.2:=by
 rcases lastV_spec l []with ⟨q,hq,h1,h2⟩|⟨h1,_⟩
 ·rw [lastV,h2,h.eq hq hp (h1.trans e.symm)]
 ·exact absurd e (h1 p hp)
theorem lastV_no {l:List PR} (h: ∀p∈l,p.1≠ []):lastV l= []:=by
 rcases lastV_spec l []with ⟨q,hq,h1,h2⟩|⟨_,h2⟩
 ·exact absurd h1 (h q hq)
 ·exact h2
theorem lastV_perm {l m:List PR} (h:Dis l) (p:l.Perm m):lastV l=lastV m:=by
 by_cases k: ∃q∈l,q.1= []
 ·obtain⟨q,hq,e⟩:=k
  rw [lastV_of h hq e,lastV_of (h.perm p) (p.mem_iff.1 hq) e]
 ·have k': ∀q∈l,q.1≠ []:=fun q hq e=>k ⟨q,hq,e⟩
  rw [lastV_no k',lastV_no fun q hq=>k' q (p.mem_iff.2 hq)]
theorem shar_take {l:List PR} {p q:PR} (hp:p∈l) (hq:q∈l) {k:Nat} (hk:k≤shar l):p.1.take k=q.1.take k∧k≤p.1.length:=by
 have:=(shar_iff (List.ne_nil_of_mem hp)).1 hk p hp q hq
 exact⟨(lcp_iff.1 this).2.2,(lcp_iff.1 this).1⟩
theorem nodup_map {α β:Type} {f:α→β} : ∀ {l:List α},l.Nodup→(∀a∈l, ∀b∈l,f a=f b→a=b)→(l.map f).Nodup
 | [],_,_=>by simp
 |x::l,h,hf=>by
  obtain⟨h1,h2⟩:=List.nodup_cons.1 h
  rw [List.map_cons,List.nodup_cons]
  refine⟨fun hm=>?_,nodup_map h2 fun a ha b hb=>hf a (List.mem_cons_of_mem _ ha) b (List.mem_cons_of_mem _ hb)⟩
  obtain⟨y,hy,e⟩:=List.mem_map.1 hm
  exact h1 (hf x (List.mem_cons_self ..) y (List.mem_cons_of_mem _ hy) e.symm▸hy)
theorem Dis.cut {l:List PR} (h:Dis l) {k:Nat} (hk:k≤shar l):Dis (cutR k l):=by
 have e:(cutR k l).map Prod.fst=(l.map Prod.fst).map (List.drop k):=by simp [cutR]
 unfold Dis;rw [e]
 refine nodup_map h fun a ha b hb hab=>?_
 obtain⟨p,hp,rfl⟩:=List.mem_map.1 ha
 obtain⟨q,hq,rfl⟩:=List.mem_map.1 hb
 rw [←List.take_append_drop k p.1, ←List.take_append_drop k q.1,hab,(shar_take hp hq hk).1]
theorem mem_und {c:UInt8} {l:List PR} {p:PR} :p∈undR c l↔p∈l∧ ∃r,p.1=c::r:=by
 rw [undR,List.mem_filter]
 cases h:p.1 with
 |nil=>simp
 |cons x r=>simp only [List.head?_cons,List.cons.injEq,beq_iff_eq,Option.some.injEq];exact⟨fun⟨k,e⟩=>⟨k,r,e,rfl⟩,fun⟨k,_,e,_⟩=>⟨k,e⟩⟩
theorem Dis.und {l:List PR} (h:Dis l) (c:UInt8):Dis (cutR 1 (undR c l)):=by
 have e:(cutR 1 (undR c l)).map Prod.fst=((undR c l).map Prod.fst).map (List.drop 1):=by simp [cutR]
 have h0:Dis (undR c l):=List.Sublist.nodup ((List.filter_sublist).map _) h
 unfold Dis;rw [e]
 refine nodup_map h0 fun a ha b hb hab=>?_
 obtain⟨p,hp,rfl⟩:=List.mem_map.1 ha
 obtain⟨q,hq,rfl⟩:=List.mem_map.1 hb
 obtain⟨_,r,e1⟩:=mem_und.1 hp
 obtain⟨_,s,e2⟩:=mem_und.1 hq
 rw [e1,e2]at hab⊢
 simpa using hab
theorem node_perm: ∀(f:Nat) {l m:List PR},Dis l→l.Perm m→nodeF f l=nodeF f m
 |0,_,_,_,_=>rfl
 |f+1,l,m,hd,hp=>by
  match l with
  | []=>rw [List.nil_perm.1 hp]
  | [p]=>rw [List.singleton_perm.1 hp]
  |p::q::r=>
   have h2:2≤(p::q::r).length:=by simp
   have h2':2≤m.length:=by rw [←hp.length_eq];exact h2
   by_cases hs:0<shar (p::q::r)
   ·rw [node_ext h2 hs,node_ext h2' (shar_perm hp▸hs), ←shar_perm hp,node_perm f (hd.cut (Nat.le_refl _)) (hp.map _)]
    have e:((p::q::r).headD ([],[])).1.take (shar (p::q::r))=(m.headD ([],[])).1.take (shar (p::q::r)):=by
     match m,h2' with
     |x::m,_=>exact(shar_take (List.mem_cons_self ..) (hp.mem_iff.2 (List.mem_cons_self ..)) (Nat.le_refl _)).1
    rw [e];rfl
   ·have e: ∀c:Nat,nodeF f (cutR 1 (undR (UInt8.ofNat c) (p::q::r)))=nodeF f (cutR 1 (undR (UInt8.ofNat c) m)):=fun c=>node_perm f (hd.und _) ((hp.filter _).map _)
    rw [node_bra h2 hs,node_bra h2' (shar_perm hp▸hs),lastV_perm hd hp,funext fun c=>congrArg linkI (e c)]
theorem u8_lt_or {x y:UInt8} (h1: ¬x<y) (h2:x≠y):y<x:=by
 rw [UInt8.lt_iff_toNat_lt]at*
 rw [Ne, ←UInt8.toNat_inj]at h2
 omega
theorem u8_le_anti {x y:UInt8} (h1: ¬x<y) (h2: ¬y<x):x=y:=Classical.byContradiction fun e=>h2 (u8_lt_or h1 e)
theorem lex_mid: ∀ {k:Nat} {a b c:List UInt8}, ¬b<a→ ¬c<b→k≤lcp a c→k≤lcp a b
 |0,_,_,_,_,_,_=>Nat.zero_le _
 |k+1,[],b,c,_,_,h=>by simp [lcp]at h
 |k+1,x::a,b,[],_,_,h=>by simp [lcp]at h
 |k+1,x::a,[],z::c,h1,_,_=>absurd (List.nil_lt_cons x a) h1
 |k+1,x::a,y::b,z::c,h1,h2,h=>by
  by_cases e:x=z
  ·subst e
   rw [lcp,if_pos rfl]at h
   rw [List.cons_lt_cons_iff]at h1 h2
   have exy:x=y:=u8_le_anti (fun k=>h2 (.inl k)) (fun k=>h1 (.inl k))
   subst exy
   rw [lcp,if_pos rfl]
   have:=lex_mid (fun k=>h1 (.inr ⟨rfl,k⟩)) (fun k=>h2 (.inr ⟨rfl,k⟩)) (Nat.le_of_succ_le_succ h)
   omega
  ·rw [lcp,if_neg e]at h;omega
theorem lex_asymm: ∀ {a b:List UInt8},a<b→ ¬b<a
 | [],b,_=>List.not_lt_nil b
 |x::a,[],h=>absurd h (List.not_lt_nil _)
 |x::a,y::b,h=>by
  rw [List.cons_lt_cons_iff]at h⊢
  rintro(k|⟨e,k⟩)
  ·rcases h with h|⟨e,_⟩
   ·rw [UInt8.lt_iff_toNat_lt]at*;omega
   ·subst e;rw [UInt8.lt_iff_toNat_lt]at k;omega
  ·subst e
   rcases h with h|⟨_,h⟩
   ·rw [UInt8.lt_iff_toNat_lt]at h;omega
   ·exact lex_asymm h k
def Ris (l:List PR):Prop:=l.Pairwise fun p q=>p.1<q.1
theorem lex_ne {a b:List UInt8} (h:a<b):a≠b:=fun e=>by subst e;exact lex_asymm h h
theorem Ris.dis {l:List PR} (h:Ris l):Dis l:=by
 unfold Dis List.Nodup
 rw [List.pairwise_map]
 exact h.imp fun k=>lex_ne k
theorem shar_ends {l:List PR} (h:Ris l) (p q:PR) (hp:l.head?=some p) (hq:l.getLast?=some q):shar l=lcp p.1 q.1:=by
 obtain⟨m,rfl⟩: ∃m,l=p::m:=by
  cases l with
  |nil=>cases hp
  |cons x m=>exact⟨m,by rw [Option.some.inj hp]⟩
 have hq':q∈p::m:=List.mem_of_getLast? hq
 apply Nat.le_antisymm
 ·exact(shar_iff (by simp)).1 (Nat.le_refl _) p (List.mem_cons_self ..) q hq'
 ·have key: ∀r∈p::m,lcp p.1 q.1≤lcp p.1 r.1:=fun r hr=>by
   refine lex_mid (c:=q.1) ?_ ?_ (Nat.le_refl _)
   ·rcases List.mem_cons.1 hr with rfl|hr
    ·exact fun k=>lex_asymm k k
    ·exact lex_asymm ((List.pairwise_cons.1 h).1 r hr)
   ·obtain⟨s,hs⟩: ∃s,p::m=s++ [q]:=by
     have hl:=List.getLast?_eq_some_iff.1 hq
     exact hl
    rw [hs]at hr h
    rcases List.mem_append.1 hr with hr|hr
    ·exact lex_asymm ((List.pairwise_append.1 h).2.2 r hr q (by simp))
    ·rw [List.mem_singleton.1 hr];exact fun k=>lex_asymm k k
  refine(shar_iff (by simp)).2 fun r hr s hs=>?_
  obtain⟨a1,a2,a3⟩:=lcp_iff.1 (key r hr)
  obtain⟨b1,b2,b3⟩:=lcp_iff.1 (key s hs)
  exact lcp_iff.2 ⟨a2,b2,a3.symm.trans b3⟩
theorem lex_drop: ∀ {k:Nat} {a b:List UInt8},a<b→k≤lcp a b→a.drop k<b.drop k
 |0,_,_,h,_=>h
 |k+1,[],b,_,hk=>by simp [lcp]at hk
 |k+1,x::a,[],_,hk=>by simp [lcp]at hk
 |k+1,x::a,y::b,h,hk=>by
  by_cases e:x=y
  ·subst e
   rw [lcp,if_pos rfl]at hk
   rw [List.cons_lt_cons_iff]at h
   rcases h with h|⟨_,h⟩
   ·rw [UInt8.lt_iff_toNat_lt]at h;omega
   ·show a.drop k<b.drop k
    exact lex_drop h (by omega)
  ·rw [lcp,if_neg e]at hk;omega
theorem Ris.cut {l:List PR} (h:Ris l) {k:Nat} (hk: ∀p∈l, ∀q∈l,k≤lcp p.1 q.1):Ris (cutR k l):=by
 unfold Ris cutR
 rw [List.pairwise_map]
 exact List.Pairwise.imp_of_mem (fun {p q} hp hq hlt=>lex_drop hlt (hk p hp q hq)) h
theorem Ris.cuts {l:List PR} (h:Ris l):Ris (cutR (shar l) l):=by
 cases l with
 |nil=>exact List.Pairwise.nil
 |cons p l=>exact h.cut ((shar_iff (by simp)).1 (Nat.le_refl _))
theorem Ris.und {l:List PR} (h:Ris l) (c:UInt8):Ris (cutR 1 (undR c l)):=by
 refine Ris.cut (List.Pairwise.filter _ h) fun p hp q hq=>?_
 obtain⟨_,r,e1⟩:=mem_und.1 hp
 obtain⟨_,s,e2⟩:=mem_und.1 hq
 rw [e1,e2]
 exact lcp_iff.2 ⟨by simp,by simp,by simp⟩
theorem nibs_cons (c:UInt8) (k:List UInt8):nibs (c::k)=(c>>>4)::(c&&&15)::nibs k:=rfl
theorem nib_hi (c:UInt8):(c>>>4).toNat=c.toNat/16:=by
 rw [UInt8.toNat_shiftRight,show(4:UInt8).toNat % 8=4 from rfl,Nat.shiftRight_eq_div_pow]
theorem nib_lo (c:UInt8):(c&&&15).toNat=c.toNat % 16:=by
 rw [UInt8.toNat_and]
 exact Nat.and_two_pow_sub_one_eq_mod c.toNat 4
theorem nibs_lt: ∀ {a b:List UInt8},a<b→nibs a<nibs b
 | [],[],h=>absurd h (List.not_lt_nil _)
 | [],y::b,_=>List.nil_lt_cons _ _
 |x::a,[],h=>absurd h (List.not_lt_nil _)
 |x::a,y::b,h=>by
  rw [List.cons_lt_cons_iff]at h
  rw [nibs_cons,nibs_cons,List.cons_lt_cons_iff,List.cons_lt_cons_iff]
  have e1:=nib_hi x;have e2:=nib_hi y;have e3:=nib_lo x;have e4:=nib_lo y
  rcases h with h|⟨e,h⟩
  ·rw [UInt8.lt_iff_toNat_lt]at h
   by_cases k:x.toNat/16=y.toNat/16
   ·refine .inr ⟨by rw [←UInt8.toNat_inj,e1,e2,k],.inl ?_⟩
    rw [UInt8.lt_iff_toNat_lt,e3,e4];omega
   ·refine .inl ?_
    rw [UInt8.lt_iff_toNat_lt,e1,e2];omega
  ·subst e
   exact .inr ⟨rfl,.inr ⟨rfl,nibs_lt h⟩⟩
theorem nibs_inj {a b:List UInt8} (h:nibs a=nibs b):a=b:=by
 induction a generalizing b with
 |nil=>cases b with
  |nil=>rfl
  |cons y b=>cases h
 |cons x a ih=>cases b with
  |nil=>cases h
  |cons y b=>
   rw [nibs_cons,nibs_cons,List.cons.injEq,List.cons.injEq]at h
   obtain⟨h1,h2,h3⟩:=h
   rw [ih h3]
   have e1:=nib_hi x;have e2:=nib_hi y;have e3:=nib_lo x;have e4:=nib_lo y
   rw [h1]at e1;rw [h2]at e3
   rw [show x=y from by rw [←UInt8.toNat_inj];omega]
theorem nibs_length (k:List UInt8):(nibs k).length=2*k.length:=by
 induction k with
 |nil=>rfl
 |cons x k ih=>rw [nibs_cons];simp only [List.length_cons,ih];omega
def prs (l:List PR):List PR:=l.map fun p=>(nibs p.1,p.2)
theorem Ris.prs {l:List PR} (h:Ris l):Ris (prs l):=by
 unfold Ris Go.Proofs.YtalmjkcapecpiaaGreat.prs
 rw [List.pairwise_map]
 exact List.Pairwise.imp (fun k=>nibs_lt k) h
theorem Dis.prs {l:List PR} (h:Dis l):Dis (prs l):=by
 have e:(Go.Proofs.YtalmjkcapecpiaaGreat.prs l).map Prod.fst=(l.map Prod.fst).map nibs:=by simp [Go.Proofs.YtalmjkcapecpiaaGreat.prs]
 unfold Dis;rw [e]
 exact nodup_map h fun a _ b _ hab=>nibs_inj hab
def SplV (N:Heaplet) (r:Option (Bool×List UInt8×List UInt8)) (v:Value):Prop:=match r with
 |none=>v=.tuple #[.bool false,.slice none 0 0,.slice none 0 0,.int .i64 2]
 |some (isL,p,q)=> ∃a1 c1 a2 c2,v=.tuple #[.bool isL,.slice a1 p.length c1,.slice a2 q.length c2,.int .i64 0]∧RSl N 1 a1 p.length c1 (u8s p)∧RSl N 1 a2 q.length c2 (u8s q)
theorem ofNat8 {n:Nat} (h:n<256):(UInt8.ofNat n).toNat=n:=by rw [UInt8.toNat_ofNat'];exact Nat.mod_eq_of_lt h
theorem bytesOf_ne {n:Nat} (h:n≠0): ∃x t,bytesOf n=x::t∧x.toNat≠0:=by
 have h1:=head_bytesOf n
 cases hb:bytesOf n with
 |nil=>
  have e:=be_bytesOf n
  rw [hb,be_nil]at e
  exact absurd e.symm h
 |cons x t=>
  rw [hb]at h1
  exact⟨x,t,rfl,fun e=>h1 (by simp only [List.head?_cons,Option.some.injEq];rw [←UInt8.toNat_inj];exact e)⟩
theorem cut_head {base:Nat} {p rest:List UInt8} (hb:base=128∨base=192) (hn:p.length<2^64) (hs:base=128→small p=false):
 cutF (rlpHead base p.length++(p++rest))=some (decide (base=192),p,rest):=by
 by_cases h55:p.length≤55
 ·have hx:=ofNat8 (n:=base+p.length) (by omega)
  have e:rlpHead base p.length++(p++rest)=UInt8.ofNat (base+p.length)::(p++rest):=by rw [rlpHead,if_pos h55,List.singleton_append]
  rw [e]
  generalize hxx:UInt8.ofNat (base+p.length)=x at hx
  have hd:hdr (x::(p++rest))=p.length:=by
   show(x.toNat- 128) % 64=p.length
   rw [hx];omega
  have h0:((x::(p++rest)).getD 0 0).toNat=base+p.length:=hx
  rw [cutF,if_neg (by simp),if_neg (by rw [h0];omega),if_pos (by rw [hd];exact h55),hd,cutAt,if_neg (by simp<;>omega)]
  have e1:((x::(p++rest)).drop 1).take p.length=p:=by simp
  have e2:(x::(p++rest)).drop (1+p.length)=rest:=by rw [Nat.add_comm,List.drop_succ_cons];simp
  rw [e1,e2,h0]
  rcases hb with rfl|rfl
  ·rw [if_neg (by omega),if_neg]
   ·rfl
   ·intro⟨h1,h2⟩
    have:=hs rfl
    rw [←Bool.not_eq_true,small_iffI]at this
    apply this
    refine⟨h1,?_⟩
    match p,h1 with
    | [y],_=>exact h2
  ·rw [if_pos (by omega)];rfl
 ·obtain⟨y,t,hB,hy⟩:=bytesOf_ne (n:=p.length) (by omega)
  have hk:=byteLen8 hn
  have hbe:=be_bytesOf p.length
  have e:rlpHead base p.length++(p++rest)=UInt8.ofNat (base+55+(bytesOf p.length).length)::(bytesOf p.length++(p++rest)):=by rw [rlpHead,if_neg h55];rfl
  rw [e]
  generalize hBB:bytesOf p.length=B at*
  have hk1:1≤B.length:=by rw [hB];simp
  have hx:=ofNat8 (n:=base+55+B.length) (by omega)
  generalize hxx:UInt8.ofNat (base+55+B.length)=x at hx
  have hd:hdr (x::(B++(p++rest)))=55+B.length:=by
   show(x.toNat- 128) % 64=55+B.length
   rw [hx];omega
  have h0:((x::(B++(p++rest))).getD 0 0).toNat=base+55+B.length:=hx
  have h1:((x::(B++(p++rest))).getD 1 0).toNat≠0:=by rw [hB];exact hy
  have hl:lng (x::(B++(p++rest)))=p.length:=by
   rw [lng,hd,show 55+B.length- 54- 1=B.length by omega]
   have:((x::(B++(p++rest))).drop 1).take B.length=B:=by simp
   rw [this,hbe]
  rw [cutF,if_neg (by simp),if_neg (by rw [h0];omega),if_neg (by rw [hd];omega),if_neg (by rw [hd];intro h;rcases h with h|h;(simp at h;omega);exact h1 h),if_neg (by rw [hl];simp;omega),hl,hd,cutAt,if_neg (by simp<;>omega),h0]
  have e1:((x::(B++(p++rest))).drop (55+B.length- 54)).take p.length=p:=by
   rw [show 55+B.length- 54=B.length+1 by omega,List.drop_succ_cons];simp
  have e2:(x::(B++(p++rest))).drop (55+B.length- 54+p.length)=rest:=by
   rw [show 55+B.length- 54+p.length=(B.length+p.length)+1 by omega,List.drop_succ_cons, ←List.drop_drop];simp
  rw [e1,e2]
  rcases hb with rfl|rfl
  ·rw [if_neg (by omega),if_neg (by omega)];rfl
  ·rw [if_pos (by omega)];rfl
theorem cut_small {x:UInt8} {rest:List UInt8} (h:x.toNat<128):cutF (x::rest)=some (false,[x],rest):=by
 rw [cutF,if_neg (by simp),if_pos (by exact h)];rfl
mutual
def It.plain:It→It
 |.mk false bs _=>.mk false bs []
 |.mk true _ its=>.mk true [] (It.plains its)
def It.plains:List It→List It
 | []=> []
 |t::ts=>It.plain t::It.plains ts
end
theorem form_pos (t:It):0<t.form.length:=by
 obtain⟨l,bs,its⟩:=t
 cases l with
 |false=>
  rw [form_false]
  split
  ·rename_i h
   have:=(small_iffI.1 h).1
   omega
  ·rw [List.length_append]
   have:0<(rlpHead 128 bs.length).length:=by unfold rlpHead;split<;>simp
   omega
 |true=>
  rw [form_true,List.length_append]
  have:0<(rlpHead 192 (It.forms its).length).length:=by unfold rlpHead;split<;>simp
  omega
theorem cut_text {bs:List UInt8} {its:List It} {rest:List UInt8} (h:(It.mk false bs its).form.length<2^64):cutF ((It.mk false bs its).form++rest)=some (false,bs,rest):=by
 rw [form_false]at h⊢
 split at h
 ·rename_i hsm
  rw [if_pos hsm]
  obtain⟨h1,h2⟩:=small_iffI.1 hsm
  match bs,h1 with
  | [x],_=>exact cut_small h2
 ·rename_i hsm
  rw [if_neg hsm,List.append_assoc]
  rw [List.length_append]at h
  rw [cut_head (.inl rfl) (by omega) (fun _=>by simpa using hsm)]
  rfl
theorem cut_list {bs:List UInt8} {its:List It} {rest:List UInt8} (h:(It.mk true bs its).form.length<2^64):cutF ((It.mk true bs its).form++rest)=some (true,It.forms its,rest):=by
 rw [form_true]at h⊢
 rw [List.length_append]at h
 rw [List.append_assoc,cut_head (.inr rfl) (by omega) (fun h=>absurd h (by decide))]
 rfl
mutual
theorem dec_form: ∀(t:It) (k:Nat) (rest:List UInt8),t.form.length<2^64→t.depth≤k→decF k (t.form++rest)=.ok (t.plain,rest)
 |.mk false bs its,k,rest,h,hd=>by
  cases k<;>simp [decF,cut_text h,It.plain]
 |.mk true bs its,k,rest,h,hd=>by
  simp only [It.depth]at hd
  obtain⟨k,rfl⟩: ∃j,k=j+1:=⟨k- 1,by omega⟩
  have hl:(It.forms its).length<2^64:=by rw [form_true,List.length_append]at h;omega
  simp only [decF,cut_list h,It.plain]
  rw [itF,dec_forms its k _ hl (by omega) (Nat.le_refl _)]
theorem dec_forms: ∀(ts:List It) (k f:Nat),(It.forms ts).length<2^64→It.depths ts≤k→(It.forms ts).length≤f→itemsF (decF k) f (It.forms ts)=.ok (It.plains ts)
 | [],k,f,_,_,_=>by cases f<;>simp [It.forms,itemsF,It.plains]
 |t::ts,k,f,h,hd,hf=>by
  have hp:=form_pos t
  simp only [It.forms,List.length_append]at h hf⊢
  simp only [It.depths]at hd
  have e:=dec_form t k (It.forms ts) (by omega) (by omega)
  obtain⟨f,rfl⟩: ∃j,f=j+1:=⟨f- 1,by omega⟩
  have e2:=dec_forms ts k f (by omega) (by omega) (by omega)
  cases hc:t.form++It.forms ts with
  |nil=>
   have:=congrArg List.length hc
   simp at this
   rw [this.1]at hp
   simp at hp
  |cons c b=>
   rw [itemsF, ←hc,e]
   simp only [e2,exMap,It.plains]
end
def hf (l:Bool) (p:List UInt8):List UInt8:=if l then rlpHead 192 p.length++p else if small p then p else rlpHead 128 p.length++p
open Go Go.RowKit
mutual
def sizeT:It→Nat
 |.mk _ bs its=>9+bs.length+sizesT its
def sizesT:List It→Nat
 | []=>0
 |t::ts=>sizeT t+sizesT ts
end
mutual
theorem form_size: ∀t:It,sizeT t<256^8→t.form.length≤sizeT t
 |.mk false bs its,h=>by
  simp only [sizeT]at h⊢
  rw [form_false]
  split
  ·omega
  ·have:=rlpHead_le 128 bs.length (by omega)
   rw [List.length_append];omega
 |.mk true bs its,h=>by
  simp only [sizeT]at h⊢
  have:=forms_size its (by omega)
  have h9:=rlpHead_le 192 (It.forms its).length (by omega)
  rw [form_true,List.length_append];omega
theorem forms_size: ∀ts:List It,sizesT ts<256^8→(It.forms ts).length≤sizesT ts
 | [],_=>by simp [It.forms,sizesT]
 |t::ts,h=>by
  simp only [sizesT]at h⊢
  have h1:=form_size t (by omega)
  have h2:=forms_size ts (by omega)
  rw [It.forms,List.length_append];omega
end
def TwinP (bl deep left:Nat) (v:Value) (L:List Heaplet):Prop:=
 ∃Nl M, ∃y:IV, ∃t' left',v=.agg #[.bool y.l,.slice y.ab y.nb y.cb,.slice y.ai y.ni y.ci]∧L= [Nl,M]∧Blk Nl bl 3 [.int .i64 ((left':Nat):Int)]∧ItN M t' y∧t'.depth≤deep+1∧sizeT t'≤409*(left- left')∧left'<left
open Go Go.RowKit
open Go Go.RowKit
open Go Go.RowKit
def It.bytes:It→List UInt8
 |.mk _ bs _=>bs
def It.items:It→List It
 |.mk _ _ its=>its
def slB (x:IV):Value:=.slice x.ab x.nb x.cb
mutual
def DepB (M:Heaplet):It→IV→Prop
 |.mk _ _ its,x=> ∃xs,RSl M 3 x.ai x.ni x.ci (cellsI xs)∧Bag 5 M (xs.map slB) (its.map It.bytes)∧DepBs M its xs
def DepBs (M:Heaplet):List It→List IV→Prop
 | [],xs=>xs= []
 |t::ts,xs=> ∃x r,xs=x::r∧DepB M t x∧DepBs M ts r
end
mutual
theorem DepB.le {N M:Heaplet} (hl:N.le M): ∀ {t:It} {x:IV},DepB N t x→DepB M t x
 |.mk l bs its,x,h=>by
  simp only [DepB]at h⊢
  obtain⟨xs,h1,h2,h3⟩:=h
  exact⟨xs,h1.le hl,h2.le hl,DepBs.le hl h3⟩
theorem DepBs.le {N M:Heaplet} (hl:N.le M): ∀ {ts:List It} {xs:List IV},DepBs N ts xs→DepBs M ts xs
 | [],xs,h=>by simp only [DepBs]at h⊢;exact h
 |t::ts,xs,h=>by
  simp only [DepBs]at h⊢
  obtain⟨x,r,h1,h2,h3⟩:=h
  exact⟨x,r,h1,DepB.le hl h2,DepBs.le hl h3⟩
end
theorem DepBs.nil (M:Heaplet):DepBs M [] []:=by simp only [DepBs]
theorem DepBs.snoc {M:Heaplet} : ∀ {ts:List It} {xs:List IV} {t:It} {x:IV},DepBs M ts xs→DepB M t x→DepBs M (ts++ [t]) (xs++ [x])
 | [],xs,t,x,h,k=>by
  simp only [DepBs]at h
  subst h
  show DepBs M [t] [x]
  simp only [DepBs]
  exact⟨x,[],rfl,k,rfl⟩
 |u::ts,xs,t,x,h,k=>by
  simp only [DepBs]at h
  obtain⟨y,r,rfl,h2,h3⟩:=h
  show DepBs M (u::(ts++ [t])) (y::(r++ [x]))
  simp only [DepBs]
  exact⟨y,r++ [x],rfl,h2,DepBs.snoc h3 k⟩
def OwnTop (M:Heaplet) (t:It) (x:IV):Prop:=DepB M t x∧ ∃NB NR NS xs,[NB,NR,NS].Pairwise Apart∧M=joinL [NB,NR,NS]∧Row NB 5 1 x.ab x.nb x.cb (u8s t.bytes)∧Row NR 137 3 x.ai x.ni x.ci (cellsI xs)∧xs.length=x.ni∧Bag 5 NS (xs.map slB) (t.items.map It.bytes)
def Small (t:It) (n:Nat):Prop:=t.bytes.length≤n∧ ∀u∈t.items,u.bytes.length≤n
theorem OwnTop.row {M:Heaplet} {t:It} {x:IV} (h:OwnTop M t x):Row M 5 1 x.ab x.nb x.cb (u8s t.bytes):=by
 obtain⟨_,NB,NR,NS,xs,h1,rfl,h3,_⟩:=h
 exact h3.le (le_joinL h1 (by simp))
theorem Bag.more {Ns M:Heaplet} {done:List It} {xs:List IV} {t:It} {x:IV} (h:Bag 5 Ns (xs.map slB) (done.map It.bytes)) (hr:Row M 5 1 x.ab x.nb x.cb (u8s t.bytes)) (ha:Apart Ns M):Bag 5 (join2 Ns M) ((xs++ [x]).map slB) ((done++ [t]).map It.bytes):=by
 have hl:t.bytes.length=x.nb:=by have:=hr.1;simpa using this
 have h2:Row M 5 1 x.ab t.bytes.length x.cb (u8s t.bytes):=by rw [hl];exact hr
 have:=h.snoc h2 ha.symm
 rw [List.map_append,List.map_append]
 show Bag _ _ (xs.map slB++ [slB x]) (done.map It.bytes++ [t.bytes])
 rw [slB, ←hl]
 refine this.le ?_
 intro k o hk
 simp only [join2]at hk⊢
 rcases ha k with h0|h0
 ·rw [h0];rw [h0]at hk
  cases hm:M k with
  |none=>rw [hm]at hk;cases hk
  |some o'=>rw [hm]at hk;simpa using hk
 ·rw [h0]at hk
  cases hn:Ns k with
  |none=>rw [hn]at hk;cases hk
  |some o'=>rw [hn]at hk;simpa using hk
def DecO (ao:Option Addr) (n cap:Nat) (b:List UInt8) (r:Except Nat (It×List UInt8)) (v:Value) (L:List Heaplet):Prop:=
 (∃t q M, ∃x:IV, ∃aq cq,r=.ok (t,q)∧v=.tuple #[.agg #[.bool x.l,.slice x.ab x.nb x.cb,.slice x.ai x.ni x.ci],.slice aq q.length cq,.int .i64 0]∧L= [M]∧ItN M t x∧OwnTop M t x∧Small t b.length∧ ∀N,RSl N 1 ao n cap (u8s b)→RSl N 1 aq q.length cq (u8s q))∨
 (∃e:Nat,r=.error e∧v=.tuple #[.agg #[.bool false,.slice none 0 0,.slice none 0 0],.slice none 0 0,.int .i64 (e:Int)]∧L= []∧e≠0)
def DecodeO (nb:Nat) (r:Except Nat It) (v:Value) (L:List Heaplet):Prop:=
 (∃t M, ∃x:IV,r=.ok t∧v=.tuple #[.agg #[.bool x.l,.slice x.ab x.nb x.cb,.slice x.ai x.ni x.ci],.int .i64 0]∧L= [M]∧ItN M t x∧OwnTop M t x∧Small t nb)∨
 (∃e:Nat,r=.error e∧v=.tuple #[.agg #[.bool false,.slice none 0 0,.slice none 0 0],.int .i64 (e:Int)]∧L= []∧e≠0)
def DecW (nb:Nat) (v:Value) (L:List Heaplet):Prop:= ∃x:IV, ∃e:Int, ∃NB NR NS bb xs bbs,v=.tuple #[.agg #[.bool x.l,.slice x.ab x.nb x.cb,.slice x.ai x.ni x.ci],.int .i64 e]∧L= [NB,NR,NS]∧Row NB 5 1 x.ab x.nb x.cb (u8s bb)∧Row NR 137 3 x.ai x.ni x.ci (cellsI xs)∧xs.length=x.ni∧Bag 5 NS (xs.map slB) bbs∧bb.length≤nb∧ ∀u∈bbs,u.length≤nb
open Go Go.RowKit
def Nib (l:List UInt8):Prop:= ∀x∈l,x.toNat<16
theorem nibs_nib: ∀(k:List UInt8),Nib (nibs k)
 | [],x,hx=>by cases hx
 |c::k,x,hx=>by
  rw [nibs_cons]at hx
  have h:=c.toNat_lt
  rcases List.mem_cons.1 hx with rfl|hx
  ·rw [nib_hi];omega
  ·rcases List.mem_cons.1 hx with rfl|hx
   ·rw [nib_lo];omega
   ·exact nibs_nib k x hx
theorem Nib.drop {l:List UInt8} (h:Nib l) (k:Nat):Nib (l.drop k):=fun x hx=>h x (List.mem_of_mem_drop hx)
theorem Nib.take {l:List UInt8} (h:Nib l) (k:Nat):Nib (l.take k):=fun x hx=>h x (List.mem_of_mem_take hx)
theorem nib_two {a b:UInt8} (ha:a.toNat<16) (hb:b.toNat<16):(16*a+b).toNat=16*a.toNat+b.toNat:=by
 rw [UInt8.toNat_add,UInt8.toNat_mul,show(16:UInt8).toNat=16 from rfl]
 omega
theorem pack_len: ∀(l:List UInt8),(packN l).length=l.length/2
 | []=>rfl
 | [a]=>by simp [packN]
 |a::b::r=>by rw [packN,List.length_cons,pack_len r];simp only [List.length_cons];omega
def expF (b:List UInt8):Option (List UInt8×Bool):=
 if b= []∨3<((nibs b).getD 0 0).toNat∨(((nibs b).getD 0 0).toNat % 2=0∧((nibs b).getD 1 0).toNat≠0)then none
 else some (if ((nibs b).getD 0 0).toNat % 2=1 then (nibs b).drop 1 else (nibs b).drop 2,decide (1<((nibs b).getD 0 0).toNat))
theorem cpt_len (l:List UInt8) (leaf:Bool):(cpt l leaf).length=l.length/2+1:=by
 unfold cpt
 split
 ·rw [pack_len];simp only [List.length_cons];omega
 ·rw [pack_len];simp only [List.length_cons];omega
def isL:It→Bool
 |.mk l _ _=>l
def innerI (t:It):Bool:=isL t ||t.bytes.length==0 ||t.bytes.length==32
def branF (its:List It) (row:List UInt8):Option (List UInt8⊕It×List UInt8):=
 if isL (its.getD 16 (itS []))=true∨ ∃t∈its.take 16,innerI t=false then none else match row with
  | []=>some (.inl (its.getD 16 (itS [])).bytes)
  |c::r=>some (.inr (its.getD c.toNat (itS []),r))
def twoF (a s:It) (row:List UInt8):Option (List UInt8⊕It×List UInt8):=if isL a=true then none else match expF a.bytes with
 |none=>none
 |some (path,leaf)=>if (leaf=true∧(isL s=true∨s.bytes= []))∨(leaf=false∧innerI s=false)then none
  else if leaf=true∧path=row then some (.inl s.bytes)else if leaf=true∨ ¬path<+:row then some (.inl [])else some (.inr (s,row.drop path.length))
def atF (x:It) (row:List UInt8):Option (List UInt8⊕It×List UInt8):=if isL x=false then none else match x.items with
 | [a,s]=>twoF a s row
 |its=>if its.length=17 then branF its row else none
def nextF (h:List UInt8):List (List UInt8)→Option (It×List (List UInt8))
 | []=>none
 |b::q=>match decodeF b with
  |.ok x=>if kec b=h then some (x,q)else none
  |.error _=>none
def goL (go:It→List UInt8→List (List UInt8)→Option (List UInt8×List (List UInt8))) (y:It) (row:List UInt8) (q:List (List UInt8)):Option (List UInt8×List (List UInt8)):=
 if isL y=true then go y row q else if y.bytes= []then some ([],q)else match nextF y.bytes q with
  |none=>none
  |some (x,q')=>go x row q'
def goF:Nat→It→List UInt8→List (List UInt8)→Option (List UInt8×List (List UInt8))
 |0,_,_,_=>none
 |g+1,x,row,q=>match atF x row with
  |none=>none
  |some (.inl v)=>some (v,q)
  |some (.inr (y,row'))=>goL (goF g) y row' q
def getR (l:List PR) (row:List UInt8):Option (List UInt8):=(l.find? fun p=>p.1==row).map Prod.snd
theorem get_iff {l:List PR} (h:Dis l) {row v:List UInt8} :getR l row=some v↔(row,v)∈l:=by
 unfold getR
 constructor
 ·intro k
  cases hf:l.find? fun p=>p.1==row with
  |none=>rw [hf]at k;cases k
  |some p=>
   rw [hf]at k
   have h1:=List.mem_of_find?_eq_some hf
   have h2:=List.find?_some hf
   simp only [beq_iff_eq]at h2
   simp only [Option.map_some,Option.some.injEq]at k
   rw [←h2, ←k];exact h1
 ·intro k
  cases hf:l.find? fun p=>p.1==row with
  |none=>
   have:=List.find?_eq_none.1 hf _ k
   simp at this
  |some p=>
   have h1:=List.mem_of_find?_eq_some hf
   have h2:=List.find?_some hf
   simp only [beq_iff_eq]at h2
   rw [h.eq h1 k h2];rfl
theorem get_ext {l m:List PR} (hl:Dis l) (hm:Dis m) {r s:List UInt8} (h: ∀v,(r,v)∈l↔(s,v)∈m):getR l r=getR m s:=by
 refine Option.ext fun v=>?_
 show getR l r=some v↔getR m s=some v
 rw [get_iff hl,get_iff hm];exact h v
theorem get_none {l:List PR} {row:List UInt8} (h: ∀p∈l,p.1≠row):getR l row=none:=by
 unfold getR
 rw [List.find?_eq_none.2 fun p hp=>by simpa using h p hp];rfl
def stepF (l:List PR) (row:List UInt8):Option (List PR×List UInt8):=
 if l.length<2 then none else if 0<shar l then (if (l.headD ([],[])).1.take (shar l)<+:row then some (cutR (shar l) l,row.drop (shar l))else none)else match row with
  | []=>none
  |c::r=>if cutR 1 (undR c l)= []then none else some (cutR 1 (undR c l),r)
def proveF:Nat→List PR→List UInt8→List (List UInt8)
 |0,_,_=> []
 |f+1,l,row=>match stepF l row with
  |none=> []
  |some (m,r)=>(if 32≤(nodeF f m).form.length then [(nodeF f m).form]else [])++proveF f m r
structure Fit (f:Nat) (l:List PR):Prop where
 len: ∀p∈l,p.1.length<f
 nib: ∀p∈l,Nib p.1
 val: ∀p∈l,p.2≠ []
 sml: ∀p∈l,p.1.length≤1000000∧p.2.length≤1000000
theorem Fit.cut {f:Nat} {l:List PR} (h:Fit (f+1) l) {k:Nat} (hk:k≤shar l) (h0:0<k):Fit f (cutR k l):=by
 refine⟨fun p hp=>?_,fun p hp=>?_,fun p hp=>?_,fun p hp=>?_⟩
 all_goals (obtain⟨x,hx,rfl⟩:=List.mem_map.1 hp)
 ·have h1:=h.len x hx
  have h2:=(shar_take hx hx hk).2
  simp only [List.length_drop];omega
 ·exact(h.nib x hx).drop k
 ·exact h.val x hx
 ·have:=h.sml x hx
  simp only [List.length_drop];omega
theorem Fit.und {f:Nat} {l:List PR} (h:Fit (f+1) l) (c:UInt8):Fit f (cutR 1 (undR c l)):=by
 refine⟨fun p hp=>?_,fun p hp=>?_,fun p hp=>?_,fun p hp=>?_⟩
 all_goals (obtain⟨x,hx,rfl⟩:=List.mem_map.1 hp;obtain⟨h1,r,h2⟩:=mem_und.1 hx)
 ·have:=h.len x h1
  rw [h2]at this⊢
  simp only [List.length_cons,List.drop_succ_cons,List.drop_zero]at this⊢;omega
 ·exact(h.nib x h1).drop 1
 ·exact h.val x h1
 ·have:=h.sml x h1
  simp only [List.length_drop];omega
mutual
theorem depth_form: ∀t:It,t.depth≤t.form.length
 |.mk false bs its=>by rw [It.depth];exact Nat.zero_le _
 |.mk true bs its=>by
  rw [It.depth,form_true,List.length_append]
  have:=depths_form its
  have:0<(rlpHead 192 (It.forms its).length).length:=by unfold rlpHead;split<;>simp
  omega
theorem depths_form: ∀ts:List It,It.depths ts≤(It.forms ts).length
 | []=>by simp [It.depths]
 |t::ts=>by
  rw [It.depths,It.forms,List.length_append]
  have:=depth_form t
  have:=depths_form ts
  omega
end
theorem link_depth (x:It):(linkI x).depth≤31:=by
 unfold linkI;split
 ·have:=depth_form x;omega
 ·simp [itS,It.depth]
theorem node_depth (f:Nat) (l:List PR):(nodeF f l).depth≤32:=by
 match f,l with
 |0,l=>simp [nodeF,itS,It.depth]
 |f+1,[]=>simp [nodeF,itS,It.depth]
 |f+1,[p]=>simp [nodeF,itL,itS,It.depth,It.depths]
 |f+1,p::q::r=>
  rw [nodeF]
  split
  ·rw [itL,It.depth]
   refine Nat.succ_le_succ (depths_le.2 fun t ht=>?_)
   simp only [List.mem_cons,List.not_mem_nil,or_false]at ht
   rcases ht with rfl|rfl
   ·simp [itS,It.depth]
   ·exact link_depth _
  ·rw [itL,It.depth]
   refine Nat.succ_le_succ (depths_le.2 fun t ht=>?_)
   rcases List.mem_append.1 ht with ht|ht
   ·obtain⟨c,_,rfl⟩:=List.mem_map.1 ht
    exact link_depth _
   ·rw [List.mem_singleton.1 ht];simp [itS,It.depth]
theorem formS_le {b:List UInt8} (h:b.length≤1000000):(itS b).form.length≤b.length+9:=by
 rw [itS,form_false]
 split
 ·omega
 ·rw [List.length_append]
  have:=rlpHead_le 128 b.length (by omega)
  omega
theorem link_le (x:It):(linkI x).form.length≤41:=by
 unfold linkI;split
 ·omega
 ·have:=formS_le (b:=kec x.form) (by rw [kec_len];omega)
  rw [kec_len]at this;exact this
theorem formL_le {l:List It} {B:Nat} (h:(It.forms l).length≤B) (hB:B≤100000000):(itL l).form.length≤B+9:=by
 rw [itL,form_true,List.length_append]
 have:=rlpHead_le 192 (It.forms l).length (by omega)
 omega
theorem forms_le_mul {l:List It} {B:Nat} (h: ∀t∈l,t.form.length≤B):(It.forms l).length≤l.length*B:=by
 induction l with
 |nil=>simp [It.forms]
 |cons t ts ih=>
  rw [It.forms,List.length_append,List.length_cons,Nat.succ_mul]
  have:=h t (by simp)
  have:=ih fun u hu=>h u (by simp [hu])
  omega
theorem node_small (f:Nat) {l:List PR} (h: ∀p∈l,p.1.length≤1000000∧p.2.length≤1000000):(nodeF f l).form.length≤2000000:=by
 have h0:(itS []).form.length≤2000000:=by have:=formS_le (b:= []) (by simp);simp at this⊢;omega
 match f,l with
 |0,l=>exact h0
 |f+1,[]=>exact h0
 |f+1,[p]=>
  have hp:=h p (by simp)
  have h1:=formS_le (b:=cpt p.1 true) (by rw [cpt_len];omega)
  have h2:=formS_le hp.2
  rw [cpt_len]at h1
  show(itL [itS (cpt p.1 true),itS p.2]).form.length≤2000000
  have:=formL_le (l:= [itS (cpt p.1 true),itS p.2]) (B:=1600000) (by simp only [It.forms,List.length_append,List.length_nil];omega) (by omega)
  omega
 |f+1,p::q::r=>
  have hp:=h p (by simp)
  rw [nodeF]
  split
  ·have h1:=formS_le (b:=cpt (p.1.take (shar (p::q::r))) false) (by rw [cpt_len,List.length_take];omega)
   rw [cpt_len,List.length_take]at h1
   have h2:=link_le (nodeF f (cutR (shar (p::q::r)) (p::q::r)))
   have:=formL_le (l:= [itS (cpt (p.1.take (shar (p::q::r))) false),linkI (nodeF f (cutR (shar (p::q::r)) (p::q::r)))]) (B:=1600000) (by simp only [It.forms,List.length_append,List.length_nil];omega) (by omega)
   omega
  ·have h2:(lastV (p::q::r)).length≤1000000:=by
    rcases lastV_spec (p::q::r) []with ⟨x,hx,_,e⟩|⟨_,e⟩
    ·rw [lastV,e];exact(h x hx).2
    ·rw [lastV,e];simp
   have h1:=formS_le h2
   have h3:=forms_le_mul (l:=(List.range 16).map (fun c=>linkI (nodeF f (cutR 1 (undR (UInt8.ofNat c) (p::q::r)))))) (B:=41) fun t ht=>by
    obtain⟨c,_,rfl⟩:=List.mem_map.1 ht
    exact link_le _
   simp only [List.length_map,List.length_range]at h3
   have:=formL_le (l:=(List.range 16).map (fun c=>linkI (nodeF f (cutR 1 (undR (UInt8.ofNat c) (p::q::r)))))++ [itS (lastV (p::q::r))]) (B:=1600000) (by rw [forms_append,List.length_append];simp only [It.forms,List.length_append,List.length_nil];omega) (by omega)
   omega
theorem Fit.form {f:Nat} {l:List PR} (h:Fit f l) (g:Nat):(nodeF g l).form.length<2^64:=Nat.lt_of_le_of_lt (node_small g h.sml) (by decide)
open Go Go.RowKit
def Clash (P q:List (List UInt8)):Prop:= ∃i b c,P[i]? =some b∧q[i]? =some c∧P.take i=q.take i∧b≠c∧kec b=kec c
def Right (P q:List (List UInt8)) (v:List UInt8) (r:Option (List UInt8×List (List UInt8))):Prop:=
 Clash P q∨(r=none∧ ¬P<+:q)∨ ∃q',q=P++q'∧r=some (v,q')
theorem Right.nil {q:List (List UInt8)} {v:List UInt8} :Right [] q v (some (v,q)):=.inr (.inr ⟨q,rfl,rfl⟩)
theorem Right.cons {P q:List (List UInt8)} {v b:List UInt8} {r:Option (List UInt8×List (List UInt8))} (h:Right P q v r):Right (b::P) (b::q) v r:=by
 rcases h with ⟨i,x,y,h1,h2,h3,h4,h5⟩|⟨h1,h2⟩|⟨q',h1,h2⟩
 ·exact .inl ⟨i+1,x,y,h1,h2,by simp [h3],h4,h5⟩
 ·refine .inr (.inl ⟨h1,fun k=>h2 ?_⟩)
  obtain⟨s,hs⟩:=k
  exact⟨s,by simpa using hs⟩
 ·exact .inr (.inr ⟨q',by rw [h1];rfl,h2⟩)
def mu (q:List (List UInt8)) (x:It):Nat:=q.length*1026+x.depth
end Go.Proofs.YtalmjkcapecpiaaGreat
