/- Several texts in one: see the remarks ahead of each part. No condition but those told there. -/
import Derived.Test.YtalmjkcapecpiaaGreatX1
import Derived.Test.YtalmjkcapecpiaaGreatX7
import Derived.Test.YtalmjkcapecpiaaGreatX12
import Derived.Test.YtalmjkcapecpiaaGreatX9
import Derived.Test.YtalmjkcapecpiaaGreatX19
import Derived.Test.YtalmjkcapecpiaaGreatXA35
set_option linter.unusedSimpArgs false
set_option linter.unusedVariables false
namespace Go.Proofs.YtalmjkcapecpiaaGreat
open Go Go.RowKit
set_option maxRecDepth 100000
section
variable {α β : Type} [DecidableEq α]
def updF (f:α→Option β) (k:α) (v:Option β):α→Option β:=fun j=>if j=k then v else f j
theorem updF_at {f:α→Option β} {k:α} {v:Option β} :updF f k v k=v:=if_pos rfl
theorem updF_ne {f:α→Option β} {k j:α} {v:Option β} (h:j≠k):updF f k v j=f j:=if_neg h
theorem updF_updF {f:α→Option β} {k:α} {v u:Option β} :updF (updF f k v) k u=updF f k u:=funext fun j=>by
 unfold updF
 by_cases e:j=k
 ·rw [if_pos e,if_pos e]
 ·rw [if_neg e,if_neg e,if_neg e]
theorem updF_self {f:α→Option β} {k:α} :updF f k (f k)=f:=funext fun j=>by
 unfold updF
 by_cases e:j=k
 ·rw [if_pos e,e]
 ·rw [if_neg e]
theorem updF_back {f:α→Option β} {k:α} {v u:Option β} (h:u=f k):updF (updF f k v) k u=f:=by rw [updF_updF,h,updF_self]
end
structure Ob where
 no:UInt64
 ba:Nat
 ca:Option Addr
 cc:Nat
 co:List UInt8
 mb:Nat
 st:Nat→Option Nat
 ad:List UInt8
structure LgM where
 a:List UInt8
 tn:Nat
 xs:List Value
 d:List UInt8
structure JS where
 lt:List UInt8→Option Unit
 lm:List UInt8→Option Unit
 lw:List UInt8→Option Unit
 ld:List UInt8→Option Unit
 lp:List UInt8×Nat→Option Unit
 lq:List UInt8×Nat→Option Nat
 rf:UInt64
 lg:List LgM
 ac:List UInt8→Option Nat
 ob:Nat→Option Ob
inductive UnE where
 |lt (k:List UInt8) (old:Option Unit)
 |lm (k:List UInt8) (old:Option Unit)
 |lw (k:List UInt8) (old:Option Unit)
 |ld (k:List UInt8) (old:Option Unit)
 |lp (k:List UInt8×Nat) (old:Option Unit)
 |lq (k:List UInt8×Nat) (old:Option Nat)
 |ac (k:List UInt8) (old:Option Nat)
 |sl (xp:Nat) (mb:Nat) (k:Nat) (old:Option Nat)
 |no (xp:Nat) (old:UInt64)
 |ba (xp:Nat) (old:Nat)
 |co (xp:Nat) (ca:Option Addr) (cc:Nat) (co:List UInt8)
 |rf (old:UInt64)
 |lg (n:Nat)
def obF (J:JS) (xp:Nat) (f:Ob→Ob):JS:= { J with ob:=updF J.ob xp ((J.ob xp).map f) }
def UnE.run:UnE→JS→JS
 |.lt k o,J=> { J with lt:=updF J.lt k o }
 |.lm k o,J=> { J with lm:=updF J.lm k o }
 |.lw k o,J=> { J with lw:=updF J.lw k o }
 |.ld k o,J=> { J with ld:=updF J.ld k o }
 |.lp k o,J=> { J with lp:=updF J.lp k o }
 |.lq k o,J=> { J with lq:=updF J.lq k o }
 |.ac k o,J=> { J with ac:=updF J.ac k o }
 |.sl xp _ k o,J=>obF J xp fun x=> { x with st:=updF x.st k o }
 |.no xp o,J=>obF J xp fun x=> { x with no:=o }
 |.ba xp o,J=>obF J xp fun x=> { x with ba:=o }
 |.co xp a b z,J=>obF J xp fun x=> { x with ca:=a,cc:=b,co:=z }
 |.rf o,J=> { J with rf:=o }
 |.lg n,J=> { J with lg:=J.lg.take n }
section
variable {α β : Type} [DecidableEq α] {κ : α → Lit} {ok : α → Prop} {val : β → Value} {D : DataW Value} {f : α → Option β}
def MapF (κ:α→Lit) (ok:α→Prop) (val:β→Value) (D:DataW Value) (f:α→Option β):Prop:= ∃l,MapA κ ok val D l∧ ∀k,getA k l=f k
theorem MapF.put (h:MapF κ ok val D f) (E:KeyE κ ok) {k:α} (hk:ok k) (v:β):MapF κ ok val (D.put (κ k) (.held (val v))) (updF f k (some v)):=by
 obtain⟨l,h1,h2⟩:=h
 refine⟨putA k v l,h1.put E hk v,fun j=>?_⟩
 rw [getA_put,h2];rfl
theorem MapF.del (h:MapF κ ok val D f) (E:KeyE κ ok) {k:α} (hk:ok k):MapF κ ok val (D.del (κ k)) (updF f k none):=by
 obtain⟨l,h1,h2⟩:=h
 refine⟨delA k l,h1.del E hk,fun j=>?_⟩
 rw [getA_del,h2];rfl
theorem MapF.nil:MapF κ ok val (.map []) (fun _=>none):=⟨[],MapA.nil,fun _=>rfl⟩
theorem MapF.has (h:MapF κ ok val D f) {k:α} (hk:ok k):Maps.has D (κ k)=(f k).isSome:=by
 obtain⟨l,h1,h2⟩:=h
 rw [h1.has k hk,h2]
theorem MapF.look (h:MapF κ ok val D f) {k:α} (hk:ok k) {z:Value} :D.atKey (κ k) (.held z)=.held (((f k).map val).getD z):=by
 obtain⟨l,h1,h2⟩:=h
 rw [h1.look hk,h2]
 cases f k<;>rfl
theorem MapF.of {l:List (α×β)} (h:MapA κ ok val D l):MapF κ ok val D (fun k=>getA k l):=⟨l,h,fun _=>rfl⟩
end
structure ObO (NX NM NJ:Heaplet) (c xp:Nat) (D:DataW Value) (o:Ob):Prop where
 B:Blk NX xp 71 (acK o.no o.ba o.ca o.co.length o.cc o.mb)
 M:MapV Tryz.prog 36 NM o.mb c D
 A:MapF keyW okWd wordV D o.st
 C:RSl NJ 1 o.ca o.co.length o.cc (u8s o.co)
 ln:o.co.length≤1099511627776
 ba:o.ba<WW
 st: ∀k v,o.st k=some v→v<WW
def ObN (X NJ:Heaplet) (c xp:Nat) (o:Ob):Prop:= ∃NX NM D,[NX,NM].Pairwise Apart∧X=joinL [NX,NM]∧ObO NX NM NJ c xp D o
theorem ObO.mono {NX NM NJ K:Heaplet} {c d xp:Nat} {D:DataW Value} {o:Ob} (h:ObO NX NM NJ c xp D o) (hl:c≤d) (hj:NJ.le K):ObO NX NM K d xp D o:=⟨h.B,h.M.mono hl,h.A,h.C.le hj,h.ln,h.ba,h.st⟩
theorem ObN.mono {X NJ K:Heaplet} {c d xp:Nat} {o:Ob} (h:ObN X NJ c xp o) (hl:c≤d) (hj:NJ.le K):ObN X K d xp o:=let ⟨NX,NM,D,a,b,z⟩:=h;⟨NX,NM,D,a,b,z.mono hl hj⟩
def ObL (NJ:Heaplet) (c:Nat):Heaplet→List (Nat×Ob)→Prop
 |_,[]=>True
 |N,p::l=> ∃X R,Apart X R∧N=join2 X R∧ObN X NJ c p.1 p.2∧ObL NJ c R l
theorem ObL.mono {NJ K:Heaplet} {c d:Nat} (hl:c≤d) (hj:NJ.le K): ∀ {l:List (Nat×Ob)} {N:Heaplet},ObL NJ c N l→ObL K d N l
 | [],_,_=>trivial
 |_::_,_,⟨X,R,a,b,x,r⟩=>⟨X,R,a,b,x.mono hl hj,ObL.mono hl hj r⟩
theorem ObL.take {NJ:Heaplet} {c k:Nat} {v:Ob} : ∀ {l:List (Nat×Ob)} {N:Heaplet},DisA l→ObL NJ c N l→getA k l=some v→ ∃X R,Apart X R∧N=join2 X R∧ObN X NJ c k v∧ObL NJ c R (delA k l)
 | [],_,_,_,h=>by cases h
 |p::l,N,hd,⟨X,R,ha,hN,hX,hR⟩,h=>by
  obtain⟨h1,h2⟩:=List.nodup_cons.1 hd
  by_cases e:p.1=k
  ·rw [getA,if_pos e]at h
   cases h
   have h3:delA k (p::l)=delA k l:=by simp [delA,e]
   have h4:delA k l=l:=delA_none (getA_none.2 fun q hq hk=>h1 (List.mem_map.2 ⟨q,hq,hk.trans e.symm⟩))
   rw [h3,h4]
   exact⟨X,R,ha,hN,e▸hX,hR⟩
  ·rw [getA,if_neg e]at h
   obtain⟨Y,S,a2,rfl,y2,s2⟩:=ObL.take h2 hR h
   have h3:delA k (p::l)=p::delA k l:=by simp [delA,e]
   rw [h3]
   have axy:=apart_left ha
   have axs:=apart_right ha
   refine⟨Y,join2 X S,apart_join axy.symm a2,?_,y2,X,S,axs,rfl,hX,s2⟩
   rw [hN,join_assoc,join_comm axy, ←join_assoc]
def ObF (N NJ:Heaplet) (c:Nat) (f:Nat→Option Ob):Prop:= ∃l,DisA l∧(∀k,getA k l=f k)∧ObL NJ c N l
theorem ObF.mono {N NJ K:Heaplet} {c d:Nat} {f:Nat→Option Ob} (h:ObF N NJ c f) (hl:c≤d) (hj:NJ.le K):ObF N K d f:=let ⟨l,a,b,z⟩:=h;⟨l,a,b,z.mono hl hj⟩
theorem ObF.take {N NJ:Heaplet} {c xp:Nat} {f:Nat→Option Ob} {o:Ob} (h:ObF N NJ c f) (ho:f xp=some o): ∃X R,Apart X R∧N=join2 X R∧ObN X NJ c xp o∧ObF R NJ c (updF f xp none):=by
 obtain⟨l,h1,h2,h3⟩:=h
 obtain⟨X,R,a,e,x,r⟩:=h3.take h1 ((h2 xp).trans ho)
 exact⟨X,R,a,e,x,delA xp l,h1.del xp,fun j=>by rw [getA_del,h2];rfl,r⟩
theorem ObF.put {X R NJ:Heaplet} {c xp:Nat} {f:Nat→Option Ob} {o:Ob} (ha:Apart X R) (hx:ObN X NJ c xp o) (h:ObF R NJ c f) (hf:f xp=none):ObF (join2 X R) NJ c (updF f xp (some o)):=by
 obtain⟨l,h1,h2,h3⟩:=h
 refine⟨(xp,o)::l,List.nodup_cons.2 ⟨fun hm=>?_,h1⟩,fun j=>?_,X,R,ha,rfl,hx,h3⟩
 ·obtain⟨p,hp,e⟩:=List.mem_map.1 hm
  exact getA_none.1 ((h2 xp).trans hf) p hp e
 ·rw [getA,h2,updF]
  by_cases e:xp=j
  ·rw [if_pos e,if_pos e.symm]
  ·rw [if_neg e,if_neg fun h=>e h.symm]
theorem ObF.turn {X R NJ:Heaplet} {c xp:Nat} {f:Nat→Option Ob} {o:Ob} (ha:Apart X R) (hx:ObN X NJ c xp o) (h:ObF R NJ c (updF f xp none)):ObF (join2 X R) NJ c (updF f xp (some o)):=by
 have:=ObF.put ha hx h updF_at
 rwa [updF_updF]at this
theorem ObF.see {N NJ:Heaplet} {c xp:Nat} {f:Nat→Option Ob} {o:Ob} (h:ObF N NJ c f) (ho:f xp=some o): ∃NX NM D,NX.le N∧NM.le N∧ObO NX NM NJ c xp D o:=by
 obtain⟨X,R,a,e,⟨NX,NM,D,hap,rfl,z⟩,_⟩:=h.take ho
 exact⟨NX,NM,D,by rw [e];exact Heaplet.le_trans (le_joinL hap (by simp)) join2_left,by rw [e];exact Heaplet.le_trans (le_joinL hap (by simp)) join2_left,z⟩
structure LgI where
 ta:Option Addr
 tc:Nat
 da:Option Addr
 dc:Nat
def logF (p:LgM×LgI):List Value:=logC p.1.a (.slice p.2.ta p.1.tn p.2.tc) (.slice p.2.da p.1.d.length p.2.dc)
def LogR (K:Heaplet) (p:LgM×LgI):Prop:=LogV K p.1.a p.2.ta p.1.tn p.2.tc p.1.xs p.2.da p.2.dc p.1.d
theorem LogR.le {K J:Heaplet} {p:LgM×LgI} (h:LogR K p) (hl:K.le J):LogR J p:=⟨h.ad,h.to.le hl,h.on,h.tl,h.da.le hl,h.dl⟩
def LogsN (K:Heaplet) (lg:List LgM) (ls:List Value):Prop:= ∃ps:List (LgM×LgI),ps.map Prod.fst=lg∧ls=ps.flatMap logF∧ ∀p∈ps,LogR K p
theorem LogsN.le {K J:Heaplet} {lg:List LgM} {ls:List Value} (h:LogsN K lg ls) (hl:K.le J):LogsN J lg ls:=let ⟨ps,a,b,z⟩:=h;⟨ps,a,b,fun p hp=>(z p hp).le hl⟩
theorem logF_one (p:LgM×LgI): ∀u∈logF p,u.oneCell'=true:=List.all_eq_true.1 (logC_one rfl rfl)
theorem LogsN.one {K:Heaplet} {lg:List LgM} {ls:List Value} (h:LogsN K lg ls): ∀u∈ls,u.oneCell'=true:=fun u hu=>by
 obtain⟨ps,_,rfl,_⟩:=h
 obtain⟨p,_,hp⟩:=List.mem_flatMap.1 hu
 exact logF_one p u hp
theorem LogsN.snoc {K:Heaplet} {lg:List LgM} {ls:List Value} {g:LgM} {i:LgI} (h:LogsN K lg ls) (hg:LogR K (g,i)):LogsN K (lg++ [g]) (ls++logF (g,i)):=by
 obtain⟨ps,rfl,rfl,h3⟩:=h
 refine⟨ps++ [(g,i)],by simp,by simp,fun p hp=>?_⟩
 rcases List.mem_append.1 hp with hp|hp
 ·exact h3 p hp
 ·rw [List.mem_singleton.1 hp];exact hg
theorem flat_takeG {α:Type} {k:Nat} {f:α→List Value} : ∀ {l:List α} (n:Nat),(∀x∈l,(f x).length=k)→(l.flatMap f).take (n*k)=(l.take n).flatMap f
 | [],n,_=>by simp
 |x::r,0,_=>by simp
 |x::r,n+1,h=>by
  have hx:=h x (by simp)
  rw [List.flatMap_cons,List.take_succ_cons,List.flatMap_cons, ←flat_takeG n fun y hy=>h y (List.mem_cons_of_mem _ hy),show(n+1)*k=(f x).length+n*k by rw [hx,Nat.succ_mul,Nat.add_comm],List.take_append,List.take_of_length_le (by omega),Nat.add_sub_cancel_left]
theorem LogsN.take {K:Heaplet} {lg:List LgM} {ls:List Value} (h:LogsN K lg ls) (n:Nat):LogsN K (lg.take n) (ls.take (n*22)):=by
 obtain⟨ps,rfl,rfl,h3⟩:=h
 exact⟨ps.take n,by rw [List.map_take],flat_takeG n fun p hp=>logC_len (h3 p hp).ad _ _,fun p hp=>h3 p (List.mem_of_mem_take hp)⟩
structure FxP where
 sp:Nat
 ma:Nat
 mt:Nat
 mm:Nat
 mw:Nat
 md:Nat
 ws:Nat
 tr:Nat
 og:Nat
def ptrN (xp:Nat):Value:=.pointer (some ⟨xp,0,none⟩)
structure MemO (x:FxP) (c:Nat) (J:JS) (u k:Value) (tl:Int) (NS NF NT NM NW ND NP NQ NL NB NJ:Heaplet) (DF DT DM DW DD DP DQ:DataW Value) (la:Option Addr) (lc:Nat) (ls:List Value):Prop where
 S:Blk NS x.sp 85 (stK x.ma x.mt x.mm x.mw x.md x.ws x.tr x.og J.rf (.slice la J.lg.length lc) u k tl)
 F:MapV Tryz.prog 33 NF x.ma c DF
 T:MapV Tryz.prog 33 NT x.mt c DT
 M:MapV Tryz.prog 33 NM x.mm c DM
 W:MapV Tryz.prog 33 NW x.mw c DW
 D:MapV Tryz.prog 33 ND x.md c DD
 P:MapV Tryz.prog 105 NP x.ws c DP
 Q:MapV Tryz.prog 105 NQ x.tr c DQ
 aF:MapF keyA okAd ptrN DF J.ac
 aT:MapF keyA okAd unitV DT J.lt
 aM:MapF keyA okAd unitV DM J.lm
 aW:MapF keyA okAd unitV DW J.lw
 aD:MapF keyA okAd unitV DD J.ld
 aP:MapF keyPP okPl unitV DP J.lp
 aQ:MapF keyPP okPl wordV DQ J.lq
 L:Row NL 93 22 la J.lg.length lc ls
 lg:LogsN NJ J.lg ls
 B:ObF NB NJ c J.ob
 wf: ∀a p,J.ac a=some p→ ∃o,J.ob p=some o∧o.ad=a
 bL:J.lg.length≤c
theorem MemO.mono {x:FxP} {c d:Nat} {J:JS} {u k:Value} {tl:Int} {NS NF NT NM NW ND NP NQ NL NB NJ K:Heaplet} {DF DT DM DW DD DP DQ:DataW Value} {la:Option Addr} {lc:Nat} {ls:List Value} (h:MemO x c J u k tl NS NF NT NM NW ND NP NQ NL NB NJ DF DT DM DW DD DP DQ la lc ls) (hl:c≤d) (hj:NJ.le K):MemO x d J u k tl NS NF NT NM NW ND NP NQ NL NB K DF DT DM DW DD DP DQ la lc ls:=
 ⟨h.S,h.F.mono hl,h.T.mono hl,h.M.mono hl,h.W.mono hl,h.D.mono hl,h.P.mono hl,h.Q.mono hl,h.aF,h.aT,h.aM,h.aW,h.aD,h.aP,h.aQ,h.L,h.lg.le hj,h.B.mono hl hj,h.wf,Nat.le_trans h.bL hl⟩
structure CapM (J:Heaplet) (tm tv tk:TypeId) (bs:List Nat) (mb:Nat) (kc:List Value) (hd:Bool) (cs:List Value):Prop where
 h: ∃b9 b8 b5 b6,bs= [b9,b8,b5,b6]∧Blk J b9 4 [.bool hd]∧Blk J b8 tv cs∧Blk J b5 tm [.map (some mb)]∧Blk J b6 tk kc
theorem CapM.le {J K:Heaplet} {tm tv tk:TypeId} {bs:List Nat} {mb:Nat} {kc:List Value} {hd:Bool} {cs:List Value} (h:CapM J tm tv tk bs mb kc hd cs) (hl:J.le K):CapM K tm tv tk bs mb kc hd cs:=by
 obtain⟨b9,b8,b5,b6,e,h1,h2,h3,h4⟩:=h.h
 exact⟨b9,b8,b5,b6,e,h1.le hl,h2.le hl,h3.le hl,h4.le hl⟩
def capV (bs:List Nat):List Value:=bs.map fun b=>Value.pointer (some ⟨b,0,none⟩)
theorem UnAU {J Nm:Heaplet} {bs:List Nat} {mb c:Nat} {D:DataW Value} {f:List UInt8→Option Unit} {k:List UInt8} {old:Option Unit} (hC:CapM J 75 115 33 bs mb (u8s k) old.isSome ([])) (hM:MapV Tryz.prog 33 Nm mb c D) (hA:MapF keyA okAd unitV D f) (hk:okAd k) (hc:c≤1099511627776):Fn Tryz.prog 92 (capV bs).toArray [Nm] [J] (fun _ L=> ∃Nm,L= [Nm]∧ ∃D,MapV Tryz.prog 33 Nm mb (c+1) D∧MapF keyA okAd unitV D (updF f k old)):=by
 obtain⟨b9,b8,b5,b6,rfl,h1,h2,h3,h4⟩:=hC.h
 have hul:(u8s k).length=_:=len_A hk
 cases old with
 |none=>
  refine Fn.enter (vs:= [.pointer (some ⟨b9,0,none⟩),.pointer (some ⟨b8,0,none⟩),.pointer (some ⟨b5,0,none⟩),.pointer (some ⟨b6,0,none⟩)]) Tryz.func92 U U U ?_
  intro E R hR
  have hle:=hR J (by simp)
  have BH:=h1.le hle
  have BO:=h2.le hle
  have BM:=h3.le hle
  have BK:=h4.le hle
  change At _ _ E [Nm,R] _
  refine aH fun _ s_1=>aB (aU aN sc4 U BH U dG U ?_)
  refine aI (s_1 (At.condF U (aB (aU aN sc75 U BM U dG U ?_))))
  refine aK (ds:=u8s k) aN ag33 U BK (by exact bJ hul) (by exact hul) dG U ?_
  refine op_deleteV nxQ kd33 Tryz.underlying75 U U hM (keyA_spec hk) sel0 (fun Nm hM ho=>cE (cQ (L1:= [Nm]) U .nil U (.refl _) aZ ?_))
  exact⟨Nm,rfl,_,hM.mono (Nat.le_succ _),hA.del keE_A hk⟩
 |some v=>
  refine Fn.enter (vs:= [.pointer (some ⟨b9,0,none⟩),.pointer (some ⟨b8,0,none⟩),.pointer (some ⟨b5,0,none⟩),.pointer (some ⟨b6,0,none⟩)]) Tryz.func92 U U U ?_
  intro E R hR
  have hle:=hR J (by simp)
  have BH:=h1.le hle
  have BO:=h2.le hle
  have BM:=h3.le hle
  have BK:=h4.le hle
  change At _ _ E [Nm,R] _
  refine aH fun _ s_1=>aB (aU aN sc4 U BH U dG U ?_)
  refine aI (s_1 (At.condT U (aB (aU aN sc75 U BM U dG U ?_))))
  refine aK (ds:=u8s k) aN ag33 U BK (by exact bJ hul) (by exact hul) dG U ?_
  refine aK (ds:= []) aN ag115 U BO U U dG U ?_
  refine op_mapUpdateV nxQ kd33 Tryz.underlying75 U U U hM ((by unfold maxLen;omega)) (keyA_spec hk) sel0 (fun Nm hM ho=>?_)
  refine cE (cQ (L1:= [Nm]) U .nil U (.refl _) aZ ?_)
  exact⟨Nm,rfl,_,hM,hA.put keE_A hk v⟩
theorem UnPU {J Nm:Heaplet} {bs:List Nat} {mb c:Nat} {D:DataW Value} {f:List UInt8×Nat→Option Unit} {k:List UInt8×Nat} {old:Option Unit} (hC:CapM J 77 115 105 bs mb (u8s k.1++u64s (wl k.2)) old.isSome ([])) (hM:MapV Tryz.prog 105 Nm mb c D) (hA:MapF keyPP okPl unitV D f) (hk:okPl k) (hc:c≤1099511627776):Fn Tryz.prog 90 (capV bs).toArray [Nm] [J] (fun _ L=> ∃Nm,L= [Nm]∧ ∃D,MapV Tryz.prog 105 Nm mb (c+1) D∧MapF keyPP okPl unitV D (updF f k old)):=by
 obtain⟨b9,b8,b5,b6,rfl,h1,h2,h3,h4⟩:=hC.h
 have hul:(u8s k.1++u64s (wl k.2)).length=_:=place_len hk
 cases old with
 |none=>
  refine Fn.enter (vs:= [.pointer (some ⟨b9,0,none⟩),.pointer (some ⟨b8,0,none⟩),.pointer (some ⟨b5,0,none⟩),.pointer (some ⟨b6,0,none⟩)]) Tryz.func90 U U U ?_
  intro E R hR
  have hle:=hR J (by simp)
  have BH:=h1.le hle
  have BO:=h2.le hle
  have BM:=h3.le hle
  have BK:=h4.le hle
  change At _ _ E [Nm,R] _
  refine aH fun _ s_1=>aB (aU aN sc4 U BH U dG U ?_)
  refine aI (s_1 (At.condF U (aB (aU aN sc77 U BM U dG U ?_))))
  refine aK (ds:=u8s k.1++u64s (wl k.2)) aN ag105 U BK (by exact bJ hul) (by exact hul) dG U ?_
  refine op_deleteV nxQ kd105 Tryz.underlying77 U U hM (keyP_spec hk.1 k.2) sel0 (fun Nm hM ho=>cE (cQ (L1:= [Nm]) U .nil U (.refl _) aZ ?_))
  exact⟨Nm,rfl,_,hM.mono (Nat.le_succ _),hA.del keE_P hk⟩
 |some v=>
  refine Fn.enter (vs:= [.pointer (some ⟨b9,0,none⟩),.pointer (some ⟨b8,0,none⟩),.pointer (some ⟨b5,0,none⟩),.pointer (some ⟨b6,0,none⟩)]) Tryz.func90 U U U ?_
  intro E R hR
  have hle:=hR J (by simp)
  have BH:=h1.le hle
  have BO:=h2.le hle
  have BM:=h3.le hle
  have BK:=h4.le hle
  change At _ _ E [Nm,R] _
  refine aH fun _ s_1=>aB (aU aN sc4 U BH U dG U ?_)
  refine aI (s_1 (At.condT U (aB (aU aN sc77 U BM U dG U ?_))))
  refine aK (ds:=u8s k.1++u64s (wl k.2)) aN ag105 U BK (by exact bJ hul) (by exact hul) dG U ?_
  refine aK (ds:= []) aN ag115 U BO U U dG U ?_
  refine op_mapUpdateV nxQ kd105 Tryz.underlying77 U U U hM ((by unfold maxLen;omega)) (keyP_spec hk.1 k.2) sel0 (fun Nm hM ho=>?_)
  refine cE (cQ (L1:= [Nm]) U .nil U (.refl _) aZ ?_)
  exact⟨Nm,rfl,_,hM,hA.put keE_P hk v⟩
theorem UnPW {J Nm:Heaplet} {bs:List Nat} {mb c:Nat} {D:DataW Value} {f:List UInt8×Nat→Option Nat} {k:List UInt8×Nat} {old:Option Nat} (hC:CapM J 79 36 105 bs mb (u8s k.1++u64s (wl k.2)) old.isSome (u64s (wl (old.getD 0)))) (hM:MapV Tryz.prog 105 Nm mb c D) (hA:MapF keyPP okPl wordV D f) (hk:okPl k) (hc:c≤1099511627776):Fn Tryz.prog 93 (capV bs).toArray [Nm] [J] (fun _ L=> ∃Nm,L= [Nm]∧ ∃D,MapV Tryz.prog 105 Nm mb (c+1) D∧MapF keyPP okPl wordV D (updF f k old)):=by
 obtain⟨b9,b8,b5,b6,rfl,h1,h2,h3,h4⟩:=hC.h
 have hul:(u8s k.1++u64s (wl k.2)).length=_:=place_len hk
 cases old with
 |none=>
  refine Fn.enter (vs:= [.pointer (some ⟨b9,0,none⟩),.pointer (some ⟨b8,0,none⟩),.pointer (some ⟨b5,0,none⟩),.pointer (some ⟨b6,0,none⟩)]) Tryz.func93 U U U ?_
  intro E R hR
  have hle:=hR J (by simp)
  have BH:=h1.le hle
  have BO:=h2.le hle
  have BM:=h3.le hle
  have BK:=h4.le hle
  change At _ _ E [Nm,R] _
  refine aH fun _ s_1=>aB (aU aN sc4 U BH U dG U ?_)
  refine aI (s_1 (At.condF U (aB (aU aN sc79 U BM U dG U ?_))))
  refine aK (ds:=u8s k.1++u64s (wl k.2)) aN ag105 U BK (by exact bJ hul) (by exact hul) dG U ?_
  refine op_deleteV nxQ kd105 Tryz.underlying79 U U hM (keyP_spec hk.1 k.2) sel0 (fun Nm hM ho=>cE (cQ (L1:= [Nm]) U .nil U (.refl _) aZ ?_))
  exact⟨Nm,rfl,_,hM.mono (Nat.le_succ _),hA.del keE_P hk⟩
 |some v=>
  refine Fn.enter (vs:= [.pointer (some ⟨b9,0,none⟩),.pointer (some ⟨b8,0,none⟩),.pointer (some ⟨b5,0,none⟩),.pointer (some ⟨b6,0,none⟩)]) Tryz.func93 U U U ?_
  intro E R hR
  have hle:=hR J (by simp)
  have BH:=h1.le hle
  have BO:=h2.le hle
  have BM:=h3.le hle
  have BK:=h4.le hle
  change At _ _ E [Nm,R] _
  refine aH fun _ s_1=>aB (aU aN sc4 U BH U dG U ?_)
  refine aI (s_1 (At.condT U (aB (aU aN sc79 U BM U dG U ?_))))
  refine aK (ds:=u8s k.1++u64s (wl k.2)) aN ag105 U BK (by exact bJ hul) (by exact hul) dG U ?_
  refine aK (ds:=u64s (wl v)) aN ag36 U BO (by exact bJ (bQ v)) (by exact bQ v) dG U ?_
  refine op_mapUpdateV nxQ kd105 Tryz.underlying79 U U U hM ((by unfold maxLen;omega)) (keyP_spec hk.1 k.2) sel0 (fun Nm hM ho=>?_)
  refine cE (cQ (L1:= [Nm]) U .nil U (.refl _) aZ ?_)
  exact⟨Nm,rfl,_,hM,hA.put keE_P hk v⟩
theorem UnWW {J Nm:Heaplet} {bs:List Nat} {mb c:Nat} {D:DataW Value} {f:Nat→Option Nat} {k:Nat} {old:Option Nat} (hC:CapM J 69 36 36 bs mb (u64s (wl k)) old.isSome (u64s (wl (old.getD 0)))) (hM:MapV Tryz.prog 36 Nm mb c D) (hA:MapF keyW okWd wordV D f) (hk:okWd k) (hc:c≤1099511627776):Fn Tryz.prog 88 (capV bs).toArray [Nm] [J] (fun _ L=> ∃Nm,L= [Nm]∧ ∃D,MapV Tryz.prog 36 Nm mb (c+1) D∧MapF keyW okWd wordV D (updF f k old)):=by
 obtain⟨b9,b8,b5,b6,rfl,h1,h2,h3,h4⟩:=hC.h
 have hul:(u64s (wl k)).length=_:=bQ k
 cases old with
 |none=>
  refine Fn.enter (vs:= [.pointer (some ⟨b9,0,none⟩),.pointer (some ⟨b8,0,none⟩),.pointer (some ⟨b5,0,none⟩),.pointer (some ⟨b6,0,none⟩)]) Tryz.func88 U U U ?_
  intro E R hR
  have hle:=hR J (by simp)
  have BH:=h1.le hle
  have BO:=h2.le hle
  have BM:=h3.le hle
  have BK:=h4.le hle
  change At _ _ E [Nm,R] _
  refine aH fun _ s_1=>aB (aU aN sc4 U BH U dG U ?_)
  refine aI (s_1 (At.condF U (aB (aU aN sc69 U BM U dG U ?_))))
  refine aK (ds:=u64s (wl k)) aN ag36 U BK (by exact bJ hul) (by exact hul) dG U ?_
  refine op_deleteV nxQ kd36 Tryz.underlying69 U U hM (keyW_spec k) sel0 (fun Nm hM ho=>cE (cQ (L1:= [Nm]) U .nil U (.refl _) aZ ?_))
  exact⟨Nm,rfl,_,hM.mono (Nat.le_succ _),hA.del keE_W hk⟩
 |some v=>
  refine Fn.enter (vs:= [.pointer (some ⟨b9,0,none⟩),.pointer (some ⟨b8,0,none⟩),.pointer (some ⟨b5,0,none⟩),.pointer (some ⟨b6,0,none⟩)]) Tryz.func88 U U U ?_
  intro E R hR
  have hle:=hR J (by simp)
  have BH:=h1.le hle
  have BO:=h2.le hle
  have BM:=h3.le hle
  have BK:=h4.le hle
  change At _ _ E [Nm,R] _
  refine aH fun _ s_1=>aB (aU aN sc4 U BH U dG U ?_)
  refine aI (s_1 (At.condT U (aB (aU aN sc69 U BM U dG U ?_))))
  refine aK (ds:=u64s (wl k)) aN ag36 U BK (by exact bJ hul) (by exact hul) dG U ?_
  refine aK (ds:=u64s (wl v)) aN ag36 U BO (by exact bJ (bQ v)) (by exact bQ v) dG U ?_
  refine op_mapUpdateV nxQ kd36 Tryz.underlying69 U U U hM ((by unfold maxLen;omega)) (keyW_spec k) sel0 (fun Nm hM ho=>?_)
  refine cE (cQ (L1:= [Nm]) U .nil U (.refl _) aZ ?_)
  exact⟨Nm,rfl,_,hM,hA.put keE_W hk v⟩
theorem UnAP {J Nm:Heaplet} {bs:List Nat} {mb c:Nat} {D:DataW Value} {f:List UInt8→Option Nat} {k:List UInt8} {old:Option Nat} (hC:CapM J 74 67 33 bs mb (u8s k) old.isSome ([.pointer ((old).map fun p=>⟨p,0,none⟩)])) (hM:MapV Tryz.prog 33 Nm mb c D) (hA:MapF keyA okAd ptrN D f) (hk:okAd k) (hc:c≤1099511627776):Fn Tryz.prog 91 (capV bs).toArray [Nm] [J] (fun _ L=> ∃Nm,L= [Nm]∧ ∃D,MapV Tryz.prog 33 Nm mb (c+1) D∧MapF keyA okAd ptrN D (updF f k old)):=by
 obtain⟨b9,b8,b5,b6,rfl,h1,h2,h3,h4⟩:=hC.h
 have hul:(u8s k).length=_:=len_A hk
 cases old with
 |none=>
  refine Fn.enter (vs:= [.pointer (some ⟨b9,0,none⟩),.pointer (some ⟨b8,0,none⟩),.pointer (some ⟨b5,0,none⟩),.pointer (some ⟨b6,0,none⟩)]) Tryz.func91 U U U ?_
  intro E R hR
  have hle:=hR J (by simp)
  have BH:=h1.le hle
  have BO:=h2.le hle
  have BM:=h3.le hle
  have BK:=h4.le hle
  change At _ _ E [Nm,R] _
  refine aH fun _ s_1=>aB (aU aN sc4 U BH U dG U ?_)
  refine aI (s_1 (At.condF U (aB (aU aN sc74 U BM U dG U ?_))))
  refine aK (ds:=u8s k) aN ag33 U BK (by exact bJ hul) (by exact hul) dG U ?_
  refine op_deleteV nxQ kd33 Tryz.underlying74 U U hM (keyA_spec hk) sel0 (fun Nm hM ho=>cE (cQ (L1:= [Nm]) U .nil U (.refl _) aZ ?_))
  exact⟨Nm,rfl,_,hM.mono (Nat.le_succ _),hA.del keE_A hk⟩
 |some v=>
  refine Fn.enter (vs:= [.pointer (some ⟨b9,0,none⟩),.pointer (some ⟨b8,0,none⟩),.pointer (some ⟨b5,0,none⟩),.pointer (some ⟨b6,0,none⟩)]) Tryz.func91 U U U ?_
  intro E R hR
  have hle:=hR J (by simp)
  have BH:=h1.le hle
  have BO:=h2.le hle
  have BM:=h3.le hle
  have BK:=h4.le hle
  change At _ _ E [Nm,R] _
  refine aH fun _ s_1=>aB (aU aN sc4 U BH U dG U ?_)
  refine aI (s_1 (At.condT U (aB (aU aN sc74 U BM U dG U ?_))))
  refine aK (ds:=u8s k) aN ag33 U BK (by exact bJ hul) (by exact hul) dG U ?_
  refine aU aN sc67 U BO U dG U ?_
  refine op_mapUpdateV nxQ kd33 Tryz.underlying74 U U U hM ((by unfold maxLen;omega)) (keyA_spec hk) sel0 (fun Nm hM ho=>?_)
  refine cE (cQ (L1:= [Nm]) U .nil U (.refl _) aZ ?_)
  exact⟨Nm,rfl,_,hM,hA.put keE_A hk v⟩
structure CapX (J:Heaplet) (tv:TypeId) (bs:List Nat) (cs:List Value) (xp:Nat):Prop where
 h: ∃b7 b6,bs= [b7,b6]∧Blk J b7 tv cs∧Blk J b6 67 [.pointer (some ⟨xp,0,none⟩)]
theorem CapX.le {J K:Heaplet} {tv:TypeId} {bs:List Nat} {cs:List Value} {xp:Nat} (h:CapX J tv bs cs xp) (hl:J.le K):CapX K tv bs cs xp:=by
 obtain⟨b7,b6,e,h1,h2⟩:=h.h
 exact⟨b7,b6,e,h1.le hl,h2.le hl⟩
section
variable {NX J : Heaplet} {xp : Nat} {bs : List Nat} {no old : UInt64} {ba oba cn ocn cc occ mb : Nat} {ca oca : Option Addr}
theorem UnNo (hC:CapX J 34 bs [.int .u64 (old.toNat:Int)] xp) (BX:Blk NX xp 71 (acK no ba ca cn cc mb)):Fn Tryz.prog 52 (capV bs).toArray [NX] [J] (fun _ L=> ∃NX,L= [NX]∧Blk NX xp 71 (acK old ba ca cn cc mb)):=by
 obtain⟨b7,b6,rfl,h1,h2⟩:=hC.h
 unfold acK at BX
 refine Fn.enter (vs:= [.pointer (some ⟨b7,0,none⟩),.pointer (some ⟨b6,0,none⟩)]) Tryz.func52 U U U ?_
 intro E R hR
 have hle:=hR J (by simp)
 have BO:=h1.le hle
 have BP:=h2.le hle
 change At _ _ E [NX,R] _
 refine aB (aU aN sc67 U BP U dG U ?_)
 refine aU aN sc34 U BO U dG U ?_
 refine bH aN U U (aJ aN fl71_0 U U (bP nxQ sz34 U U U U U BX (by exact show 0+0+1≤7 by decide) sel0 (fun NX BX=>?_)))
 change Blk NX xp _ (acK old ba ca cn cc mb)at BX
 refine cE (cQ (L1:= [NX]) U .nil U (.refl _) aZ ?_)
 exact⟨NX,rfl,BX⟩
theorem UnBa (hC:CapX J 36 bs (u64s (wl oba)) xp) (BX:Blk NX xp 71 (acK no ba ca cn cc mb)):Fn Tryz.prog 56 (capV bs).toArray [NX] [J] (fun _ L=> ∃NX,L= [NX]∧Blk NX xp 71 (acK no oba ca cn cc mb)):=by
 obtain⟨b7,b6,rfl,h1,h2⟩:=hC.h
 unfold acK at BX
 refine Fn.enter (vs:= [.pointer (some ⟨b7,0,none⟩),.pointer (some ⟨b6,0,none⟩)]) Tryz.func56 U U U ?_
 intro E R hR
 have hle:=hR J (by simp)
 have BO:=h1.le hle
 have BP:=h2.le hle
 change At _ _ E [NX,R] _
 refine aB (aU aN sc67 U BP U dG U ?_)
 refine aK (ds:=u64s (wl oba)) aN ag36 U BO (by exact bJ (bQ oba)) (by exact bQ oba) dG U ?_
 refine bH aN U U (aJ aN fl71_1 U U (bP nxQ sz36 U U U (bQ oba) (one_wl oba) BX (by exact show 0+1+4≤7 by decide) sel0 (fun NX BX=>?_)))
 change Blk NX xp _ (acK no oba ca cn cc mb)at BX
 refine cE (cQ (L1:= [NX]) U .nil U (.refl _) aZ ?_)
 exact⟨NX,rfl,BX⟩
theorem UnCo (hC:CapX J 37 bs [.slice oca ocn occ] xp) (BX:Blk NX xp 71 (acK no ba ca cn cc mb)):Fn Tryz.prog 55 (capV bs).toArray [NX] [J] (fun _ L=> ∃NX,L= [NX]∧Blk NX xp 71 (acK no ba oca ocn occ mb)):=by
 obtain⟨b7,b6,rfl,h1,h2⟩:=hC.h
 unfold acK at BX
 refine Fn.enter (vs:= [.pointer (some ⟨b7,0,none⟩),.pointer (some ⟨b6,0,none⟩)]) Tryz.func55 U U U ?_
 intro E R hR
 have hle:=hR J (by simp)
 have BO:=h1.le hle
 have BP:=h2.le hle
 change At _ _ E [NX,R] _
 refine aB (aU aN sc67 U BP U dG U ?_)
 refine aU aN sc37 U BO U dG U ?_
 refine bH aN U U (aJ aN fl71_2 U U (bP nxQ sz37 U U U U U BX (by exact show 0+5+1≤7 by decide) sel0 (fun NX BX=>?_)))
 change Blk NX xp _ (acK no ba oca ocn occ mb)at BX
 refine cE (cQ (L1:= [NX]) U .nil U (.refl _) aZ ?_)
 exact⟨NX,rfl,BX⟩
end
structure CapR (J:Heaplet) (bs:List Nat) (old:UInt64) (sp:Nat):Prop where
 h: ∃b7 b6,bs= [b7,b6]∧Blk J b7 34 [.int .u64 (old.toNat:Int)]∧Blk J b6 25 [.pointer (some ⟨sp,0,none⟩)]
theorem CapR.le {J K:Heaplet} {bs:List Nat} {old:UInt64} {sp:Nat} (h:CapR J bs old sp) (hl:J.le K):CapR K bs old sp:=by
 obtain⟨b7,b6,e,h1,h2⟩:=h.h
 exact⟨b7,b6,e,h1.le hl,h2.le hl⟩
structure CapL (J:Heaplet) (bs:List Nat) (n:Nat) (sp:Nat):Prop where
 h: ∃b7 b6,bs= [b7,b6]∧Blk J b7 25 [.pointer (some ⟨sp,0,none⟩)]∧Blk J b6 3 [.int .i64 (n:Int)]
theorem CapL.le {J K:Heaplet} {bs:List Nat} {n sp:Nat} (h:CapL J bs n sp) (hl:J.le K):CapL K bs n sp:=by
 obtain⟨b7,b6,e,h1,h2⟩:=h.h
 exact⟨b7,b6,e,h1.le hl,h2.le hl⟩
section
variable {NS J : Heaplet} {sp ma mt mm mw md ws tr og n ln lc : Nat} {bs : List Nat} {rf old : UInt64} {lg u k : Value} {tl : Int} {la : Option Addr}
theorem UnRf (hC:CapR J bs old sp) (BS:Blk NS sp 85 (stK ma mt mm mw md ws tr og rf lg u k tl)):Fn Tryz.prog 94 (capV bs).toArray [NS] [J] (fun _ L=> ∃NS,L= [NS]∧Blk NS sp 85 (stK ma mt mm mw md ws tr og old lg u k tl)):=by
 obtain⟨b7,b6,rfl,h1,h2⟩:=hC.h
 refine Fn.enter (vs:= [.pointer (some ⟨b7,0,none⟩),.pointer (some ⟨b6,0,none⟩)]) Tryz.func94 U U U ?_
 intro E R hR
 have hle:=hR J (by simp)
 have BO:=h1.le hle
 have BP:=h2.le hle
 change At _ _ E [NS,R] _
 refine aB (aU aN sc25 U BP U dG U ?_)
 refine aU aN sc34 U BO U dG U ?_
 refine bH aN U U (aJ aN fl85_1 U U (aJ aN fl83_7 U U (bP nxQ sz34 U U U U U BS (by exact show 0+1+7+1≤13 by decide) sel0 (fun NS BS=>?_))))
 rw [st_rf]at BS
 refine cE (cQ (L1:= [NS]) U .nil U (.refl _) aZ ?_)
 exact⟨NS,rfl,BS⟩
theorem UnLg (hC:CapL J bs n sp) (hn:n≤ln) (hl:ln≤lc) (BS:Blk NS sp 85 (stK ma mt mm mw md ws tr og rf (.slice la ln lc) u k tl)):Fn Tryz.prog 71 (capV bs).toArray [NS] [J] (fun _ L=> ∃NS,L= [NS]∧Blk NS sp 85 (stK ma mt mm mw md ws tr og rf (.slice la n lc) u k tl)):=by
 obtain⟨b7,b6,rfl,h1,h2⟩:=hC.h
 refine Fn.enter (vs:= [.pointer (some ⟨b7,0,none⟩),.pointer (some ⟨b6,0,none⟩)]) Tryz.func71 U U U ?_
 intro E R hR
 have hle:=hR J (by simp)
 have BO:=h1.le hle
 have BP:=h2.le hle
 change At _ _ E [NS,R] _
 refine cS [NS,R] [11] [] [0,1,2,3,4,5,6,7,8,9,10,11] (by kernel_rfl) (by kernel_rfl) (.refl _) (aU (bB U U U) sc25 U BO U dG U ?_)
 refine aU (bB U U U) sc25 U BO U dG U ?_
 refine bH (bB U U U) U U (aJ (bB U U U) fl85_1 U U (aJ (bB U U U) fl83_8 U U (aU (bB U U U) sc60 U BS U cO U ?_)))
 refine aU (bB U U U) sc3 U BP U dG U ?_
 refine op_slice0 (bB U U U) se60 U (.some U (by first|rfl|exact(Int.toNat_of_nonneg (by omega)).symm)) .none (by omega) (by omega) (by simp) U ?_
 refine bH (bB U U U) U U (aJ (bB U U U) fl85_1 U U (aJ (bB U U U) fl83_8 U U (bP (nxsl U U U U) sz60 U U U U U BS (by exact show 0+1+8+1≤13 by decide) sel0 (fun NS BS=>?_))))
 rw [st_lg]at BS
 refine dH (cQ (L1:= [NS]) U .nil U (.refl _) aZ ?_)
 exact⟨NS,rfl,BS⟩
end
theorem joinE_nil {A:Heaplet} :join2 A (joinL [])=A:=by
 funext k
 show(A k).or none=A k
 simp
theorem joinL_two {X Y:Heaplet} :joinL [X,Y]=join2 X Y:=by
 show join2 X (join2 Y (joinL []))=_
 rw [joinE_nil]
theorem joinL_flat {X Y:Heaplet} {C:List Heaplet} : ∀ {A:List Heaplet},joinL (A++join2 X Y::C)=joinL (A++X::Y::C)
 | []=>(join_assoc (A:=X) (B:=Y) (C:=joinL C)).symm
 |B::A=>by
  show join2 B (joinL (A++join2 X Y::C))=join2 B (joinL (A++X::Y::C))
  rw [joinL_flat]
theorem apart_flat {X Y:Heaplet} {A C:List Heaplet} (hxy:Apart X Y) (h:(A++join2 X Y::C).Pairwise Apart):(A++X::Y::C).Pairwise Apart:=by
 rw [List.pairwise_append]at h⊢
 obtain⟨h1,h2,h3⟩:=h
 obtain⟨h4,h5⟩:=List.pairwise_cons.1 h2
 refine⟨h1,List.pairwise_cons.2 ⟨fun Z hZ=>?_,List.pairwise_cons.2 ⟨fun Z hZ=>(apart_right (h4 Z hZ).symm).symm,h5⟩⟩,fun B hB Z hZ=>?_⟩
 ·rcases List.mem_cons.1 hZ with rfl|hZ
  ·exact hxy
  ·exact(apart_left (h4 Z hZ).symm).symm
 ·rcases List.mem_cons.1 hZ with rfl|hZ
  ·exact apart_left (h3 B hB (join2 Z Y) List.mem_cons_self)
  ·rcases List.mem_cons.1 hZ with rfl|hZ
   ·exact apart_right (h3 B hB (join2 X Z) List.mem_cons_self)
   ·exact h3 B hB Z (List.mem_cons_of_mem _ hZ)
theorem apart_fold {X Y:Heaplet} {A C:List Heaplet} (h:(A++X::Y::C).Pairwise Apart):Apart X Y∧(A++join2 X Y::C).Pairwise Apart:=by
 rw [List.pairwise_append]at h
 obtain⟨h1,h2,h3⟩:=h
 obtain⟨h4,h5⟩:=List.pairwise_cons.1 h2
 obtain⟨h6,h7⟩:=List.pairwise_cons.1 h5
 refine⟨h4 Y List.mem_cons_self,List.pairwise_append.2 ⟨h1,List.pairwise_cons.2 ⟨fun Z hZ=>(apart_join (h4 Z (List.mem_cons_of_mem _ hZ)).symm (h6 Z hZ).symm).symm,h7⟩,fun B hB Z hZ=>?_⟩⟩
 rcases List.mem_cons.1 hZ with rfl|hZ
 ·exact apart_join (h3 B hB X List.mem_cons_self) (h3 B hB Y (by simp))
 ·exact h3 B hB Z (by simp [hZ])
def MemP (x:FxP) (c:Nat) (J:JS) (NJ:Heaplet) (u k:Value) (tl:Int) (NS NR:Heaplet):Prop:= ∃(NF NT NM NW ND NP NQ NL NB:Heaplet) (DF DT DM DW DD DP DQ:DataW Value) (la:Option Addr) (lc:Nat) (ls:List Value),NR=joinL [NF,NT,NM,NW,ND,NP,NQ,NL,NB,NJ]∧ [NF,NT,NM,NW,ND,NP,NQ,NL,NB,NJ].Pairwise Apart∧MemO x c J u k tl NS NF NT NM NW ND NP NQ NL NB NJ DF DT DM DW DD DP DQ la lc ls
def UnE.Fit:UnE→JS→Prop
 |.ac k old,J=> ∀p,old=some p→ ∃o,J.ob p=some o∧o.ad=k
 |.sl xp mb _ _,J=> ∃z,J.ob xp=some z∧z.mb=mb
 |.no xp _,J=> ∃z,J.ob xp=some z
 |.ba xp _,J=> ∃z,J.ob xp=some z
 |.co xp _ _ _,J=> ∃z,J.ob xp=some z
 |.lg n,J=>n≤J.lg.length
 |_,_=>True
def CapE (x:FxP) (NJ:Heaplet) (f:FuncId) (bs:List Nat):UnE→Prop
 |.lt k old=>f=92∧okAd k∧CapM NJ 75 115 33 bs x.mt (u8s k) old.isSome []
 |.lm k old=>f=92∧okAd k∧CapM NJ 75 115 33 bs x.mm (u8s k) old.isSome []
 |.lw k old=>f=92∧okAd k∧CapM NJ 75 115 33 bs x.mw (u8s k) old.isSome []
 |.ld k old=>f=92∧okAd k∧CapM NJ 75 115 33 bs x.md (u8s k) old.isSome []
 |.lp k old=>f=90∧okPl k∧CapM NJ 77 115 105 bs x.ws (u8s k.1++u64s (wl k.2)) old.isSome []
 |.lq k old=>f=93∧okPl k∧CapM NJ 79 36 105 bs x.tr (u8s k.1++u64s (wl k.2)) old.isSome (u64s (wl (old.getD 0)))
 |.ac k old=>f=91∧okAd k∧CapM NJ 74 67 33 bs x.ma (u8s k) old.isSome [.pointer (old.map fun p=>⟨p,0,none⟩)]
 |.sl _ mb k old=>f=88∧okWd k∧(∀v,old=some v→v<WW)∧CapM NJ 69 36 36 bs mb (u64s (wl k)) old.isSome (u64s (wl (old.getD 0)))
 |.no xp old=>f=52∧CapX NJ 34 bs [.int .u64 (old.toNat:Int)] xp
 |.ba xp old=>f=56∧old<WW∧CapX NJ 36 bs (u64s (wl old)) xp
 |.co xp ca cc co=>f=55∧RSl NJ 1 ca co.length cc (u8s co)∧co.length≤1099511627776∧CapX NJ 37 bs [.slice ca co.length cc] xp
 |.rf old=>f=94∧CapR NJ bs old x.sp
 |.lg n=>f=71∧CapL NJ bs n x.sp
theorem CapE.le {x:FxP} {J K:Heaplet} {f:FuncId} {bs:List Nat} {e:UnE} (h:CapE x J f bs e) (hl:J.le K):CapE x K f bs e:=by
 cases e with
 |lt _ _=>exact⟨h.1,h.2.1,h.2.2.le hl⟩
 |lm _ _=>exact⟨h.1,h.2.1,h.2.2.le hl⟩
 |lw _ _=>exact⟨h.1,h.2.1,h.2.2.le hl⟩
 |ld _ _=>exact⟨h.1,h.2.1,h.2.2.le hl⟩
 |lp _ _=>exact⟨h.1,h.2.1,h.2.2.le hl⟩
 |lq _ _=>exact⟨h.1,h.2.1,h.2.2.le hl⟩
 |ac _ _=>exact⟨h.1,h.2.1,h.2.2.le hl⟩
 |sl _ _ _ _=>exact⟨h.1,h.2.1,h.2.2.1,h.2.2.2.le hl⟩
 |no _ _=>exact⟨h.1,h.2.le hl⟩
 |ba _ _=>exact⟨h.1,h.2.1,h.2.2.le hl⟩
 |co _ _ _ _=>exact⟨h.1,h.2.1.le hl,h.2.2.1,h.2.2.2.le hl⟩
 |rf _=>exact⟨h.1,h.2.le hl⟩
 |lg _=>exact⟨h.1,h.2.le hl⟩
theorem CapE.fn {x:FxP} {J:Heaplet} {f:FuncId} {bs:List Nat} {e:UnE} (h:CapE x J f bs e): ∃fn,Tryz.prog.funcs[f]? =some fn∧fn.body.isSome=true∧(fn.name== "runtime.NumGoroutine")=false:=by
 cases e with
 |lt _ _=>rw [h.1];exact⟨_,Tryz.func92,rfl,rfl⟩
 |lm _ _=>rw [h.1];exact⟨_,Tryz.func92,rfl,rfl⟩
 |lw _ _=>rw [h.1];exact⟨_,Tryz.func92,rfl,rfl⟩
 |ld _ _=>rw [h.1];exact⟨_,Tryz.func92,rfl,rfl⟩
 |lp _ _=>rw [h.1];exact⟨_,Tryz.func90,rfl,rfl⟩
 |lq _ _=>rw [h.1];exact⟨_,Tryz.func93,rfl,rfl⟩
 |ac _ _=>rw [h.1];exact⟨_,Tryz.func91,rfl,rfl⟩
 |sl _ _ _ _=>rw [h.1];exact⟨_,Tryz.func88,rfl,rfl⟩
 |no _ _=>rw [h.1];exact⟨_,Tryz.func52,rfl,rfl⟩
 |ba _ _=>rw [h.1];exact⟨_,Tryz.func56,rfl,rfl⟩
 |co _ _ _ _=>rw [h.1];exact⟨_,Tryz.func55,rfl,rfl⟩
 |rf _=>rw [h.1];exact⟨_,Tryz.func94,rfl,rfl⟩
 |lg _=>rw [h.1];exact⟨_,Tryz.func71,rfl,rfl⟩
section
variable {x : FxP} {c : Nat} {J : JS} {NJ NS NR : Heaplet} {u k : Value} {tl : Int} {f : FuncId} {bs : List Nat}
theorem wf_run {q:List UInt8} {old:Option Nat} (h: ∀a p,J.ac a=some p→ ∃o,J.ob p=some o∧o.ad=a) (hF:(UnE.ac q old).Fit J): ∀a p,((UnE.ac q old).run J).ac a=some p→ ∃o,((UnE.ac q old).run J).ob p=some o∧o.ad=a:=fun a p hp=>by
 change updF J.ac q old a=some p at hp
 show ∃o,J.ob p=some o∧o.ad=a
 unfold updF at hp
 split at hp
 ·rename_i e;rw [e];exact hF p hp
 ·exact h a p hp
theorem run_lt {q:List UInt8} {old:Option Unit} (hC:CapE x NJ f bs (.lt q old)) (h:MemP x c J NJ u k tl NS NR) (hc:c≤1099511627776):Fn Tryz.prog f ([]++capV bs).toArray [NS,NR] [] (fun _ L=> ∃NS NR,L= [NS,NR]∧MemP x (c+1) ((UnE.lt q old).run J) NJ u k tl NS NR):=by
 obtain⟨NF,NT,NM,NW,ND,NP,NQ,NL,NB,DF,DT,DM,DW,DD,DP,DQ,la,lc,ls,hNR,hap,hO⟩:=h
 obtain⟨rfl,hk,hM⟩:=hC
 subst hNR
 have h1:=UnAU hM hO.T hO.aT hk hc
 refine(h1.inJ (As:= [NF]) (Bs:= [NM,NW,ND,NP,NQ,NL,NB,NJ]) (by simp) hap).mono fun v L ⟨X,hL,hap2,D2,hX,hY⟩=>?_
 have hm:=hO.mono (Nat.le_succ c) (Heaplet.le_refl NJ)
 exact⟨NS,_,hL,NF,X,NM,NW,ND,NP,NQ,NL,NB,DF,D2,DM,DW,DD,DP,DQ,la,lc,ls,rfl,hap2,⟨hm.S,hm.F,hX,hm.M,hm.W,hm.D,hm.P,hm.Q,hm.aF,hY,hm.aM,hm.aW,hm.aD,hm.aP,hm.aQ,hm.L,hm.lg,hm.B,hm.wf,hm.bL⟩⟩
theorem run_lm {q:List UInt8} {old:Option Unit} (hC:CapE x NJ f bs (.lm q old)) (h:MemP x c J NJ u k tl NS NR) (hc:c≤1099511627776):Fn Tryz.prog f ([]++capV bs).toArray [NS,NR] [] (fun _ L=> ∃NS NR,L= [NS,NR]∧MemP x (c+1) ((UnE.lm q old).run J) NJ u k tl NS NR):=by
 obtain⟨NF,NT,NM,NW,ND,NP,NQ,NL,NB,DF,DT,DM,DW,DD,DP,DQ,la,lc,ls,hNR,hap,hO⟩:=h
 obtain⟨rfl,hk,hM⟩:=hC
 subst hNR
 have h1:=UnAU hM hO.M hO.aM hk hc
 refine(h1.inJ (As:= [NF,NT]) (Bs:= [NW,ND,NP,NQ,NL,NB,NJ]) (by simp) hap).mono fun v L ⟨X,hL,hap2,D2,hX,hY⟩=>?_
 have hm:=hO.mono (Nat.le_succ c) (Heaplet.le_refl NJ)
 exact⟨NS,_,hL,NF,NT,X,NW,ND,NP,NQ,NL,NB,DF,DT,D2,DW,DD,DP,DQ,la,lc,ls,rfl,hap2,⟨hm.S,hm.F,hm.T,hX,hm.W,hm.D,hm.P,hm.Q,hm.aF,hm.aT,hY,hm.aW,hm.aD,hm.aP,hm.aQ,hm.L,hm.lg,hm.B,hm.wf,hm.bL⟩⟩
theorem run_lw {q:List UInt8} {old:Option Unit} (hC:CapE x NJ f bs (.lw q old)) (h:MemP x c J NJ u k tl NS NR) (hc:c≤1099511627776):Fn Tryz.prog f ([]++capV bs).toArray [NS,NR] [] (fun _ L=> ∃NS NR,L= [NS,NR]∧MemP x (c+1) ((UnE.lw q old).run J) NJ u k tl NS NR):=by
 obtain⟨NF,NT,NM,NW,ND,NP,NQ,NL,NB,DF,DT,DM,DW,DD,DP,DQ,la,lc,ls,hNR,hap,hO⟩:=h
 obtain⟨rfl,hk,hM⟩:=hC
 subst hNR
 have h1:=UnAU hM hO.W hO.aW hk hc
 refine(h1.inJ (As:= [NF,NT,NM]) (Bs:= [ND,NP,NQ,NL,NB,NJ]) (by simp) hap).mono fun v L ⟨X,hL,hap2,D2,hX,hY⟩=>?_
 have hm:=hO.mono (Nat.le_succ c) (Heaplet.le_refl NJ)
 exact⟨NS,_,hL,NF,NT,NM,X,ND,NP,NQ,NL,NB,DF,DT,DM,D2,DD,DP,DQ,la,lc,ls,rfl,hap2,⟨hm.S,hm.F,hm.T,hm.M,hX,hm.D,hm.P,hm.Q,hm.aF,hm.aT,hm.aM,hY,hm.aD,hm.aP,hm.aQ,hm.L,hm.lg,hm.B,hm.wf,hm.bL⟩⟩
theorem run_ld {q:List UInt8} {old:Option Unit} (hC:CapE x NJ f bs (.ld q old)) (h:MemP x c J NJ u k tl NS NR) (hc:c≤1099511627776):Fn Tryz.prog f ([]++capV bs).toArray [NS,NR] [] (fun _ L=> ∃NS NR,L= [NS,NR]∧MemP x (c+1) ((UnE.ld q old).run J) NJ u k tl NS NR):=by
 obtain⟨NF,NT,NM,NW,ND,NP,NQ,NL,NB,DF,DT,DM,DW,DD,DP,DQ,la,lc,ls,hNR,hap,hO⟩:=h
 obtain⟨rfl,hk,hM⟩:=hC
 subst hNR
 have h1:=UnAU hM hO.D hO.aD hk hc
 refine(h1.inJ (As:= [NF,NT,NM,NW]) (Bs:= [NP,NQ,NL,NB,NJ]) (by simp) hap).mono fun v L ⟨X,hL,hap2,D2,hX,hY⟩=>?_
 have hm:=hO.mono (Nat.le_succ c) (Heaplet.le_refl NJ)
 exact⟨NS,_,hL,NF,NT,NM,NW,X,NP,NQ,NL,NB,DF,DT,DM,DW,D2,DP,DQ,la,lc,ls,rfl,hap2,⟨hm.S,hm.F,hm.T,hm.M,hm.W,hX,hm.P,hm.Q,hm.aF,hm.aT,hm.aM,hm.aW,hY,hm.aP,hm.aQ,hm.L,hm.lg,hm.B,hm.wf,hm.bL⟩⟩
theorem run_lp {q:List UInt8×Nat} {old:Option Unit} (hC:CapE x NJ f bs (.lp q old)) (h:MemP x c J NJ u k tl NS NR) (hc:c≤1099511627776):Fn Tryz.prog f ([]++capV bs).toArray [NS,NR] [] (fun _ L=> ∃NS NR,L= [NS,NR]∧MemP x (c+1) ((UnE.lp q old).run J) NJ u k tl NS NR):=by
 obtain⟨NF,NT,NM,NW,ND,NP,NQ,NL,NB,DF,DT,DM,DW,DD,DP,DQ,la,lc,ls,hNR,hap,hO⟩:=h
 obtain⟨rfl,hk,hM⟩:=hC
 subst hNR
 have h1:=UnPU hM hO.P hO.aP hk hc
 refine(h1.inJ (As:= [NF,NT,NM,NW,ND]) (Bs:= [NQ,NL,NB,NJ]) (by simp) hap).mono fun v L ⟨X,hL,hap2,D2,hX,hY⟩=>?_
 have hm:=hO.mono (Nat.le_succ c) (Heaplet.le_refl NJ)
 exact⟨NS,_,hL,NF,NT,NM,NW,ND,X,NQ,NL,NB,DF,DT,DM,DW,DD,D2,DQ,la,lc,ls,rfl,hap2,⟨hm.S,hm.F,hm.T,hm.M,hm.W,hm.D,hX,hm.Q,hm.aF,hm.aT,hm.aM,hm.aW,hm.aD,hY,hm.aQ,hm.L,hm.lg,hm.B,hm.wf,hm.bL⟩⟩
theorem run_lq {q:List UInt8×Nat} {old:Option Nat} (hC:CapE x NJ f bs (.lq q old)) (h:MemP x c J NJ u k tl NS NR) (hc:c≤1099511627776):Fn Tryz.prog f ([]++capV bs).toArray [NS,NR] [] (fun _ L=> ∃NS NR,L= [NS,NR]∧MemP x (c+1) ((UnE.lq q old).run J) NJ u k tl NS NR):=by
 obtain⟨NF,NT,NM,NW,ND,NP,NQ,NL,NB,DF,DT,DM,DW,DD,DP,DQ,la,lc,ls,hNR,hap,hO⟩:=h
 obtain⟨rfl,hk,hM⟩:=hC
 subst hNR
 have h1:=UnPW hM hO.Q hO.aQ hk hc
 refine(h1.inJ (As:= [NF,NT,NM,NW,ND,NP]) (Bs:= [NL,NB,NJ]) (by simp) hap).mono fun v L ⟨X,hL,hap2,D2,hX,hY⟩=>?_
 have hm:=hO.mono (Nat.le_succ c) (Heaplet.le_refl NJ)
 exact⟨NS,_,hL,NF,NT,NM,NW,ND,NP,X,NL,NB,DF,DT,DM,DW,DD,DP,D2,la,lc,ls,rfl,hap2,⟨hm.S,hm.F,hm.T,hm.M,hm.W,hm.D,hm.P,hX,hm.aF,hm.aT,hm.aM,hm.aW,hm.aD,hm.aP,hY,hm.L,hm.lg,hm.B,hm.wf,hm.bL⟩⟩
theorem run_ac {q:List UInt8} {old:Option Nat} (hC:CapE x NJ f bs (.ac q old)) (hF:(UnE.ac q old).Fit J) (h:MemP x c J NJ u k tl NS NR) (hc:c≤1099511627776):Fn Tryz.prog f ([]++capV bs).toArray [NS,NR] [] (fun _ L=> ∃NS NR,L= [NS,NR]∧MemP x (c+1) ((UnE.ac q old).run J) NJ u k tl NS NR):=by
 obtain⟨NF,NT,NM,NW,ND,NP,NQ,NL,NB,DF,DT,DM,DW,DD,DP,DQ,la,lc,ls,hNR,hap,hO⟩:=h
 obtain⟨rfl,hk,hM⟩:=hC
 subst hNR
 have h1:=UnAP hM hO.F hO.aF hk hc
 refine(h1.inJ (As:= []) (Bs:= [NT,NM,NW,ND,NP,NQ,NL,NB,NJ]) (by simp) hap).mono fun v L ⟨X,hL,hap2,D2,hX,hY⟩=>?_
 have hm:=hO.mono (Nat.le_succ c) (Heaplet.le_refl NJ)
 exact⟨NS,_,hL,X,NT,NM,NW,ND,NP,NQ,NL,NB,D2,DT,DM,DW,DD,DP,DQ,la,lc,ls,rfl,hap2,⟨hm.S,hX,hm.T,hm.M,hm.W,hm.D,hm.P,hm.Q,hY,hm.aT,hm.aM,hm.aW,hm.aD,hm.aP,hm.aQ,hm.L,hm.lg,hm.B,wf_run hO.wf hF,hm.bL⟩⟩
theorem wf_ob {xp:Nat} {z:Ob} {g:Ob→Ob} (h: ∀a p,J.ac a=some p→ ∃o,J.ob p=some o∧o.ad=a) (hz:J.ob xp=some z) (hg:(g z).ad=z.ad): ∀a p,(obF J xp g).ac a=some p→ ∃o,(obF J xp g).ob p=some o∧o.ad=a:=fun a p hp=>by
 obtain⟨o,h1,h2⟩:=h a p hp
 show ∃o,updF J.ob xp ((J.ob xp).map g) p=some o∧o.ad=a
 unfold updF
 split
 ·rename_i e
  rw [e,hz]at h1
  cases h1
  exact⟨g z,by rw [hz];rfl,hg.trans h2⟩
 ·exact⟨o,h1,h2⟩
theorem st_run {g:Nat→Option Nat} {q:Nat} {old:Option Nat} (h: ∀k v,g k=some v→v<WW) (ho: ∀v,old=some v→v<WW) {j v:Nat} (hv:updF g q old j=some v):v<WW:=by
 unfold updF at hv
 split at hv
 ·exact ho v hv
 ·exact h j v hv
theorem Row.take {N:Heaplet} {e:TypeId} {size:Nat} {ao:Option Addr} {n m cap:Nat} {xs:List Value} (h:Row N e size ao n cap xs) (hm:m≤n):Row N e size ao m cap (xs.take (m*size)):=by
 obtain⟨h1,h2,h3,h4⟩:=h
 have hms:m*size≤n*size:=Nat.mul_le_mul_right _ hm
 refine⟨by rw [List.length_take];omega,by omega,h3,?_⟩
 rcases h4 with ⟨a,b,d⟩|⟨b,cur,a,d,g,i⟩
 ·exact .inl ⟨a,by omega,d⟩
 ·refine .inr ⟨b,cur,a,d,g,?_⟩
  rw [←i,List.take_take,Nat.min_eq_left hms]
theorem run_no {xp:Nat} {old:UInt64} (hC:CapE x NJ f bs (.no xp old)) (hF:(UnE.no xp old).Fit J) (h:MemP x c J NJ u k tl NS NR) (hc:c≤1099511627776):Fn Tryz.prog f ([]++capV bs).toArray [NS,NR] [] (fun _ L=> ∃NS NR,L= [NS,NR]∧MemP x (c+1) ((UnE.no xp old).run J) NJ u k tl NS NR):=by
 obtain⟨NF,NT,NM,NW,ND,NP,NQ,NL,NB,DF,DT,DM,DW,DD,DP,DQ,la,lc,ls,hNR,hap,hO⟩:=h
 obtain⟨rfl,hcp⟩:=hC
 obtain⟨z,hz⟩:=hF
 obtain⟨X,R,haXR,eNB,⟨NX,NMp,DX,haX,eX,hX⟩,hR⟩:=hO.B.take hz
 subst hNR eNB eX
 rw [joinL_two]at hap haXR⊢
 have hap1:=apart_flat (A:= [NF,NT,NM,NW,ND,NP,NQ,NL]) (C:= [NJ]) haXR hap
 have hap2:=apart_flat (A:= [NF,NT,NM,NW,ND,NP,NQ,NL]) (C:= [R,NJ]) (by rw [←joinL_two]at*;exact List.rel_of_pairwise_cons haX (by simp)) hap1
 have eJ:joinL [NF,NT,NM,NW,ND,NP,NQ,NL,join2 (join2 NX NMp) R,NJ]=joinL ([NF,NT,NM,NW,ND,NP,NQ,NL]++NX::NMp:: [R,NJ]):=(joinL_flat (A:= [NF,NT,NM,NW,ND,NP,NQ,NL]) (C:= [NJ])).trans (joinL_flat (A:= [NF,NT,NM,NW,ND,NP,NQ,NL]) (C:= [R,NJ]))
 rw [eJ]
 have h1:=UnNo hcp hX.B
 refine(h1.inJ (As:= [NF,NT,NM,NW,ND,NP,NQ,NL]) (Bs:= [NMp,R,NJ]) (by simp) hap2).mono fun v L ⟨Y,hL,hap3,hY⟩=>?_
 have hm:=hO.mono (Nat.le_succ c) (Heaplet.le_refl NJ)
 obtain⟨hxy,hap4⟩:=apart_fold (A:= [NF,NT,NM,NW,ND,NP,NQ,NL]) (X:=Y) (Y:=NMp) (C:= [R,NJ]) hap3
 obtain⟨hxr,hap5⟩:=apart_fold (A:= [NF,NT,NM,NW,ND,NP,NQ,NL]) (X:=join2 Y NMp) (Y:=R) (C:= [NJ]) hap4
 have hX2:=hX.mono (Nat.le_succ c) (Heaplet.le_refl NJ)
 have hob:ObF (join2 (join2 Y NMp) R) NJ (c+1) ((UnE.no xp old).run J).ob:=by
  show ObF _ NJ (c+1) (updF J.ob xp ((J.ob xp).map _))
  rw [hz]
  refine ObF.turn hxr ⟨Y,NMp,DX,List.pairwise_cons.2 ⟨fun Z hZ=>(by rw [List.mem_singleton.1 hZ];exact hxy),List.pairwise_singleton _ _⟩,joinL_two.symm,⟨hY,hX2.M,hX2.A,hX2.C,hX2.ln,hX2.ba,hX2.st⟩⟩ (hR.mono (Nat.le_succ c) (Heaplet.le_refl NJ))
 exact⟨NS,_,hL,NF,NT,NM,NW,ND,NP,NQ,NL,join2 (join2 Y NMp) R,DF,DT,DM,DW,DD,DP,DQ,la,lc,ls,((joinL_flat (A:= [NF,NT,NM,NW,ND,NP,NQ,NL]) (C:= [NJ])).trans (joinL_flat (A:= [NF,NT,NM,NW,ND,NP,NQ,NL]) (C:= [R,NJ]))).symm,hap5,⟨hm.S,hm.F,hm.T,hm.M,hm.W,hm.D,hm.P,hm.Q,hm.aF,hm.aT,hm.aM,hm.aW,hm.aD,hm.aP,hm.aQ,hm.L,hm.lg,hob,wf_ob hO.wf hz rfl,hm.bL⟩⟩
theorem run_ba {xp:Nat} {old:Nat} (hC:CapE x NJ f bs (.ba xp old)) (hF:(UnE.ba xp old).Fit J) (h:MemP x c J NJ u k tl NS NR) (hc:c≤1099511627776):Fn Tryz.prog f ([]++capV bs).toArray [NS,NR] [] (fun _ L=> ∃NS NR,L= [NS,NR]∧MemP x (c+1) ((UnE.ba xp old).run J) NJ u k tl NS NR):=by
 obtain⟨NF,NT,NM,NW,ND,NP,NQ,NL,NB,DF,DT,DM,DW,DD,DP,DQ,la,lc,ls,hNR,hap,hO⟩:=h
 obtain⟨rfl,hwo,hcp⟩:=hC
 obtain⟨z,hz⟩:=hF
 obtain⟨X,R,haXR,eNB,⟨NX,NMp,DX,haX,eX,hX⟩,hR⟩:=hO.B.take hz
 subst hNR eNB eX
 rw [joinL_two]at hap haXR⊢
 have hap1:=apart_flat (A:= [NF,NT,NM,NW,ND,NP,NQ,NL]) (C:= [NJ]) haXR hap
 have hap2:=apart_flat (A:= [NF,NT,NM,NW,ND,NP,NQ,NL]) (C:= [R,NJ]) (by rw [←joinL_two]at*;exact List.rel_of_pairwise_cons haX (by simp)) hap1
 have eJ:joinL [NF,NT,NM,NW,ND,NP,NQ,NL,join2 (join2 NX NMp) R,NJ]=joinL ([NF,NT,NM,NW,ND,NP,NQ,NL]++NX::NMp:: [R,NJ]):=(joinL_flat (A:= [NF,NT,NM,NW,ND,NP,NQ,NL]) (C:= [NJ])).trans (joinL_flat (A:= [NF,NT,NM,NW,ND,NP,NQ,NL]) (C:= [R,NJ]))
 rw [eJ]
 have h1:=UnBa hcp hX.B
 refine(h1.inJ (As:= [NF,NT,NM,NW,ND,NP,NQ,NL]) (Bs:= [NMp,R,NJ]) (by simp) hap2).mono fun v L ⟨Y,hL,hap3,hY⟩=>?_
 have hm:=hO.mono (Nat.le_succ c) (Heaplet.le_refl NJ)
 obtain⟨hxy,hap4⟩:=apart_fold (A:= [NF,NT,NM,NW,ND,NP,NQ,NL]) (X:=Y) (Y:=NMp) (C:= [R,NJ]) hap3
 obtain⟨hxr,hap5⟩:=apart_fold (A:= [NF,NT,NM,NW,ND,NP,NQ,NL]) (X:=join2 Y NMp) (Y:=R) (C:= [NJ]) hap4
 have hX2:=hX.mono (Nat.le_succ c) (Heaplet.le_refl NJ)
 have hob:ObF (join2 (join2 Y NMp) R) NJ (c+1) ((UnE.ba xp old).run J).ob:=by
  show ObF _ NJ (c+1) (updF J.ob xp ((J.ob xp).map _))
  rw [hz]
  refine ObF.turn hxr ⟨Y,NMp,DX,List.pairwise_cons.2 ⟨fun Z hZ=>(by rw [List.mem_singleton.1 hZ];exact hxy),List.pairwise_singleton _ _⟩,joinL_two.symm,⟨hY,hX2.M,hX2.A,hX2.C,hX2.ln,hwo,hX2.st⟩⟩ (hR.mono (Nat.le_succ c) (Heaplet.le_refl NJ))
 exact⟨NS,_,hL,NF,NT,NM,NW,ND,NP,NQ,NL,join2 (join2 Y NMp) R,DF,DT,DM,DW,DD,DP,DQ,la,lc,ls,((joinL_flat (A:= [NF,NT,NM,NW,ND,NP,NQ,NL]) (C:= [NJ])).trans (joinL_flat (A:= [NF,NT,NM,NW,ND,NP,NQ,NL]) (C:= [R,NJ]))).symm,hap5,⟨hm.S,hm.F,hm.T,hm.M,hm.W,hm.D,hm.P,hm.Q,hm.aF,hm.aT,hm.aM,hm.aW,hm.aD,hm.aP,hm.aQ,hm.L,hm.lg,hob,wf_ob hO.wf hz rfl,hm.bL⟩⟩
theorem run_co {xp:Nat} {ca:Option Addr} {cc:Nat} {co:List UInt8} (hC:CapE x NJ f bs (.co xp ca cc co)) (hF:(UnE.co xp ca cc co).Fit J) (h:MemP x c J NJ u k tl NS NR) (hc:c≤1099511627776):Fn Tryz.prog f ([]++capV bs).toArray [NS,NR] [] (fun _ L=> ∃NS NR,L= [NS,NR]∧MemP x (c+1) ((UnE.co xp ca cc co).run J) NJ u k tl NS NR):=by
 obtain⟨NF,NT,NM,NW,ND,NP,NQ,NL,NB,DF,DT,DM,DW,DD,DP,DQ,la,lc,ls,hNR,hap,hO⟩:=h
 obtain⟨rfl,hrs,hln,hcp⟩:=hC
 obtain⟨z,hz⟩:=hF
 obtain⟨X,R,haXR,eNB,⟨NX,NMp,DX,haX,eX,hX⟩,hR⟩:=hO.B.take hz
 subst hNR eNB eX
 rw [joinL_two]at hap haXR⊢
 have hap1:=apart_flat (A:= [NF,NT,NM,NW,ND,NP,NQ,NL]) (C:= [NJ]) haXR hap
 have hap2:=apart_flat (A:= [NF,NT,NM,NW,ND,NP,NQ,NL]) (C:= [R,NJ]) (by rw [←joinL_two]at*;exact List.rel_of_pairwise_cons haX (by simp)) hap1
 have eJ:joinL [NF,NT,NM,NW,ND,NP,NQ,NL,join2 (join2 NX NMp) R,NJ]=joinL ([NF,NT,NM,NW,ND,NP,NQ,NL]++NX::NMp:: [R,NJ]):=(joinL_flat (A:= [NF,NT,NM,NW,ND,NP,NQ,NL]) (C:= [NJ])).trans (joinL_flat (A:= [NF,NT,NM,NW,ND,NP,NQ,NL]) (C:= [R,NJ]))
 rw [eJ]
 have h1:=UnCo hcp hX.B
 refine(h1.inJ (As:= [NF,NT,NM,NW,ND,NP,NQ,NL]) (Bs:= [NMp,R,NJ]) (by simp) hap2).mono fun v L ⟨Y,hL,hap3,hY⟩=>?_
 have hm:=hO.mono (Nat.le_succ c) (Heaplet.le_refl NJ)
 obtain⟨hxy,hap4⟩:=apart_fold (A:= [NF,NT,NM,NW,ND,NP,NQ,NL]) (X:=Y) (Y:=NMp) (C:= [R,NJ]) hap3
 obtain⟨hxr,hap5⟩:=apart_fold (A:= [NF,NT,NM,NW,ND,NP,NQ,NL]) (X:=join2 Y NMp) (Y:=R) (C:= [NJ]) hap4
 have hX2:=hX.mono (Nat.le_succ c) (Heaplet.le_refl NJ)
 have hob:ObF (join2 (join2 Y NMp) R) NJ (c+1) ((UnE.co xp ca cc co).run J).ob:=by
  show ObF _ NJ (c+1) (updF J.ob xp ((J.ob xp).map _))
  rw [hz]
  refine ObF.turn hxr ⟨Y,NMp,DX,List.pairwise_cons.2 ⟨fun Z hZ=>(by rw [List.mem_singleton.1 hZ];exact hxy),List.pairwise_singleton _ _⟩,joinL_two.symm,⟨hY,hX2.M,hX2.A,hrs,hln,hX2.ba,hX2.st⟩⟩ (hR.mono (Nat.le_succ c) (Heaplet.le_refl NJ))
 exact⟨NS,_,hL,NF,NT,NM,NW,ND,NP,NQ,NL,join2 (join2 Y NMp) R,DF,DT,DM,DW,DD,DP,DQ,la,lc,ls,((joinL_flat (A:= [NF,NT,NM,NW,ND,NP,NQ,NL]) (C:= [NJ])).trans (joinL_flat (A:= [NF,NT,NM,NW,ND,NP,NQ,NL]) (C:= [R,NJ]))).symm,hap5,⟨hm.S,hm.F,hm.T,hm.M,hm.W,hm.D,hm.P,hm.Q,hm.aF,hm.aT,hm.aM,hm.aW,hm.aD,hm.aP,hm.aQ,hm.L,hm.lg,hob,wf_ob hO.wf hz rfl,hm.bL⟩⟩
theorem run_sl {xp mb q:Nat} {old:Option Nat} (hC:CapE x NJ f bs (.sl xp mb q old)) (hF:(UnE.sl xp mb q old).Fit J) (h:MemP x c J NJ u k tl NS NR) (hc:c≤1099511627776):Fn Tryz.prog f ([]++capV bs).toArray [NS,NR] [] (fun _ L=> ∃NS NR,L= [NS,NR]∧MemP x (c+1) ((UnE.sl xp mb q old).run J) NJ u k tl NS NR):=by
 obtain⟨NF,NT,NM,NW,ND,NP,NQ,NL,NB,DF,DT,DM,DW,DD,DP,DQ,la,lc,ls,hNR,hap,hO⟩:=h
 obtain⟨rfl,hqk,hov,hcp⟩:=hC
 obtain⟨z,hz,hmb⟩:=hF
 obtain⟨X,R,haXR,eNB,⟨NX,NMp,DX,haX,eX,hX⟩,hR⟩:=hO.B.take hz
 subst hNR eNB eX
 rw [joinL_two]at hap haXR⊢
 have hap1:=apart_flat (A:= [NF,NT,NM,NW,ND,NP,NQ,NL]) (C:= [NJ]) haXR hap
 have hap2:=apart_flat (A:= [NF,NT,NM,NW,ND,NP,NQ,NL]) (C:= [R,NJ]) (by rw [←joinL_two]at*;exact List.rel_of_pairwise_cons haX (by simp)) hap1
 have eJ:joinL [NF,NT,NM,NW,ND,NP,NQ,NL,join2 (join2 NX NMp) R,NJ]=joinL ([NF,NT,NM,NW,ND,NP,NQ,NL]++NX::NMp:: [R,NJ]):=(joinL_flat (A:= [NF,NT,NM,NW,ND,NP,NQ,NL]) (C:= [NJ])).trans (joinL_flat (A:= [NF,NT,NM,NW,ND,NP,NQ,NL]) (C:= [R,NJ]))
 rw [eJ]
 have h1:=UnWW hcp (hmb▸hX.M) hX.A hqk hc
 refine(h1.inJ (As:= [NF,NT,NM,NW,ND,NP,NQ,NL,NX]) (Bs:= [R,NJ]) (by simp) hap2).mono fun v L ⟨Y,hL,hap3,hY⟩=>?_
 have hm:=hO.mono (Nat.le_succ c) (Heaplet.le_refl NJ)
 obtain⟨hxy,hap4⟩:=apart_fold (A:= [NF,NT,NM,NW,ND,NP,NQ,NL]) (X:=NX) (Y:=Y) (C:= [R,NJ]) hap3
 obtain⟨hxr,hap5⟩:=apart_fold (A:= [NF,NT,NM,NW,ND,NP,NQ,NL]) (X:=join2 NX Y) (Y:=R) (C:= [NJ]) hap4
 obtain⟨DY,hYm,hYa⟩:=hY
 have hX2:=hX.mono (Nat.le_succ c) (Heaplet.le_refl NJ)
 have hob:ObF (join2 (join2 NX Y) R) NJ (c+1) ((UnE.sl xp mb q old).run J).ob:=by
  show ObF _ NJ (c+1) (updF J.ob xp ((J.ob xp).map _))
  rw [hz]
  refine ObF.turn hxr ⟨NX,Y,DY,List.pairwise_cons.2 ⟨fun Z hZ=>(by rw [List.mem_singleton.1 hZ];exact hxy),List.pairwise_singleton _ _⟩,joinL_two.symm,⟨hX2.B,hmb▸hYm,hYa,hX2.C,hX2.ln,hX2.ba,fun j v hv=>st_run hX2.st hov hv⟩⟩ (hR.mono (Nat.le_succ c) (Heaplet.le_refl NJ))
 exact⟨NS,_,hL,NF,NT,NM,NW,ND,NP,NQ,NL,join2 (join2 NX Y) R,DF,DT,DM,DW,DD,DP,DQ,la,lc,ls,((joinL_flat (A:= [NF,NT,NM,NW,ND,NP,NQ,NL]) (C:= [NJ])).trans (joinL_flat (A:= [NF,NT,NM,NW,ND,NP,NQ,NL]) (C:= [R,NJ]))).symm,hap5,⟨hm.S,hm.F,hm.T,hm.M,hm.W,hm.D,hm.P,hm.Q,hm.aF,hm.aT,hm.aM,hm.aW,hm.aD,hm.aP,hm.aQ,hm.L,hm.lg,hob,wf_ob hO.wf hz rfl,hm.bL⟩⟩
theorem run_rf {old:UInt64} (hC:CapE x NJ f bs (.rf old)) (h:MemP x c J NJ u k tl NS NR):Fn Tryz.prog f ([]++capV bs).toArray [NS,NR] [] (fun _ L=> ∃NS NR,L= [NS,NR]∧MemP x (c+1) ((UnE.rf old).run J) NJ u k tl NS NR):=by
 obtain⟨NF,NT,NM,NW,ND,NP,NQ,NL,NB,DF,DT,DM,DW,DD,DP,DQ,la,lc,ls,hNR,hap,hO⟩:=h
 obtain⟨rfl,hcp⟩:=hC
 have hle:NJ.le NR:=by rw [hNR];exact le_joinL hap (by simp)
 have hm:=hO.mono (Nat.le_succ c) (Heaplet.le_refl NJ)
 refine((UnRf (hcp.le hle) hO.S).frameR [NR] (by simp)).mono fun v L ⟨L1,hL,X,hX,hY⟩=>?_
 subst hX
 exact⟨X,NR,hL,NF,NT,NM,NW,ND,NP,NQ,NL,NB,DF,DT,DM,DW,DD,DP,DQ,la,lc,ls,hNR,hap,⟨hY,hm.F,hm.T,hm.M,hm.W,hm.D,hm.P,hm.Q,hm.aF,hm.aT,hm.aM,hm.aW,hm.aD,hm.aP,hm.aQ,hm.L,hm.lg,hm.B,hm.wf,hm.bL⟩⟩
theorem run_lg {n:Nat} (hC:CapE x NJ f bs (.lg n)) (hF:(UnE.lg n).Fit J) (h:MemP x c J NJ u k tl NS NR):Fn Tryz.prog f ([]++capV bs).toArray [NS,NR] [] (fun _ L=> ∃NS NR,L= [NS,NR]∧MemP x (c+1) ((UnE.lg n).run J) NJ u k tl NS NR):=by
 obtain⟨NF,NT,NM,NW,ND,NP,NQ,NL,NB,DF,DT,DM,DW,DD,DP,DQ,la,lc,ls,hNR,hap,hO⟩:=h
 obtain⟨rfl,hcp⟩:=hC
 have hF:n≤J.lg.length:=hF
 have hle:NJ.le NR:=by rw [hNR];exact le_joinL hap (by simp)
 have hm:=hO.mono (Nat.le_succ c) (Heaplet.le_refl NJ)
 have htk:(J.lg.take n).length=n:=by rw [List.length_take];omega
 refine((UnLg (hcp.le hle) hF hO.L.rsl.cap63.1 hO.S).frameR [NR] (by simp)).mono fun v L ⟨L1,hL,X,hX,hY⟩=>?_
 subst hX
 have hbl:=hm.bL
 have hL2:Row NL 93 22 la (J.lg.take n).length lc (ls.take (n*22)):=by rw [htk];exact hO.L.take hF
 refine⟨X,NR,hL,NF,NT,NM,NW,ND,NP,NQ,NL,NB,DF,DT,DM,DW,DD,DP,DQ,la,lc,ls.take (n*22),hNR,hap,⟨?_,hm.F,hm.T,hm.M,hm.W,hm.D,hm.P,hm.Q,hm.aF,hm.aT,hm.aM,hm.aW,hm.aD,hm.aP,hm.aQ,hL2,hm.lg.take n,hm.B,hm.wf,?_⟩⟩
 ·show Blk X x.sp _ (stK x.ma x.mt x.mm x.mw x.md x.ws x.tr x.og J.rf (.slice la (J.lg.take n).length lc) u k tl)
  rw [htk];exact hY
 ·show(J.lg.take n).length≤c+1
  omega
theorem undo_run {e:UnE} (hC:CapE x NJ f bs e) (hF:e.Fit J) (h:MemP x c J NJ u k tl NS NR) (hc:c≤1099511627776):Fn Tryz.prog f ([]++capV bs).toArray [NS,NR] [] (fun _ L=> ∃NS NR,L= [NS,NR]∧MemP x (c+1) (e.run J) NJ u k tl NS NR):=by
 cases e with
 |lt _ _=>exact run_lt hC h hc
 |lm _ _=>exact run_lm hC h hc
 |lw _ _=>exact run_lw hC h hc
 |ld _ _=>exact run_ld hC h hc
 |lp _ _=>exact run_lp hC h hc
 |lq _ _=>exact run_lq hC h hc
 |ac _ _=>exact run_ac hC hF h hc
 |sl _ _ _ _=>exact run_sl hC hF h hc
 |no _ _=>exact run_no hC hF h hc
 |ba _ _=>exact run_ba hC hF h hc
 |co _ _ _ _=>exact run_co hC hF h hc
 |rf _=>exact run_rf hC h
 |lg _=>exact run_lg hC hF h
end
theorem CapM.mk4 {J N9 N8 N5 N6:Heaplet} {tm tv tk:TypeId} {b9 b8 b5 b6 mb:Nat} {kc cs:List Value} {hd:Bool} (h1:Blk N9 b9 4 [.bool hd]) (h2:Blk N8 b8 tv cs) (h3:Blk N5 b5 tm [.map (some mb)]) (h4:Blk N6 b6 tk kc) (l1:N9.le J) (l2:N8.le J) (l3:N5.le J) (l4:N6.le J):CapM J tm tv tk [b9,b8,b5,b6] mb kc hd cs:=⟨b9,b8,b5,b6,rfl,h1.le l1,h2.le l2,h3.le l3,h4.le l4⟩
section
variable {NS NU Nm : Heaplet} {sp ma mt mm mw md ws tr og : Nat} {rf : UInt64} {lg mk : Value} {tl : Int} {ua : Option Addr} {un uc : Nat} {us : List Value} {D : DataW Value} {mb c : Nat}
set_option maxHeartbeats 1000000 in
theorem PutAU {k:List UInt8} {f:List UInt8→Option Unit} (v:Unit) (BS:Blk NS sp 85 (stK ma mt mm mw md ws tr og rf lg (.slice ua un uc) mk tl)) (r:Row NU 1 1 ua un uc us) (hu:un≤1099511627776) (hM:MapV Tryz.prog 33 Nm mb c D) (hA:MapF keyA okAd unitV D f) (hk:okAd k) (hc:c≤1099511627776):Fn Tryz.prog 67 #[.pointer (some ⟨sp,0,none⟩),.map (some mb),.agg (u8s k).toArray,.agg #[]] [NS,Nm,NU] [] (fun w L=> ∃(NS Nm NU NB:Heaplet) (a:Option Addr) (c':Nat) (D:DataW Value) (bs:List Nat),w=.tuple #[]∧L= [NS,Nm,NU,NB]∧Blk NS sp 85 (stK ma mt mm mw md ws tr og rf lg (.slice a (un+1) c') mk tl)∧Row NU 1 1 a (un+1) c' (us++ [cloV 92 bs])∧MapV Tryz.prog 33 Nm mb (c+1) D∧MapF keyA okAd unitV D (updF f k (some v))∧CapM NB 75 115 33 bs mb (u8s k) (f k).isSome ([])):=by
 have hul:(u8s k).length=_:=len_A hk
 have hlk:D.atKey (keyA k) (.held (.agg #[]))=.held (.agg #[]):=by rw [hA.look hk];cases f k<;>rfl
 have hh:=hA.has hk
 refine Fn.enter (vs:= [.pointer (some ⟨sp,0,none⟩),.map (some mb),.agg (u8s k).toArray,.agg #[]]) Tryz.func67 U U U ?_
 intro E R hR
 change At _ _ E [NS,Nm,NU,R] _
 refine aH fun _ s_1=>aB (cU bT U U U (fun N5 b5 B5=>cU bT U U U (fun N6 b6 B6=>cU bT U U U (fun N7 b7 B7=>aI (s_1 (aH fun _ s_2=>aB (aU aN sc75 U B5 U mem2 U ?_)))))))
 refine aK (ds:=u8s k) aN ag33 U B6 (by exact bJ hul) (by exact hul) dG U ?_
 refine op_lookupV bT kd33 Tryz.underlying75 (fun _=>by first|rfl|kernel_rfl) U U hM (keyA_spec hk) (hlk) (by simp) U ?_
 refine bC U U (bW aN U U U (bW aN U U U (bZ bT ze115 U (fun N8 b8 B8=>?_))))
 change Blk N8 b8 _ []at B8
 refine bZ bT ze4 U (fun N9 b9 B9=>?_)
 change Blk N9 b9 _ [.bool false]at B9
 refine bP nxQ sz115 U U U U U B8 (by simp) sel1 (fun N8 B8=>?_)
 simp only [setL,List.set]at B8
 refine bP nxQ sz4 U U U U U B9 (by simp) sel1 (fun N9 B9=>?_)
 simp only [setL,List.set]at B9
 refine aI (s_2 (aH fun _ s_3=>aB (aU aN sc75 U B5 U mem4 U ?_)))
 refine aK (ds:=u8s k) aN ag33 U B6 (by exact bJ hul) (by exact hul) mem3 U ?_
 refine aK (ds:= []) aN ag115 U B7 U U mem2 U ?_
 refine op_mapUpdateV nxQ kd33 Tryz.underlying75 U U U hM ((by unfold maxLen;omega)) (keyA_spec hk) sel6 (fun Nm hM ho=>?_)
 refine aI (s_3 (aB (bC U U (op_mkF aN .nil (.cons U (.cons U (.cons U (.cons U .nil)))) U (a6 (aY (aY (aY (aY (aY (aY (a6 (a6 (cR nxQ (.cons U (.cons U .nil)) (FUndoableX BS r hu) (F:= [Nm,N9,N8,N7,N6,N5,R]) Tryz.func51 U U aZ (by simp) U ?_))))))))))))))
 rintro _ _ ⟨NS,NU,a21,c21,rfl,rfl,BS,r21⟩
 show At _ _ _ [NS,NU,Nm,N9,N8,N7,N6,N5,R] _
 skip
 refine cE (a6 (a6 (a6 (a6 (aY (aY (aY (a6 (a6 (cV (fun Qa Qa1 Qa2=>bM (bS (bS (bS (bS (bS (aY (bM (cV (fun Qb Qb1 Qb2=>aY (aY (aY (aY (aY (bS (aY (cV (fun Q Q1 Q2=>dropAt4 (bA (cH (bI (bA (bA (cQ (L1:= [NS,Nm,NU,Q]) U .nil U (.refl _) aZ ?_))))))))))))))))))))))))))))))))))
 exact⟨NS,Nm,NU,Q,a21,c21,_,[b9,b8,b5,b6],rfl,rfl,BS,r21,hM,hA.put keE_A hk v,CapM.mk4 (by rw [←hh];exact B9) B8 B5 B6 (Heaplet.le_trans Qa1 Q1) (Heaplet.le_trans Qa2 Q1) (Heaplet.le_trans Qb1 Q2) (Heaplet.le_trans Qb2 Q2)⟩
set_option maxHeartbeats 1000000 in
theorem PutPU {k:List UInt8×Nat} {f:List UInt8×Nat→Option Unit} (v:Unit) (BS:Blk NS sp 85 (stK ma mt mm mw md ws tr og rf lg (.slice ua un uc) mk tl)) (r:Row NU 1 1 ua un uc us) (hu:un≤1099511627776) (hM:MapV Tryz.prog 105 Nm mb c D) (hA:MapF keyPP okPl unitV D f) (hk:okPl k) (hc:c≤1099511627776):Fn Tryz.prog 63 #[.pointer (some ⟨sp,0,none⟩),.map (some mb),.agg (u8s k.1++u64s (wl k.2)).toArray,.agg #[]] [NS,Nm,NU] [] (fun w L=> ∃(NS Nm NU NB:Heaplet) (a:Option Addr) (c':Nat) (D:DataW Value) (bs:List Nat),w=.tuple #[]∧L= [NS,Nm,NU,NB]∧Blk NS sp 85 (stK ma mt mm mw md ws tr og rf lg (.slice a (un+1) c') mk tl)∧Row NU 1 1 a (un+1) c' (us++ [cloV 90 bs])∧MapV Tryz.prog 105 Nm mb (c+1) D∧MapF keyPP okPl unitV D (updF f k (some v))∧CapM NB 77 115 105 bs mb (u8s k.1++u64s (wl k.2)) (f k).isSome ([])):=by
 have hul:(u8s k.1++u64s (wl k.2)).length=_:=place_len hk
 have hlk:D.atKey (keyPP k) (.held (.agg #[]))=.held (.agg #[]):=by rw [hA.look hk];cases f k<;>rfl
 have hh:=hA.has hk
 refine Fn.enter (vs:= [.pointer (some ⟨sp,0,none⟩),.map (some mb),.agg (u8s k.1++u64s (wl k.2)).toArray,.agg #[]]) Tryz.func63 U U U ?_
 intro E R hR
 change At _ _ E [NS,Nm,NU,R] _
 refine aH fun _ s_1=>aB (cU bT U U U (fun N5 b5 B5=>cU bT U U U (fun N6 b6 B6=>cU bT U U U (fun N7 b7 B7=>aI (s_1 (aH fun _ s_2=>aB (aU aN sc77 U B5 U mem2 U ?_)))))))
 refine aK (ds:=u8s k.1++u64s (wl k.2)) aN ag105 U B6 (by exact bJ hul) (by exact hul) dG U ?_
 refine op_lookupV bT kd105 Tryz.underlying77 (fun _=>by first|rfl|kernel_rfl) U U hM (keyP_spec hk.1 k.2) (hlk) (by simp) U ?_
 refine bC U U (bW aN U U U (bW aN U U U (bZ bT ze115 U (fun N8 b8 B8=>?_))))
 change Blk N8 b8 _ []at B8
 refine bZ bT ze4 U (fun N9 b9 B9=>?_)
 change Blk N9 b9 _ [.bool false]at B9
 refine bP nxQ sz115 U U U U U B8 (by simp) sel1 (fun N8 B8=>?_)
 simp only [setL,List.set]at B8
 refine bP nxQ sz4 U U U U U B9 (by simp) sel1 (fun N9 B9=>?_)
 simp only [setL,List.set]at B9
 refine aI (s_2 (aH fun _ s_3=>aB (aU aN sc77 U B5 U mem4 U ?_)))
 refine aK (ds:=u8s k.1++u64s (wl k.2)) aN ag105 U B6 (by exact bJ hul) (by exact hul) mem3 U ?_
 refine aK (ds:= []) aN ag115 U B7 U U mem2 U ?_
 refine op_mapUpdateV nxQ kd105 Tryz.underlying77 U U U hM ((by unfold maxLen;omega)) (keyP_spec hk.1 k.2) sel6 (fun Nm hM ho=>?_)
 refine aI (s_3 (aB (bC U U (op_mkF aN .nil (.cons U (.cons U (.cons U (.cons U .nil)))) U (a6 (aY (aY (aY (aY (aY (aY (a6 (a6 (cR nxQ (.cons U (.cons U .nil)) (FUndoableX BS r hu) (F:= [Nm,N9,N8,N7,N6,N5,R]) Tryz.func51 U U aZ (by simp) U ?_))))))))))))))
 rintro _ _ ⟨NS,NU,a21,c21,rfl,rfl,BS,r21⟩
 show At _ _ _ [NS,NU,Nm,N9,N8,N7,N6,N5,R] _
 skip
 refine cE (a6 (a6 (a6 (a6 (aY (aY (aY (a6 (a6 (cV (fun Qa Qa1 Qa2=>bM (bS (bS (bS (bS (bS (aY (bM (cV (fun Qb Qb1 Qb2=>aY (aY (aY (aY (aY (bS (aY (cV (fun Q Q1 Q2=>dropAt4 (bA (cH (bI (bA (bA (cQ (L1:= [NS,Nm,NU,Q]) U .nil U (.refl _) aZ ?_))))))))))))))))))))))))))))))))))
 exact⟨NS,Nm,NU,Q,a21,c21,_,[b9,b8,b5,b6],rfl,rfl,BS,r21,hM,hA.put keE_P hk v,CapM.mk4 (by rw [←hh];exact B9) B8 B5 B6 (Heaplet.le_trans Qa1 Q1) (Heaplet.le_trans Qa2 Q1) (Heaplet.le_trans Qb1 Q2) (Heaplet.le_trans Qb2 Q2)⟩
set_option maxHeartbeats 1000000 in
theorem PutPW {k:List UInt8×Nat} {f:List UInt8×Nat→Option Nat} (v:Nat) (BS:Blk NS sp 85 (stK ma mt mm mw md ws tr og rf lg (.slice ua un uc) mk tl)) (r:Row NU 1 1 ua un uc us) (hu:un≤1099511627776) (hM:MapV Tryz.prog 105 Nm mb c D) (hA:MapF keyPP okPl wordV D f) (hk:okPl k) (hc:c≤1099511627776):Fn Tryz.prog 68 #[.pointer (some ⟨sp,0,none⟩),.map (some mb),.agg (u8s k.1++u64s (wl k.2)).toArray,wordV v] [NS,Nm,NU] [] (fun w L=> ∃(NS Nm NU NB:Heaplet) (a:Option Addr) (c':Nat) (D:DataW Value) (bs:List Nat),w=.tuple #[]∧L= [NS,Nm,NU,NB]∧Blk NS sp 85 (stK ma mt mm mw md ws tr og rf lg (.slice a (un+1) c') mk tl)∧Row NU 1 1 a (un+1) c' (us++ [cloV 93 bs])∧MapV Tryz.prog 105 Nm mb (c+1) D∧MapF keyPP okPl wordV D (updF f k (some v))∧CapM NB 79 36 105 bs mb (u8s k.1++u64s (wl k.2)) (f k).isSome (u64s (wl ((f k).getD 0)))):=by
 have hul:(u8s k.1++u64s (wl k.2)).length=_:=place_len hk
 have hlk:D.atKey (keyPP k) (.held (wordV 0))=.held (wordV ((f k).getD 0)):=by rw [hA.look hk];cases f k<;>rfl
 have hh:=hA.has hk
 have hol:=bQ ((f k).getD 0)
 refine Fn.enter (vs:= [.pointer (some ⟨sp,0,none⟩),.map (some mb),.agg (u8s k.1++u64s (wl k.2)).toArray,.agg (u64s (wl v)).toArray]) Tryz.func68 U U U ?_
 intro E R hR
 change At _ _ E [NS,Nm,NU,R] _
 refine aH fun _ s_1=>aB (cU bT U U U (fun N5 b5 B5=>cU bT U U U (fun N6 b6 B6=>cU bT U U U (fun N7 b7 B7=>aI (s_1 (aH fun _ s_2=>aB (aU aN sc79 U B5 U mem2 U ?_)))))))
 refine aK (ds:=u8s k.1++u64s (wl k.2)) aN ag105 U B6 (by exact bJ hul) (by exact hul) dG U ?_
 refine op_lookupV bT kd105 Tryz.underlying79 (fun _=>by first|rfl|kernel_rfl) U U hM (keyP_spec hk.1 k.2) (hlk) (by simp) U ?_
 refine bC U U (bW aN U U U (bW aN U U U (bZ bT ze36 U (fun N8 b8 B8=>?_))))
 change Blk N8 b8 _ [.int .u64 0,.int .u64 0,.int .u64 0,.int .u64 0]at B8
 refine bZ bT ze4 U (fun N9 b9 B9=>?_)
 change Blk N9 b9 _ [.bool false]at B9
 refine bP nxQ sz36 U U U hol (one_wl _) B8 (by rw [hol];exact Nat.le_refl _) sel1 (fun N8 B8=>?_)
 rw [setL_whole (by rw [hol];rfl)]at B8
 refine bP nxQ sz4 U U U U U B9 (by simp) sel1 (fun N9 B9=>?_)
 simp only [setL,List.set]at B9
 refine aI (s_2 (aH fun _ s_3=>aB (aU aN sc79 U B5 U mem4 U ?_)))
 refine aK (ds:=u8s k.1++u64s (wl k.2)) aN ag105 U B6 (by exact bJ hul) (by exact hul) mem3 U ?_
 refine aK (ds:=u64s (wl v)) aN ag36 U B7 (by exact bJ (bQ v)) (by exact bQ v) mem2 U ?_
 refine op_mapUpdateV nxQ kd105 Tryz.underlying79 U U U hM ((by unfold maxLen;omega)) (keyP_spec hk.1 k.2) sel6 (fun Nm hM ho=>?_)
 refine aI (s_3 (aB (bC U U (op_mkF aN .nil (.cons U (.cons U (.cons U (.cons U .nil)))) U (a6 (aY (aY (aY (aY (aY (aY (a6 (a6 (cR nxQ (.cons U (.cons U .nil)) (FUndoableX BS r hu) (F:= [Nm,N9,N8,N7,N6,N5,R]) Tryz.func51 U U aZ (by simp) U ?_))))))))))))))
 rintro _ _ ⟨NS,NU,a21,c21,rfl,rfl,BS,r21⟩
 show At _ _ _ [NS,NU,Nm,N9,N8,N7,N6,N5,R] _
 skip
 refine cE (a6 (a6 (a6 (a6 (aY (aY (aY (a6 (a6 (cV (fun Qa Qa1 Qa2=>bM (bS (bS (bS (bS (bS (aY (bM (cV (fun Qb Qb1 Qb2=>aY (aY (aY (aY (aY (bS (aY (cV (fun Q Q1 Q2=>dropAt4 (bA (cH (bI (bA (bA (cQ (L1:= [NS,Nm,NU,Q]) U .nil U (.refl _) aZ ?_))))))))))))))))))))))))))))))))))
 exact⟨NS,Nm,NU,Q,a21,c21,_,[b9,b8,b5,b6],rfl,rfl,BS,r21,hM,hA.put keE_P hk v,CapM.mk4 (by rw [←hh];exact B9) B8 B5 B6 (Heaplet.le_trans Qa1 Q1) (Heaplet.le_trans Qa2 Q1) (Heaplet.le_trans Qb1 Q2) (Heaplet.le_trans Qb2 Q2)⟩
set_option maxHeartbeats 1000000 in
theorem PutWW {k:Nat} {f:Nat→Option Nat} (v:Nat) (BS:Blk NS sp 85 (stK ma mt mm mw md ws tr og rf lg (.slice ua un uc) mk tl)) (r:Row NU 1 1 ua un uc us) (hu:un≤1099511627776) (hM:MapV Tryz.prog 36 Nm mb c D) (hA:MapF keyW okWd wordV D f) (hk:okWd k) (hc:c≤1099511627776):Fn Tryz.prog 54 #[.pointer (some ⟨sp,0,none⟩),.map (some mb),.agg (u64s (wl k)).toArray,wordV v] [NS,Nm,NU] [] (fun w L=> ∃(NS Nm NU NB:Heaplet) (a:Option Addr) (c':Nat) (D:DataW Value) (bs:List Nat),w=.tuple #[]∧L= [NS,Nm,NU,NB]∧Blk NS sp 85 (stK ma mt mm mw md ws tr og rf lg (.slice a (un+1) c') mk tl)∧Row NU 1 1 a (un+1) c' (us++ [cloV 88 bs])∧MapV Tryz.prog 36 Nm mb (c+1) D∧MapF keyW okWd wordV D (updF f k (some v))∧CapM NB 69 36 36 bs mb (u64s (wl k)) (f k).isSome (u64s (wl ((f k).getD 0)))):=by
 have hul:(u64s (wl k)).length=_:=bQ k
 have hlk:D.atKey (keyW k) (.held (wordV 0))=.held (wordV ((f k).getD 0)):=by rw [hA.look hk];cases f k<;>rfl
 have hh:=hA.has hk
 have hol:=bQ ((f k).getD 0)
 refine Fn.enter (vs:= [.pointer (some ⟨sp,0,none⟩),.map (some mb),.agg (u64s (wl k)).toArray,.agg (u64s (wl v)).toArray]) Tryz.func54 U U U ?_
 intro E R hR
 change At _ _ E [NS,Nm,NU,R] _
 refine aH fun _ s_1=>aB (cU bT U U U (fun N5 b5 B5=>cU bT U U U (fun N6 b6 B6=>cU bT U U U (fun N7 b7 B7=>aI (s_1 (aH fun _ s_2=>aB (aU aN sc69 U B5 U mem2 U ?_)))))))
 refine aK (ds:=u64s (wl k)) aN ag36 U B6 (by exact bJ hul) (by exact hul) dG U ?_
 refine op_lookupV bT kd36 Tryz.underlying69 (fun _=>by first|rfl|kernel_rfl) U U hM (keyW_spec k) (hlk) (by simp) U ?_
 refine bC U U (bW aN U U U (bW aN U U U (bZ bT ze36 U (fun N8 b8 B8=>?_))))
 change Blk N8 b8 _ [.int .u64 0,.int .u64 0,.int .u64 0,.int .u64 0]at B8
 refine bZ bT ze4 U (fun N9 b9 B9=>?_)
 change Blk N9 b9 _ [.bool false]at B9
 refine bP nxQ sz36 U U U hol (one_wl _) B8 (by rw [hol];exact Nat.le_refl _) sel1 (fun N8 B8=>?_)
 rw [setL_whole (by rw [hol];rfl)]at B8
 refine bP nxQ sz4 U U U U U B9 (by simp) sel1 (fun N9 B9=>?_)
 simp only [setL,List.set]at B9
 refine aI (s_2 (aH fun _ s_3=>aB (aU aN sc69 U B5 U mem4 U ?_)))
 refine aK (ds:=u64s (wl k)) aN ag36 U B6 (by exact bJ hul) (by exact hul) mem3 U ?_
 refine aK (ds:=u64s (wl v)) aN ag36 U B7 (by exact bJ (bQ v)) (by exact bQ v) mem2 U ?_
 refine op_mapUpdateV nxQ kd36 Tryz.underlying69 U U U hM ((by unfold maxLen;omega)) (keyW_spec k) sel6 (fun Nm hM ho=>?_)
 refine aI (s_3 (aB (bC U U (op_mkF aN .nil (.cons U (.cons U (.cons U (.cons U .nil)))) U (a6 (aY (aY (aY (aY (aY (aY (a6 (a6 (cR nxQ (.cons U (.cons U .nil)) (FUndoableX BS r hu) (F:= [Nm,N9,N8,N7,N6,N5,R]) Tryz.func51 U U aZ (by simp) U ?_))))))))))))))
 rintro _ _ ⟨NS,NU,a21,c21,rfl,rfl,BS,r21⟩
 show At _ _ _ [NS,NU,Nm,N9,N8,N7,N6,N5,R] _
 skip
 refine cE (a6 (a6 (a6 (a6 (aY (aY (aY (a6 (a6 (cV (fun Qa Qa1 Qa2=>bM (bS (bS (bS (bS (bS (aY (bM (cV (fun Qb Qb1 Qb2=>aY (aY (aY (aY (aY (bS (aY (cV (fun Q Q1 Q2=>dropAt4 (bA (cH (bI (bA (bA (cQ (L1:= [NS,Nm,NU,Q]) U .nil U (.refl _) aZ ?_))))))))))))))))))))))))))))))))))
 exact⟨NS,Nm,NU,Q,a21,c21,_,[b9,b8,b5,b6],rfl,rfl,BS,r21,hM,hA.put keE_W hk v,CapM.mk4 (by rw [←hh];exact B9) B8 B5 B6 (Heaplet.le_trans Qa1 Q1) (Heaplet.le_trans Qa2 Q1) (Heaplet.le_trans Qb1 Q2) (Heaplet.le_trans Qb2 Q2)⟩
set_option maxHeartbeats 1000000 in
theorem PutAP {k:List UInt8} {f:List UInt8→Option Nat} (v:Nat) (BS:Blk NS sp 85 (stK ma mt mm mw md ws tr og rf lg (.slice ua un uc) mk tl)) (r:Row NU 1 1 ua un uc us) (hu:un≤1099511627776) (hM:MapV Tryz.prog 33 Nm mb c D) (hA:MapF keyA okAd ptrN D f) (hk:okAd k) (hc:c≤1099511627776):Fn Tryz.prog 66 #[.pointer (some ⟨sp,0,none⟩),.map (some mb),.agg (u8s k).toArray,ptrN v] [NS,Nm,NU] [] (fun w L=> ∃(NS Nm NU NB:Heaplet) (a:Option Addr) (c':Nat) (D:DataW Value) (bs:List Nat),w=.tuple #[]∧L= [NS,Nm,NU,NB]∧Blk NS sp 85 (stK ma mt mm mw md ws tr og rf lg (.slice a (un+1) c') mk tl)∧Row NU 1 1 a (un+1) c' (us++ [cloV 91 bs])∧MapV Tryz.prog 33 Nm mb (c+1) D∧MapF keyA okAd ptrN D (updF f k (some v))∧CapM NB 74 67 33 bs mb (u8s k) (f k).isSome ([.pointer ((f k).map fun p=>⟨p,0,none⟩)])):=by
 have hul:(u8s k).length=_:=len_A hk
 have hlk:D.atKey (keyA k) (.held (.pointer none))=.held (.pointer ((f k).map fun p=>⟨p,0,none⟩)):=by rw [hA.look hk];cases f k<;>rfl
 have hh:=hA.has hk
 refine Fn.enter (vs:= [.pointer (some ⟨sp,0,none⟩),.map (some mb),.agg (u8s k).toArray,.pointer (some ⟨v,0,none⟩)]) Tryz.func66 U U U ?_
 intro E R hR
 change At _ _ E [NS,Nm,NU,R] _
 refine aH fun _ s_1=>aB (cU bT U U U (fun N5 b5 B5=>cU bT U U U (fun N6 b6 B6=>aI (s_1 (aH fun _ s_2=>aB (aU aN sc74 U B5 U dG U ?_))))))
 refine aK (ds:=u8s k) aN ag33 U B6 (by exact bJ hul) (by exact hul) cO U ?_
 refine op_lookupV bT kd33 Tryz.underlying74 (fun _=>by first|rfl|kernel_rfl) U U hM (keyA_spec hk) (hlk) (by simp) U ?_
 refine bC U U (bW aN U U U (bW aN U U U (bZ bT ze67 U (fun N8 b8 B8=>?_))))
 change Blk N8 b8 _ [.pointer none]at B8
 refine bZ bT ze4 U (fun N9 b9 B9=>?_)
 change Blk N9 b9 _ [.bool false]at B9
 refine bP nxQ sz67 U U U U U B8 (by simp) sel1 (fun N8 B8=>?_)
 simp only [setL,List.set]at B8
 refine bP nxQ sz4 U U U U U B9 (by simp) sel1 (fun N9 B9=>?_)
 simp only [setL,List.set]at B9
 refine aI (s_2 (aH fun _ s_3=>aB (aU aN sc74 U B5 U mem3 U ?_)))
 refine aK (ds:=u8s k) aN ag33 U B6 (by exact bJ hul) (by exact hul) mem2 U ?_
 refine bC U U ?_
 refine op_mapUpdateV nxQ kd33 Tryz.underlying74 U U U hM ((by unfold maxLen;omega)) (keyA_spec hk) sel5 (fun Nm hM ho=>?_)
 refine aI (s_3 (aB (bC U U (op_mkF aN .nil (.cons U (.cons U (.cons U (.cons U .nil)))) U (bM (bS (bS (bS (bS (bS (bM (bM (cR nxQ (.cons U (.cons U .nil)) (FUndoableX BS r hu) (F:= [Nm,N9,N8,N6,N5,R]) Tryz.func51 U U aZ (by simp) U ?_)))))))))))))
 rintro _ _ ⟨NS,NU,a21,c21,rfl,rfl,BS,r21⟩
 show At _ _ _ [NS,NU,Nm,N9,N8,N6,N5,R] _
 skip
 refine cE (bM (bM (bM (bS (bS (bS (bM (bM (cV (fun Qa Qa1 Qa2=>aY (bA (bA (bA (bA (bS (aY (cV (fun Qb Qb1 Qb2=>bS (bS (bS (bS (bA (bS (cV (fun Q Q1 Q2=>bA (cH (bI (bA (bA (cQ (L1:= [NS,Nm,NU,Q]) U .nil U (.refl _) aZ ?_))))))))))))))))))))))))))))))
 exact⟨NS,Nm,NU,Q,a21,c21,_,[b9,b8,b5,b6],rfl,rfl,BS,r21,hM,hA.put keE_A hk v,CapM.mk4 (by rw [←hh];exact B9) B8 B5 B6 (Heaplet.le_trans Qa1 Q1) (Heaplet.le_trans Qa2 Q1) (Heaplet.le_trans Qb1 Q2) (Heaplet.le_trans Qb2 Q2)⟩
end
end Go.Proofs.YtalmjkcapecpiaaGreat
