/- Several texts in one: see the remarks ahead of each part. No condition but those told there. -/
import Derived.Test.YtjfagifjajielaaGreatX1
import Derived.Test.YtjfagifjajielaaGreatX18
import Derived.Test.YtjfagifjajielaaGreatX13
import Derived.Test.YtjfagifjajielaaGreatX15
import Derived.Test.YtjfagifjajielaaGreatX16
import Derived.Test.YtjfagifjajielaaGreatX9
import Derived.Test.YtjfagifjajielaaGreatX5
set_option linter.unusedSimpArgs false
set_option linter.unusedVariables false
namespace Go.Proofs.YtjfagifjajielaaGreat
open Go Go.RowKit
set_option maxRecDepth 100000
def vE (ki:Int) (ch:Nat) (t:It):Except Nat (Nat×Bool):=match wordE t with
 |.error e=>.error e
 |.ok n=>if ki=0∧36<n then (if (n- 35)/2<2^64 then .ok ((n- 35)/2,decide ((n- 35) % 2=1))else .error 3)
  else if ki=0 then (if n=27∨n=28 then .ok (ch,decide (n=28))else .error 3)
  else if n≤1 then .ok (ch,decide (n=1))else .error 3
theorem part_put {ps:List (List Value)} {ls:List Nat} {j o:Nat} {u:Value} (hl:ps.map List.length=ls) (hp:ps[j]? =some [u]) (ho:(ls.take j).sum=o) (v:Value):setL ps.flatten o [v]=(ps.set j [v]).flatten:=part_set hl hp ho rfl
section
variable {Np NI Nt : Heaplet} {bp bt n : Nat} {t : It} {ts : List It} {z : IV} {zs : List IV} {ki : Int} {ch nn pr tp ga va bf r s : Nat} {mk od : Bool} {to : List UInt8} {d a b : Value}
end
structure TxM where
 ki:Int
 ch:Nat
 nn:Nat
 pr:Nat
 tp:Nat
 ga:Nat
 ma:Bool
 to:List UInt8
 va:Nat
 da:List UInt8
 ac:List AccM
 bf:Nat
 bb:List (List UInt8)
 od:Bool
 r:Nat
 s:Nat
def TxM.cells (m:TxM) (d a b:Value):List Value:=(txP m.ki m.ch m.nn m.pr m.tp m.ga m.ma m.to m.va d a m.bf b m.od m.r m.s).flatten
structure TxM.Ok (m:TxM):Prop where
 ch:m.ch<2^64
 nn:m.nn<2^64
 pr:m.pr<WW
 tp:m.tp<WW
 ga:m.ga<2^64
 to:m.to.length=20
 va:m.va<WW
 bf:m.bf<WW
 bb: ∀h∈m.bb,h.length=32
 r:m.r<WW
 s:m.s<WW
def TxM.zero:TxM:=⟨0,0,0,0,0,0,false,zero20,0,[],[],0,[],false,0,0⟩
def eb {α β:Type} (x:Except Nat α) (f:α→Except Nat β):Except Nat β:=match x with
 |.ok a=>f a
 |.error e=>.error e
def tx0:List It→Except Nat TxM
 | [n,p,g,t,v,d,w,r,s]=>
  eb (smallE n) fun nn=>eb (wordE p) fun pr=>eb (smallE g) fun ga=>eb (toE 0 t) fun mt=>eb (wordE v) fun va=>eb (strE d) fun da=>eb (vE 0 0 w) fun co=>eb (wordE r) fun r=>eb (wordE s) fun s=>
  .ok ⟨0,co.1,nn,pr,0,ga,mt.1,mt.2,va,da,[],0,[],co.2,r,s⟩
 |_=>.error 2
def tx1:List It→Except Nat TxM
 | [c,n,p,g,t,v,d,a,w,r,s]=>
  eb (smallE c) fun ch=>eb (smallE n) fun nn=>eb (wordE p) fun pr=>eb (smallE g) fun ga=>eb (toE 1 t) fun mt=>eb (wordE v) fun va=>eb (strE d) fun da=>eb (accessE a) fun ac=>eb (vE 1 ch w) fun co=>eb (wordE r) fun r=>eb (wordE s) fun s=>
  .ok ⟨1,co.1,nn,pr,0,ga,mt.1,mt.2,va,da,ac,0,[],co.2,r,s⟩
 |_=>.error 2
def tx2:List It→Except Nat TxM
 | [c,n,u,p,g,t,v,d,a,w,r,s]=>
  eb (smallE c) fun ch=>eb (smallE n) fun nn=>eb (wordE u) fun tp=>eb (wordE p) fun pr=>eb (smallE g) fun ga=>eb (toE 2 t) fun mt=>eb (wordE v) fun va=>eb (strE d) fun da=>eb (accessE a) fun ac=>eb (vE 2 ch w) fun co=>eb (wordE r) fun r=>eb (wordE s) fun s=>
  .ok ⟨2,co.1,nn,pr,tp,ga,mt.1,mt.2,va,da,ac,0,[],co.2,r,s⟩
 |_=>.error 2
def tx3:List It→Except Nat TxM
 | [c,n,u,p,g,t,v,d,a,f,b,w,r,s]=>
  eb (smallE c) fun ch=>eb (smallE n) fun nn=>eb (wordE u) fun tp=>eb (wordE p) fun pr=>eb (smallE g) fun ga=>eb (toE 3 t) fun mt=>eb (wordE v) fun va=>eb (strE d) fun da=>eb (accessE a) fun ac=>eb (wordE f) fun bf=>eb (hashesE b) fun bb=>eb (vE 3 ch w) fun co=>eb (wordE r) fun r=>eb (wordE s) fun s=>
  .ok ⟨3,co.1,nn,pr,tp,ga,mt.1,mt.2,va,da,ac,bf,bb,co.2,r,s⟩
 |_=>.error 2
structure HdM where
 fi:Int
 pa:List UInt8
 om:List UInt8
 co:List UInt8
 st:List UInt8
 tx:List UInt8
 rc:List UInt8
 bl:List UInt8
 df:Nat
 nu:UInt64
 gl:UInt64
 gu:UInt64
 ti:UInt64
 ex:List UInt8
 mx:List UInt8
 no:List UInt8
 bf:Nat
 wd:List UInt8
 bg:UInt64
 xs:UInt64
 be:List UInt8
structure HdM.Ok (h:HdM):Prop where
 pa:h.pa.length=32
 om:h.om.length=32
 co:h.co.length=20
 st:h.st.length=32
 tx:h.tx.length=32
 rc:h.rc.length=32
 bl:h.bl.length=256
 df:h.df<WW
 mx:h.mx.length=32
 no:h.no.length=8
 bf:h.bf<WW
 wd:h.wd.length=32
 be:h.be.length=32
def c64 (u:UInt64):Value:=.int .u64 (u.toNat:Int)
def HdM.parts (h:HdM) (v:Value):List (List Value):= [[.int .i64 h.fi],u8s h.pa,u8s h.om,u8s h.co,u8s h.st,u8s h.tx,u8s h.rc,u8s h.bl,u64s (wl h.df),[c64 h.nu],[c64 h.gl],[c64 h.gu],[c64 h.ti],[v],u8s h.mx,u8s h.no,u64s (wl h.bf),u8s h.wd,[c64 h.bg],[c64 h.xs],u8s h.be]
def hdLens:List Nat:= [1,32,32,20,32,32,32,256,4,1,1,1,1,1,32,8,4,32,1,1,32]
def HdM.cells (h:HdM) (v:Value):List Value:=(h.parts v).flatten
theorem HdM.lens {h:HdM} (k:h.Ok) (v:Value):(h.parts v).map List.length=hdLens:=by
 simp only [HdM.parts,List.map_cons,List.map_nil,cK,u64s_len,length_wl,k.pa,k.om,k.co,k.st,k.tx,k.rc,k.bl,k.mx,k.no,k.wd,k.be]
 rfl
theorem HdM.len {h:HdM} (k:h.Ok) (v:Value):(h.cells v).length=556:=by
 rw [HdM.cells,flatten_len,HdM.lens k];rfl
theorem HdM.one {h:HdM} {v:Value} (hv:v.oneCell'=true):(h.cells v).all (·.oneCell')=true:=by
 refine part_all fun p hp u hu=>?_
 simp only [HdM.parts,List.mem_cons,List.not_mem_nil,or_false]at hp
 rcases hp with rfl|rfl|rfl|rfl|rfl|rfl|rfl|rfl|rfl|rfl|rfl|rfl|rfl|rfl|rfl|rfl|rfl|rfl|rfl|rfl|rfl
 all_goals first
  |exact one_u8s _ u hu
  |exact one_u64s _ u hu
  |(obtain rfl:=List.mem_singleton.1 hu;first|exact hv|rfl)
def HdM.items (h:HdM):List It:= [itS h.pa,itS h.om,itS h.co,itS h.st,itS h.tx,itS h.rc,itS h.bl,itS (bytesOf h.df),itS (bytesOf h.nu.toNat),itS (bytesOf h.gl.toNat),itS (bytesOf h.gu.toNat),itS (bytesOf h.ti.toNat),itS h.ex,itS h.mx,itS h.no,itS (bytesOf h.bf),itS h.wd,itS (bytesOf h.bg.toNat),itS (bytesOf h.xs.toNat),itS h.be]
def HdM.it (h:HdM):It:=itL (h.items.take h.fi.toNat)
def okF (n:Int):Prop:=n=15∨n=16∨n=17∨n=20
instance (n:Int):Decidable (okF n):=by unfold okF;infer_instance
section
variable {N : Heaplet} {h : HdM} {ao : Option Addr} {n cap : Nat}
set_option maxHeartbeats 4000000 in
theorem FHeaded_any (k:h.Ok) (hr:RSl N 1 ao n cap (u8s h.ex)):Fn Tryz.prog 65 #[.agg (h.cells (.slice ao n cap)).toArray] [] [N] (fun v L=>(okF h.fi∧ ∃J x,v=.tuple #[IV.val x,.int .i64 0]∧L= [J]∧ ∀K:Heaplet,J.le K→N.le K→ItN K h.it x)∨(¬okF h.fi∧v=.tuple #[.agg #[.bool false,.slice none 0 0,.slice none 0 0],.int .i64 1]∧L= [])):=by
 have hcl:=HdM.len k (.slice ao n cap)
 have hls:=HdM.lens k (.slice ao n cap)
 have hwd:(u64s (wl h.df)).length=4:=by rw [u64s_len,length_wl]
 have hwb:(u64s (wl h.bf)).length=4:=by rw [u64s_len,length_wl]
 refine Fn.enter (vs:= [.agg (h.cells (.slice ao n cap)).toArray]) Tryz.func65 U U U ?_
 intro E R hR
 change At _ _ E [R] _
 refine aC fun _ s_1=>aA (op_box aZ U U U (fun N1 b1 B1=>bE aZ ze91 U (fun N2 b2 B2=>?_)))
 change Blk N2 b2 _ [.bool false,.slice none 0 0,.slice none 0 0]at B2
 refine aG U U (aB (s_1 (aC fun _ s_2=>?_)))
 have s7:=sub8 B1.rng (part_get hls (j:=1) (o:=1) rfl rfl (cK _▸k.pa)) k.pa (by decide)
 have s10:=sub8 B1.rng (part_get hls (j:=2) (o:=33) rfl rfl (cK _▸k.om)) k.om (by decide)
 have s13:=sub8 B1.rng (part_get hls (j:=3) (o:=65) rfl rfl (cK _▸k.co)) k.co (by decide)
 have s16:=sub8 B1.rng (part_get hls (j:=4) (o:=85) rfl rfl (cK _▸k.st)) k.st (by decide)
 have s19:=sub8 B1.rng (part_get hls (j:=5) (o:=117) rfl rfl (cK _▸k.tx)) k.tx (by decide)
 have s22:=sub8 B1.rng (part_get hls (j:=6) (o:=149) rfl rfl (cK _▸k.rc)) k.rc (by decide)
 have s25:=sub8 B1.rng (part_get hls (j:=7) (o:=181) rfl rfl (cK _▸k.bl)) k.bl (by decide)
 have s46:=sub8 B1.rng (part_get hls (j:=14) (o:=446) rfl rfl (cK _▸k.mx)) k.mx (by decide)
 have s49:=sub8 B1.rng (part_get hls (j:=15) (o:=478) rfl rfl (cK _▸k.no)) k.no (by decide)
 have s55:=sub8 B1.rng (part_get hls (j:=17) (o:=490) rfl rfl (cK _▸k.wd)) k.wd (by decide)
 have s64:=sub8 B1.rng (part_get hls (j:=20) (o:=524) rfl rfl (cK _▸k.be)) k.be (by decide)
 refine At.drawnS [N1,R] [59,60] [] [0,1,3,4,6,7,9,10,12,13,15,16,18,19,21,22,24,25,27,28,30,31,33,34,36,37,39,40,42,43,45,46,48,49,51,52,54,55,57,58,2,5,8,11,14,17,20,23,26,29,32,35,38,41,44,47,50,53,56,59,60,61] (by kernel_rfl) (by kernel_rfl) (.cons _ (.refl _)) (aI (bF U U U) fl44_1 U U (op_sliceA (bF U U U) ae40 U .none .none .none (by omega) (by omega) (by omega) (by simp) U (aI (bF U U U) fl44_2 U U (op_sliceA (bF U U U) ae40 U .none .none .none (by omega) (by omega) (by omega) (by simp) U (aI (bF U U U) fl44_3 U U (op_sliceA (bF U U U) ae28 U .none .none .none (by omega) (by omega) (by omega) (by simp) U (aI (bF U U U) fl44_4 U U (op_sliceA (bF U U U) ae40 U .none .none .none (by omega) (by omega) (by omega) (by simp) U (aI (bF U U U) fl44_5 U U (op_sliceA (bF U U U) ae40 U .none .none .none (by omega) (by omega) (by omega) (by simp) U (aI (bF U U U) fl44_6 U U (op_sliceA (bF U U U) ae40 U .none .none .none (by omega) (by omega) (by omega) (by simp) U (aI (bF U U U) fl44_7 U U (op_sliceA (bF U U U) ae41 U .none .none .none (by omega) (by omega) (by omega) (by simp) U (aI (bF U U U) fl44_8 U U (aY (ds:=u64s (wl h.df)) (bF U U U) ag26 U B1 (by exact part_get hls (j:=8) U U hwd) (by exact hwd) bZ U ?_))))))))))))))))
 refine aI (bF U U U) fl44_9 U U (aV (bF U U U) sc24 U B1 (by first|rfl|exact aP hls (j:=9) U rfl|exact aP hls (j:=10) U rfl|exact aP hls (j:=11) U rfl|exact aP hls (j:=12) U rfl|exact aP hls (j:=13) U rfl|exact aP hls (j:=18) U rfl|exact aP hls (j:=19) U rfl|exact aP hls (j:=0) U U) bZ U ?_)
 refine aI (bF U U U) fl44_10 U U (aV (bF U U U) sc24 U B1 (by first|rfl|exact aP hls (j:=9) U rfl|exact aP hls (j:=10) U rfl|exact aP hls (j:=11) U rfl|exact aP hls (j:=12) U rfl|exact aP hls (j:=13) U rfl|exact aP hls (j:=18) U rfl|exact aP hls (j:=19) U rfl|exact aP hls (j:=0) U U) bZ U ?_)
 refine aI (bF U U U) fl44_11 U U (aV (bF U U U) sc24 U B1 (by first|rfl|exact aP hls (j:=9) U rfl|exact aP hls (j:=10) U rfl|exact aP hls (j:=11) U rfl|exact aP hls (j:=12) U rfl|exact aP hls (j:=13) U rfl|exact aP hls (j:=18) U rfl|exact aP hls (j:=19) U rfl|exact aP hls (j:=0) U U) bZ U ?_)
 refine aI (bF U U U) fl44_12 U U (aV (bF U U U) sc24 U B1 (by first|rfl|exact aP hls (j:=9) U rfl|exact aP hls (j:=10) U rfl|exact aP hls (j:=11) U rfl|exact aP hls (j:=12) U rfl|exact aP hls (j:=13) U rfl|exact aP hls (j:=18) U rfl|exact aP hls (j:=19) U rfl|exact aP hls (j:=0) U U) bZ U ?_)
 refine aI (bF U U U) fl44_13 U U (aV (bF U U U) sc22 U B1 (by first|rfl|exact aP hls (j:=9) U rfl|exact aP hls (j:=10) U rfl|exact aP hls (j:=11) U rfl|exact aP hls (j:=12) U rfl|exact aP hls (j:=13) U rfl|exact aP hls (j:=18) U rfl|exact aP hls (j:=19) U rfl|exact aP hls (j:=0) U U) bZ U ?_)
 refine aI (bF U U U) fl44_14 U U (op_sliceA (bF U U U) ae40 U .none .none .none (by omega) (by omega) (by omega) (by simp) U (aI (bF U U U) fl44_15 U U (op_sliceA (bF U U U) ae42 U .none .none .none (by omega) (by omega) (by omega) (by simp) U (aI (bF U U U) fl44_16 U U (aY (ds:=u64s (wl h.bf)) (bF U U U) ag26 U B1 (by exact part_get hls (j:=16) U U hwb) (by exact hwb) bZ U ?_)))))
 refine aI (bF U U U) fl44_17 U U (op_sliceA (bF U U U) ae40 U .none .none .none (by omega) (by omega) (by omega) (by simp) U (aI (bF U U U) fl44_18 U U (aV (bF U U U) sc24 U B1 (by first|rfl|exact aP hls (j:=9) U rfl|exact aP hls (j:=10) U rfl|exact aP hls (j:=11) U rfl|exact aP hls (j:=12) U rfl|exact aP hls (j:=13) U rfl|exact aP hls (j:=18) U rfl|exact aP hls (j:=19) U rfl|exact aP hls (j:=0) U U) bZ U ?_)))
 refine aI (bF U U U) fl44_19 U U (aV (bF U U U) sc24 U B1 (by first|rfl|exact aP hls (j:=9) U rfl|exact aP hls (j:=10) U rfl|exact aP hls (j:=11) U rfl|exact aP hls (j:=12) U rfl|exact aP hls (j:=13) U rfl|exact aP hls (j:=18) U rfl|exact aP hls (j:=19) U rfl|exact aP hls (j:=0) U U) bZ U ?_)
 refine aI (bF U U U) fl44_20 U U (op_sliceA (bF U U U) ae40 U .none .none .none (by omega) (by omega) (by omega) (by simp) U (aH (Nx.agree (nxsm U U U)) (.cons U .nil) (FText_b) Tryz.func111 U U (by simp) U ?_))
 rintro _ _ ⟨rfl,rfl⟩
 show At _ _ _ [N2,N1,R] _
 refine At.moreS (Lst:= [N1,R]) (Lst':= [N1,R]) (.refl _) (.cons _ (.refl _)) (aH (Nx.agree (nxsm U U U)) (.cons U .nil) (FText_b) Tryz.func111 U U (by simp) U ?_)
 rintro _ _ ⟨rfl,rfl⟩
 show At _ _ _ [N2,N1,R] _
 refine At.moreS (Lst:= [N1,R]) (Lst':= [N1,R]) (.refl _) (.cons _ (.refl _)) (aH (Nx.agree (nxsm U U U)) (.cons U .nil) (FText_b) Tryz.func111 U U (by simp) U ?_)
 rintro _ _ ⟨rfl,rfl⟩
 show At _ _ _ [N2,N1,R] _
 refine At.moreS (Lst:= [N1,R]) (Lst':= [N1,R]) (.refl _) (.cons _ (.refl _)) (aH (Nx.agree (nxsm U U U)) (.cons U .nil) (FText_b) Tryz.func111 U U (by simp) U ?_)
 rintro _ _ ⟨rfl,rfl⟩
 show At _ _ _ [N2,N1,R] _
 refine At.moreS (Lst:= [N1,R]) (Lst':= [N1,R]) (.refl _) (.cons _ (.refl _)) (aH (Nx.agree (nxsm U U U)) (.cons U .nil) (FText_b) Tryz.func111 U U (by simp) U ?_)
 rintro _ _ ⟨rfl,rfl⟩
 show At _ _ _ [N2,N1,R] _
 refine At.moreS (Lst:= [N1,R]) (Lst':= [N1,R]) (.refl _) (.cons _ (.refl _)) (aH (Nx.agree (nxsm U U U)) (.cons U .nil) (FText_b) Tryz.func111 U U (by simp) U ?_)
 rintro _ _ ⟨rfl,rfl⟩
 show At _ _ _ [N2,N1,R] _
 refine At.moreS (Lst:= [N1,R]) (Lst':= [N1,R]) (.refl _) (.cons _ (.refl _)) (aH (Nx.agree (nxsm U U U)) (.cons U .nil) (FText_b) Tryz.func111 U U (by simp) U ?_)
 rintro _ _ ⟨rfl,rfl⟩
 show At _ _ _ [N2,N1,R] _
 refine At.moreS (Lst:= [N1,R]) (Lst':= [N1,R]) (.refl _) (.cons _ (.refl _)) (aH (Nx.agree (nxsm U U U)) (.cons U .nil) (FOf_b k.df) Tryz.func113 U U (by simp) U ?_)
 rintro _ _ ⟨M28,p28,k28,rfl,rfl,t28⟩
 show At _ _ _ [M28,N2,N1,R] _
 refine cH (cH (bR (cH (At.moreS (Lst:= [N1,R]) (Lst':= [M28,N1,R]) (.cons _ (.refl _)) (.cons _ (.refl _)) (aH (Nx.agree (nxsm U U U)) (.cons U .nil) (FNumber_b h.nu) Tryz.func112 U U (by simp) U ?_)))))
 rintro _ _ ⟨M31,p31,k31,rfl,rfl,t31⟩
 show At _ _ _ [M31,N2,M28,N1,R] _
 refine bI (bI (bI (cH (bI (At.moreS (Lst:= [M28,N1,R]) (Lst':= [M31,M28,N1,R]) (.cons _ (.refl _)) (.cons _ (.refl _)) (aH (Nx.agree (nxsm U U U)) (.cons U .nil) (FNumber_b h.gl) Tryz.func112 U U (by simp) U ?_))))))
 rintro _ _ ⟨M34,p34,k34,rfl,rfl,t34⟩
 show At _ _ _ [M34,N2,M31,M28,N1,R] _
 refine bY (bY (bY (bY (bI (bY (At.moreS (Lst:= [M31,M28,N1,R]) (Lst':= [M34,M31,M28,N1,R]) (.cons _ (.refl _)) (.cons _ (.refl _)) (aH (Nx.agree (nxsm U U U)) (.cons U .nil) (FNumber_b h.gu) Tryz.func112 U U (by simp) U ?_)))))))
 rintro _ _ ⟨M37,p37,k37,rfl,rfl,t37⟩
 show At _ _ _ [M37,N2,M34,M31,M28,N1,R] _
 refine bM (bM (bM (bM (bM (bY (bM (At.moreS (Lst:= [M34,M31,M28,N1,R]) (Lst':= [M37,M34,M31,M28,N1,R]) (.cons _ (.refl _)) (.cons _ (.refl _)) (aH (Nx.agree (nxsm U U U)) (.cons U .nil) (FNumber_b h.ti) Tryz.func112 U U (by simp) U ?_))))))))
 rintro _ _ ⟨M40,p40,k40,rfl,rfl,t40⟩
 show At _ _ _ [M40,N2,M37,M34,M31,M28,N1,R] _
 refine bN (bN (bN (bN (bN (bN (bM (bN (At.moreS (Lst:= [M37,M34,M31,M28,N1,R]) (Lst':= [M40,M37,M34,M31,M28,N1,R]) (.cons _ (.refl _)) (.cons _ (.refl _)) (aH (Nx.agree (nxsm U U U)) (.cons U .nil) (FText_b) Tryz.func111 U U (by simp) U ?_)))))))))
 rintro _ _ ⟨rfl,rfl⟩
 show At _ _ _ [N2,M40,M37,M34,M31,M28,N1,R] _
 refine At.moreS (Lst:= [M40,M37,M34,M31,M28,N1,R]) (Lst':= [M40,M37,M34,M31,M28,N1,R]) (.refl _) (.cons _ (.refl _)) (aH (Nx.agree (nxsm U U U)) (.cons U .nil) (FText_b) Tryz.func111 U U (by simp) U ?_)
 rintro _ _ ⟨rfl,rfl⟩
 show At _ _ _ [N2,M40,M37,M34,M31,M28,N1,R] _
 refine At.moreS (Lst:= [M40,M37,M34,M31,M28,N1,R]) (Lst':= [M40,M37,M34,M31,M28,N1,R]) (.refl _) (.cons _ (.refl _)) (aH (Nx.agree (nxsm U U U)) (.cons U .nil) (FText_b) Tryz.func111 U U (by simp) U ?_)
 rintro _ _ ⟨rfl,rfl⟩
 show At _ _ _ [N2,M40,M37,M34,M31,M28,N1,R] _
 refine At.moreS (Lst:= [M40,M37,M34,M31,M28,N1,R]) (Lst':= [M40,M37,M34,M31,M28,N1,R]) (.refl _) (.cons _ (.refl _)) (aH (Nx.agree (nxsm U U U)) (.cons U .nil) (FOf_b k.bf) Tryz.func113 U U (by simp) U ?_)
 rintro _ _ ⟨M52,p52,k52,rfl,rfl,t52⟩
 show At _ _ _ [M52,N2,M40,M37,M34,M31,M28,N1,R] _
 refine bL (bL (bL (bL (bL (bL (bL (bN (bL (At.moreS (Lst:= [M40,M37,M34,M31,M28,N1,R]) (Lst':= [M52,M40,M37,M34,M31,M28,N1,R]) (.cons _ (.refl _)) (.cons _ (.refl _)) (aH (Nx.agree (nxsm U U U)) (.cons U .nil) (FText_b) Tryz.func111 U U (by simp) U ?_))))))))))
 rintro _ _ ⟨rfl,rfl⟩
 show At _ _ _ [N2,M52,M40,M37,M34,M31,M28,N1,R] _
 refine At.moreS (Lst:= [M52,M40,M37,M34,M31,M28,N1,R]) (Lst':= [M52,M40,M37,M34,M31,M28,N1,R]) (.refl _) (.cons _ (.refl _)) (aH (Nx.agree (nxsm U U U)) (.cons U .nil) (FNumber_b h.bg) Tryz.func112 U U (by simp) U ?_)
 rintro _ _ ⟨M58,p58,k58,rfl,rfl,t58⟩
 show At _ _ _ [M58,N2,M52,M40,M37,M34,M31,M28,N1,R] _
 refine bJ (bJ (bJ (bJ (bJ (bJ (bJ (bJ (bL (bJ (At.moreS (Lst:= [M52,M40,M37,M34,M31,M28,N1,R]) (Lst':= [M58,M52,M40,M37,M34,M31,M28,N1,R]) (.cons _ (.refl _)) (.cons _ (.refl _)) (aH (Nx.agree (nxsm U U U)) (.cons U .nil) (FNumber_b h.xs) Tryz.func112 U U (by simp) U ?_)))))))))))
 rintro _ _ ⟨M61,p61,k61,rfl,rfl,t61⟩
 show At _ _ _ [M61,N2,M58,M52,M40,M37,M34,M31,M28,N1,R] _
 refine bB (bB (bB (bB (bB (bB (bB (bB (bB (bJ (bB (At.moreS (Lst:= [M58,M52,M40,M37,M34,M31,M28,N1,R]) (Lst':= [M61,M58,M52,M40,M37,M34,M31,M28,N1,R]) (.cons _ (.refl _)) (.cons _ (.refl _)) (aH (Nx.agree (nxss U U U U)) (.cons U .nil) (FText_b) Tryz.func111 U U (by simp) U ?_))))))))))))
 rintro _ _ ⟨rfl,rfl⟩
 show At _ _ _ [N2,M61,M58,M52,M40,M37,M34,M31,M28,N1,R] _
 refine At.anyS (.refl _) (op_lit (Nx.agree (nxss U U U U)) Tryz.underlying89 ze91 sz91 (.cons U (.cons U (.cons U (.cons U (.cons U (.cons U (.cons U (.cons U (.cons U (.cons U (.cons U (.cons U (.cons U (.cons U (.cons U (.cons U (.cons U (.cons U (.cons U (.cons U .nil)))))))))))))))))))) U U (by simp [Value.cells]) U U U (fun N65 a65 r65=>?_))
 simp only [flatV,List.flatMap_cons,List.flatMap_nil,Value.cells,List.append_nil,List.cons_append,List.nil_append]at r65
 have s65:=r65.rsl
 refine At.anyS (.refl _) ?_
 obtain⟨xs,hxs⟩: ∃xs:List IV,xs= [ivS (some ⟨b1,0+1+0*1,none⟩) (32- 0) (32- 0),ivS (some ⟨b1,0+33+0*1,none⟩) (32- 0) (32- 0),ivS (some ⟨b1,0+65+0*1,none⟩) (20- 0) (20- 0),ivS (some ⟨b1,0+85+0*1,none⟩) (32- 0) (32- 0),ivS (some ⟨b1,0+117+0*1,none⟩) (32- 0) (32- 0),ivS (some ⟨b1,0+149+0*1,none⟩) (32- 0) (32- 0),ivS (some ⟨b1,0+181+0*1,none⟩) (256- 0) (256- 0),ivS p28 (bytesOf h.df).length k28,ivS p31 (bytesOf h.nu.toNat).length k31,ivS p34 (bytesOf h.gl.toNat).length k34,ivS p37 (bytesOf h.gu.toNat).length k37,ivS p40 (bytesOf h.ti.toNat).length k40,ivS ao n cap,ivS (some ⟨b1,0+446+0*1,none⟩) (32- 0) (32- 0),ivS (some ⟨b1,0+478+0*1,none⟩) (8- 0) (8- 0),ivS p52 (bytesOf h.bf).length k52,ivS (some ⟨b1,0+490+0*1,none⟩) (32- 0) (32- 0),ivS p58 (bytesOf h.bg.toNat).length k58,ivS p61 (bytesOf h.xs.toNat).length k61,ivS (some ⟨b1,0+524+0*1,none⟩) (32- 0) (32- 0)]:=⟨_,rfl⟩
 change Row N65 _ 3 a65 20 20 (cellsI [ivS (some ⟨b1,0+1+0*1,none⟩) (32- 0) (32- 0),ivS (some ⟨b1,0+33+0*1,none⟩) (32- 0) (32- 0),ivS (some ⟨b1,0+65+0*1,none⟩) (20- 0) (20- 0),ivS (some ⟨b1,0+85+0*1,none⟩) (32- 0) (32- 0),ivS (some ⟨b1,0+117+0*1,none⟩) (32- 0) (32- 0),ivS (some ⟨b1,0+149+0*1,none⟩) (32- 0) (32- 0),ivS (some ⟨b1,0+181+0*1,none⟩) (256- 0) (256- 0),ivS p28 (bytesOf h.df).length k28,ivS p31 (bytesOf h.nu.toNat).length k31,ivS p34 (bytesOf h.gl.toNat).length k34,ivS p37 (bytesOf h.gu.toNat).length k37,ivS p40 (bytesOf h.ti.toNat).length k40,ivS ao n cap,ivS (some ⟨b1,0+446+0*1,none⟩) (32- 0) (32- 0),ivS (some ⟨b1,0+478+0*1,none⟩) (8- 0) (8- 0),ivS p52 (bytesOf h.bf).length k52,ivS (some ⟨b1,0+490+0*1,none⟩) (32- 0) (32- 0),ivS p58 (bytesOf h.bg.toNat).length k58,ivS p61 (bytesOf h.xs.toNat).length k61,ivS (some ⟨b1,0+524+0*1,none⟩) (32- 0) (32- 0)])at r65
 rw [←hxs]at r65
 have s65:=r65.rsl
 have i65: ∀K:Heaplet,N1.le K→M28.le K→M31.le K→M34.le K→M37.le K→M40.le K→M52.le K→M58.le K→M61.le K→N.le K→ItsN K h.items xs:=fun K h1 h28 h31 h34 h37 h40 h52 h58 h61 hN=>by
  rw [hxs]
  exact cO (ItN_S (s7.le h1)) (cO (ItN_S (s10.le h1)) (cO (ItN_S (s13.le h1)) (cO (ItN_S (s16.le h1)) (cO (ItN_S (s19.le h1)) (cO (ItN_S (s22.le h1)) (cO (ItN_S (s25.le h1)) (cO (ItN_S (t28.le h28)) (cO (ItN_S (t31.le h31)) (cO (ItN_S (t34.le h34)) (cO (ItN_S (t37.le h37)) (cO (ItN_S (t40.le h40)) (cO (ItN_S (hr.le hN)) (cO (ItN_S (s46.le h1)) (cO (ItN_S (s49.le h1)) (cO (ItN_S (t52.le h52)) (cO (ItN_S (s55.le h1)) (cO (ItN_S (t58.le h58)) (cO (ItN_S (t61.le h61)) (cO (ItN_S (s64.le h1)) ItsN_nil)))))))))))))))))))
 clear hxs
 refine bX (bF U U U) U U (At.sNil (aE (s_2 (aC fun _ s_3=>aC fun _ s_4=>aA (aI aD fl44_0 U U (aV aD sc3 U B1 (by first|rfl|exact aP hls (j:=9) U rfl|exact aP hls (j:=10) U rfl|exact aP hls (j:=11) U rfl|exact aP hls (j:=12) U rfl|exact aP hls (j:=13) U rfl|exact aP hls (j:=18) U rfl|exact aP hls (j:=19) U rfl|exact aP hls (j:=0) U U) mem10 U ?_))))))
 refine aB (s_4 (aT (aC fun _ s_5=>aC fun _ s_6=>aA (op_eql aD U U U (aG U U (aB (s_6 (aO U (fun c68=>?_) (fun c68=>?_)))))))))
 ·refine At.knowT (d:=68) U c68 (aQ (aE (s_5 (At.condT U (aC fun _ s_7=>aA (aF U U (aI aD fl44_0 U U (aV aD sc3 U B1 (by first|rfl|exact aP hls (j:=9) U rfl|exact aP hls (j:=10) U rfl|exact aP hls (j:=11) U rfl|exact aP hls (j:=12) U rfl|exact aP hls (j:=13) U rfl|exact aP hls (j:=18) U rfl|exact aP hls (j:=19) U rfl|exact aP hls (j:=0) U U) mem10 U ?_))))))))
  refine op_slice0 aD se89 U (.some U (show _=(((h.fi.toNat:Nat)):Int)from by omega)) .none (by omega) (by omega) (by simp) U ?_
  refine aH aZ (.cons U .nil) (FList_b) Tryz.func66 U U (by simp) U ?_
  rintro _ _ ⟨rfl,rfl⟩
  show At _ _ _ [N65,N2,M61,M58,M52,M40,M37,M34,M31,M28,N1,R] _
  refine aX nxQ sz91 U U U U U B2 (by simp) sel1 (fun N2 B2=>?_)
  simp only [setL,List.set]at B2
  refine aG U U (aB (s_7 (aR (b9 (aJ ((permSel11 (permSel11 (bB (bB (bB (bB (bB (bB (bB (bJ (permSel11 (permSel11 (At.mergeN (fun J J1 J2=>bB (bB (bJ (bJ (bJ (bJ (bJ (bJ (bJ (bB (bB (At.mergeN (fun K K1 K2=>bJ (bJ (bL (bL (bL (bL (bL (bL (bJ (bJ (At.mergeN (fun W W1 W2=>bL ?_)))))))))))))))))))))))))))))))))))))))))))
  refine bL (bN (bN (bN (bN (bN (bL (bL (At.mergeN (fun Q Q1 Q2=>bN (bN (bM (bM (bM (bM (bN (bN (At.mergeN (fun P P1 P2=>bM (bM (bY (bY (bY (bM (bM (At.mergeN (fun O O1 O2=>bY (bY (bI (bI (bY (bY (At.mergeN (fun G G1 G2=>bI (bI (cH (bI (bI (At.mergeN (fun I I1 I2=>cH (bR ?_))))))))))))))))))))))))))))))))))))))))
  refine cH (cH (At.mergeN (fun Z Z1 Z2=>bR (permSel1 (bR (bV (L1:= [Z]) U (.cell U (res_agg (ds:= [_,_,_]) ag91 B2 U U bZ) (.tmp U .nil)) U (.cons _ (.refl _)) aM ?_))))))
  have lG:=Heaplet.le_trans I1 Z1
  have lO:=Heaplet.le_trans G1 lG
  have lP:=Heaplet.le_trans O1 lO
  have lQ:=Heaplet.le_trans P1 lP
  have lW:=Heaplet.le_trans Q1 lQ
  have lK:=Heaplet.le_trans W1 lW
  have lJ:=Heaplet.le_trans K1 lK
  have q:=s65.take (hi:=h.fi.toNat) (m:=20) (by omega) (Nat.le_refl _) (by omega)
  rw [cellsI_take]at q
  exact .inl ⟨by unfold okF;omega,Z,ivL a65 h.fi.toNat 20,rfl,rfl,fun Y hY hN=>ItN_L (q.le (Heaplet.le_trans (Heaplet.le_trans J1 lJ) hY)) (ItsN.take _ (i65 Y (Heaplet.le_trans Z2 hY) (Heaplet.le_trans (Heaplet.le_trans J2 lJ) hY) (Heaplet.le_trans (Heaplet.le_trans K2 lK) hY) (Heaplet.le_trans (Heaplet.le_trans W2 lW) hY) (Heaplet.le_trans (Heaplet.le_trans Q2 lQ) hY) (Heaplet.le_trans (Heaplet.le_trans P2 lP) hY) (Heaplet.le_trans (Heaplet.le_trans O2 lO) hY) (Heaplet.le_trans (Heaplet.le_trans G2 lG) hY) (Heaplet.le_trans (Heaplet.le_trans I2 Z1) hY) hN))⟩
 refine At.knowF (d:=68) U c68 (aC fun _ s_8=>aA (op_eql aD U U U (aG U U (aB (s_8 (aO U (fun c68=>?_) (fun c68=>?_)))))))
 ·refine At.knowT (d:=68) U c68 (aQ (aE (s_5 (At.condT U (aC fun _ s_9=>aA (aF U U (aI aD fl44_0 U U (aV aD sc3 U B1 (by first|rfl|exact aP hls (j:=9) U rfl|exact aP hls (j:=10) U rfl|exact aP hls (j:=11) U rfl|exact aP hls (j:=12) U rfl|exact aP hls (j:=13) U rfl|exact aP hls (j:=18) U rfl|exact aP hls (j:=19) U rfl|exact aP hls (j:=0) U U) mem10 U ?_))))))))
  refine op_slice0 aD se89 U (.some U (show _=(((h.fi.toNat:Nat)):Int)from by omega)) .none (by omega) (by omega) (by simp) U ?_
  refine aH aZ (.cons U .nil) (FList_b) Tryz.func66 U U (by simp) U ?_
  rintro _ _ ⟨rfl,rfl⟩
  show At _ _ _ [N65,N2,M61,M58,M52,M40,M37,M34,M31,M28,N1,R] _
  refine aX nxQ sz91 U U U U U B2 (by simp) sel1 (fun N2 B2=>?_)
  simp only [setL,List.set]at B2
  refine aG U U (aB (s_9 (aR (b9 (aJ ((permSel11 (permSel11 (bB (bB (bB (bB (bB (bB (bB (bJ (permSel11 (permSel11 (At.mergeN (fun J J1 J2=>bB (bB (bJ (bJ (bJ (bJ (bJ (bJ (bJ (bB (bB (At.mergeN (fun K K1 K2=>bJ (bJ (bL (bL (bL (bL (bL (bL (bJ (bJ (At.mergeN (fun W W1 W2=>bL ?_)))))))))))))))))))))))))))))))))))))))))))
  refine bL (bN (bN (bN (bN (bN (bL (bL (At.mergeN (fun Q Q1 Q2=>bN (bN (bM (bM (bM (bM (bN (bN (At.mergeN (fun P P1 P2=>bM (bM (bY (bY (bY (bM (bM (At.mergeN (fun O O1 O2=>bY (bY (bI (bI (bY (bY (At.mergeN (fun G G1 G2=>bI (bI (cH (bI (bI (At.mergeN (fun I I1 I2=>cH (bR ?_))))))))))))))))))))))))))))))))))))))))
  refine cH (cH (At.mergeN (fun Z Z1 Z2=>bR (permSel1 (bR (bV (L1:= [Z]) U (.cell U (res_agg (ds:= [_,_,_]) ag91 B2 U U bZ) (.tmp U .nil)) U (.cons _ (.refl _)) aM ?_))))))
  have lG:=Heaplet.le_trans I1 Z1
  have lO:=Heaplet.le_trans G1 lG
  have lP:=Heaplet.le_trans O1 lO
  have lQ:=Heaplet.le_trans P1 lP
  have lW:=Heaplet.le_trans Q1 lQ
  have lK:=Heaplet.le_trans W1 lW
  have lJ:=Heaplet.le_trans K1 lK
  have q:=s65.take (hi:=h.fi.toNat) (m:=20) (by omega) (Nat.le_refl _) (by omega)
  rw [cellsI_take]at q
  exact .inl ⟨by unfold okF;omega,Z,ivL a65 h.fi.toNat 20,rfl,rfl,fun Y hY hN=>ItN_L (q.le (Heaplet.le_trans (Heaplet.le_trans J1 lJ) hY)) (ItsN.take _ (i65 Y (Heaplet.le_trans Z2 hY) (Heaplet.le_trans (Heaplet.le_trans J2 lJ) hY) (Heaplet.le_trans (Heaplet.le_trans K2 lK) hY) (Heaplet.le_trans (Heaplet.le_trans W2 lW) hY) (Heaplet.le_trans (Heaplet.le_trans Q2 lQ) hY) (Heaplet.le_trans (Heaplet.le_trans P2 lP) hY) (Heaplet.le_trans (Heaplet.le_trans O2 lO) hY) (Heaplet.le_trans (Heaplet.le_trans G2 lG) hY) (Heaplet.le_trans (Heaplet.le_trans I2 Z1) hY) hN))⟩
 refine At.knowF (d:=68) U c68 (aC fun _ s_10=>aA (op_eql aD U U U (aG U U (aB (s_10 (aO U (fun c68=>?_) (fun c68=>?_)))))))
 ·refine At.knowT (d:=68) U c68 (aQ (aE (s_5 (At.condT U (aC fun _ s_11=>aA (aF U U (aI aD fl44_0 U U (aV aD sc3 U B1 (by first|rfl|exact aP hls (j:=9) U rfl|exact aP hls (j:=10) U rfl|exact aP hls (j:=11) U rfl|exact aP hls (j:=12) U rfl|exact aP hls (j:=13) U rfl|exact aP hls (j:=18) U rfl|exact aP hls (j:=19) U rfl|exact aP hls (j:=0) U U) mem10 U ?_))))))))
  refine op_slice0 aD se89 U (.some U (show _=(((h.fi.toNat:Nat)):Int)from by omega)) .none (by omega) (by omega) (by simp) U ?_
  refine aH aZ (.cons U .nil) (FList_b) Tryz.func66 U U (by simp) U ?_
  rintro _ _ ⟨rfl,rfl⟩
  show At _ _ _ [N65,N2,M61,M58,M52,M40,M37,M34,M31,M28,N1,R] _
  refine aX nxQ sz91 U U U U U B2 (by simp) sel1 (fun N2 B2=>?_)
  simp only [setL,List.set]at B2
  refine aG U U (aB (s_11 (aR (b9 (aJ ((permSel11 (permSel11 (bB (bB (bB (bB (bB (bB (bB (bJ (permSel11 (permSel11 (At.mergeN (fun J J1 J2=>bB (bB (bJ (bJ (bJ (bJ (bJ (bJ (bJ (bB (bB (At.mergeN (fun K K1 K2=>bJ (bJ (bL (bL (bL (bL (bL (bL (bJ (bJ (At.mergeN (fun W W1 W2=>bL ?_)))))))))))))))))))))))))))))))))))))))))))
  refine bL (bN (bN (bN (bN (bN (bL (bL (At.mergeN (fun Q Q1 Q2=>bN (bN (bM (bM (bM (bM (bN (bN (At.mergeN (fun P P1 P2=>bM (bM (bY (bY (bY (bM (bM (At.mergeN (fun O O1 O2=>bY (bY (bI (bI (bY (bY (At.mergeN (fun G G1 G2=>bI (bI (cH (bI (bI (At.mergeN (fun I I1 I2=>cH (bR ?_))))))))))))))))))))))))))))))))))))))))
  refine cH (cH (At.mergeN (fun Z Z1 Z2=>bR (permSel1 (bR (bV (L1:= [Z]) U (.cell U (res_agg (ds:= [_,_,_]) ag91 B2 U U bZ) (.tmp U .nil)) U (.cons _ (.refl _)) aM ?_))))))
  have lG:=Heaplet.le_trans I1 Z1
  have lO:=Heaplet.le_trans G1 lG
  have lP:=Heaplet.le_trans O1 lO
  have lQ:=Heaplet.le_trans P1 lP
  have lW:=Heaplet.le_trans Q1 lQ
  have lK:=Heaplet.le_trans W1 lW
  have lJ:=Heaplet.le_trans K1 lK
  have q:=s65.take (hi:=h.fi.toNat) (m:=20) (by omega) (Nat.le_refl _) (by omega)
  rw [cellsI_take]at q
  exact .inl ⟨by unfold okF;omega,Z,ivL a65 h.fi.toNat 20,rfl,rfl,fun Y hY hN=>ItN_L (q.le (Heaplet.le_trans (Heaplet.le_trans J1 lJ) hY)) (ItsN.take _ (i65 Y (Heaplet.le_trans Z2 hY) (Heaplet.le_trans (Heaplet.le_trans J2 lJ) hY) (Heaplet.le_trans (Heaplet.le_trans K2 lK) hY) (Heaplet.le_trans (Heaplet.le_trans W2 lW) hY) (Heaplet.le_trans (Heaplet.le_trans Q2 lQ) hY) (Heaplet.le_trans (Heaplet.le_trans P2 lP) hY) (Heaplet.le_trans (Heaplet.le_trans O2 lO) hY) (Heaplet.le_trans (Heaplet.le_trans G2 lG) hY) (Heaplet.le_trans (Heaplet.le_trans I2 Z1) hY) hN))⟩
 refine At.knowF (d:=68) U c68 (aA (op_eql aD U U U (aG U U (aB (s_5 (aO U (fun c68=>?_) (fun c68=>?_)))))))
 ·refine At.knowT (d:=68) U c68 (aC fun _ s_12=>aA (aF U U (aI aD fl44_0 U U (aV aD sc3 U B1 (by first|rfl|exact aP hls (j:=9) U rfl|exact aP hls (j:=10) U rfl|exact aP hls (j:=11) U rfl|exact aP hls (j:=12) U rfl|exact aP hls (j:=13) U rfl|exact aP hls (j:=18) U rfl|exact aP hls (j:=19) U rfl|exact aP hls (j:=0) U U) mem10 U ?_))))
  refine op_slice0 aD se89 U (.some U (show _=(((h.fi.toNat:Nat)):Int)from by omega)) .none (by omega) (by omega) (by simp) U ?_
  refine aH aZ (.cons U .nil) (FList_b) Tryz.func66 U U (by simp) U ?_
  rintro _ _ ⟨rfl,rfl⟩
  show At _ _ _ [N65,N2,M61,M58,M52,M40,M37,M34,M31,M28,N1,R] _
  refine aX nxQ sz91 U U U U U B2 (by simp) sel1 (fun N2 B2=>?_)
  simp only [setL,List.set]at B2
  refine aG U U (aB (s_12 (aR (b9 (aJ ((permSel11 (permSel11 (bB (bB (bB (bB (bB (bB (bB (bJ (permSel11 (permSel11 (At.mergeN (fun J J1 J2=>bB (bB (bJ (bJ (bJ (bJ (bJ (bJ (bJ (bB (bB (At.mergeN (fun K K1 K2=>bJ (bJ (bL (bL (bL (bL (bL (bL (bJ (bJ (At.mergeN (fun W W1 W2=>bL ?_)))))))))))))))))))))))))))))))))))))))))))
  refine bL (bN (bN (bN (bN (bN (bL (bL (At.mergeN (fun Q Q1 Q2=>bN (bN (bM (bM (bM (bM (bN (bN (At.mergeN (fun P P1 P2=>bM (bM (bY (bY (bY (bM (bM (At.mergeN (fun O O1 O2=>bY (bY (bI (bI (bY (bY (At.mergeN (fun G G1 G2=>bI (bI (cH (bI (bI (At.mergeN (fun I I1 I2=>cH (bR ?_))))))))))))))))))))))))))))))))))))))))
  refine cH (cH (At.mergeN (fun Z Z1 Z2=>bR (permSel1 (bR (bV (L1:= [Z]) U (.cell U (res_agg (ds:= [_,_,_]) ag91 B2 U U bZ) (.tmp U .nil)) U (.cons _ (.refl _)) aM ?_))))))
  have lG:=Heaplet.le_trans I1 Z1
  have lO:=Heaplet.le_trans G1 lG
  have lP:=Heaplet.le_trans O1 lO
  have lQ:=Heaplet.le_trans P1 lP
  have lW:=Heaplet.le_trans Q1 lQ
  have lK:=Heaplet.le_trans W1 lW
  have lJ:=Heaplet.le_trans K1 lK
  have q:=s65.take (hi:=h.fi.toNat) (m:=20) (by omega) (Nat.le_refl _) (by omega)
  rw [cellsI_take]at q
  exact .inl ⟨by unfold okF;omega,Z,ivL a65 h.fi.toNat 20,rfl,rfl,fun Y hY hN=>ItN_L (q.le (Heaplet.le_trans (Heaplet.le_trans J1 lJ) hY)) (ItsN.take _ (i65 Y (Heaplet.le_trans Z2 hY) (Heaplet.le_trans (Heaplet.le_trans J2 lJ) hY) (Heaplet.le_trans (Heaplet.le_trans K2 lK) hY) (Heaplet.le_trans (Heaplet.le_trans W2 lW) hY) (Heaplet.le_trans (Heaplet.le_trans Q2 lQ) hY) (Heaplet.le_trans (Heaplet.le_trans P2 lP) hY) (Heaplet.le_trans (Heaplet.le_trans O2 lO) hY) (Heaplet.le_trans (Heaplet.le_trans G2 lG) hY) (Heaplet.le_trans (Heaplet.le_trans I2 Z1) hY) hN))⟩
 refine At.knowF (d:=68) U c68 (aQ (a0 (aE (s_3 (aC fun _ s_13=>aA (op_build (out:= [.bool false,.slice none 0 0,.slice none 0 0]) aD ze91 pl91 .nil U U (aX nxQ sz91 U U U U U B2 (by simp) sel1 (fun N2 B2=>?_))))))))
 simp only [setL,List.set]at B2
 refine aG U U (aB (s_13 (aR ((dropAt10 (dropAt9 (dropAt8 (dropAt7 (dropAt6 (dropAt5 (dropAt4 (dropAt3 (cA (a7 (bV (L1:= []) U (.cell U (res_agg (ds:= [_,_,_]) ag91 B2 U U bZ) (.tmp U .nil)) U (.cons _ (.refl _)) aM ?_)))))))))))))))
 exact .inr ⟨by unfold okF;omega,rfl,rfl⟩
theorem FHeaded_ok (k:h.Ok) (hr:RSl N 1 ao n cap (u8s h.ex)) (hv:okF h.fi):Fn Tryz.prog 65 #[.agg (h.cells (.slice ao n cap)).toArray] [] [N] (fun v L=> ∃J x,v=.tuple #[IV.val x,.int .i64 0]∧L= [J]∧ ∀K:Heaplet,J.le K→N.le K→ItN K h.it x):=
 (FHeaded_any k hr).mono fun v L hp=>by
  rcases hp with ⟨_,hp⟩|⟨h2,_⟩
  ·exact hp
  ·exact absurd hv h2
theorem FHeaded_bad (k:h.Ok) (hr:RSl N 1 ao n cap (u8s h.ex)) (hv: ¬okF h.fi):Fn Tryz.prog 65 #[.agg (h.cells (.slice ao n cap)).toArray] [] [N] (fun v L=>v=.tuple #[.agg #[.bool false,.slice none 0 0,.slice none 0 0],.int .i64 1]∧L= []):=
 (FHeaded_any k hr).mono fun v L hp=>by
  rcases hp with ⟨h2,_⟩|⟨_,hp⟩
  ·exact absurd h2 hv
  ·exact hp
theorem byteLenW {x:Nat} (hx:x<WW):(bytesOf x).length≤32:=by
 rw [length_bytesOf]
 exact byteLen_le.2 (by unfold WW at hx;exact hx)
theorem forms_take (its:List It): ∀k,(It.forms (its.take k)).length≤(It.forms its).length:=by
 induction its with
 |nil=>intro k;rw [List.take_nil];exact Nat.le_refl _
 |cons t ts ih=>
  intro k
  cases k with
  |zero=>rw [List.take_zero,forms_nil];exact Nat.zero_le _
  |succ k=>
   rw [List.take_succ_cons,forms_cons,forms_cons,List.length_append,List.length_append]
   have:=ih k
   omega
theorem forms_strs: ∀bs:List (List UInt8),(bs.map fun b=>b.length+9).sum≤4294967296→(It.forms (bs.map itS)).length≤(bs.map fun b=>b.length+9).sum
 | [],_=>by rw [List.map_nil,forms_nil];exact Nat.zero_le _
 |b::bs,h=>by
  simp only [List.map_cons,List.sum_cons]at h⊢
  have h1:=formS_len b (by omega)
  have h2:=forms_strs bs (by omega)
  rw [forms_cons,List.length_append]
  exact Nat.add_le_add h1 h2
def HdM.bss (h:HdM):List (List UInt8):= [h.pa,h.om,h.co,h.st,h.tx,h.rc,h.bl,bytesOf h.df,bytesOf h.nu.toNat,bytesOf h.gl.toNat,bytesOf h.gu.toNat,bytesOf h.ti.toNat,h.ex,h.mx,h.no,bytesOf h.bf,h.wd,bytesOf h.bg.toNat,bytesOf h.xs.toNat,h.be]
theorem hd_sum {n1 n2 n3 n4 n5 n6 n7 n8 e:Nat} (c1:n1≤8) (c2:n2≤8) (c3:n3≤8) (c4:n4≤8) (c5:n5≤8) (c6:n6≤8) (c7:n7≤32) (c8:n8≤32):
 (([32,32,20,32,32,32,256,n7,n1,n2,n3,n4,e,32,8,n8,32,n5,n6,32]:List Nat).map (· +9)).sum≤e+1500:=by
 simp only [List.map_cons,List.map_nil,List.sum_cons,List.sum_nil]
 simp only [←Nat.add_assoc]
 simp only [Nat.reduceAdd]
 omega
theorem HdM.bss_lens (k:h.Ok):h.bss.map List.length= [32,32,20,32,32,32,256,(bytesOf h.df).length,(bytesOf h.nu.toNat).length,(bytesOf h.gl.toNat).length,(bytesOf h.gu.toNat).length,(bytesOf h.ti.toNat).length,h.ex.length,32,8,(bytesOf h.bf).length,32,(bytesOf h.bg.toNat).length,(bytesOf h.xs.toNat).length,32]:=by
 simp only [HdM.bss,List.map_cons,List.map_nil,k.pa,k.om,k.co,k.st,k.tx,k.rc,k.bl,k.mx,k.no,k.wd,k.be]
theorem HdM.bss_sum (k:h.Ok):(h.bss.map fun b=>b.length+9).sum≤h.ex.length+1500:=by
 have e:(h.bss.map fun b=>b.length+9)=(h.bss.map List.length).map (· +9):=by rw [List.map_map];rfl
 rw [e,HdM.bss_lens k]
 exact hd_sum (bytes8 h.nu) (bytes8 h.gl) (bytes8 h.gu) (bytes8 h.ti) (bytes8 h.bg) (bytes8 h.xs) (byteLenW k.df) (byteLenW k.bf)
theorem HdM.form_len (k:h.Ok) (hn:h.ex.length≤4294960000):h.it.form.length≤h.ex.length+2000:=by
 have e0:=HdM.bss_sum k
 have e1:=forms_strs h.bss (by omega)
 have e2:=forms_take h.items h.fi.toNat
 rw [show h.items=h.bss.map itS from rfl]at e2
 have e3:=formL_len ((h.bss.map itS).take h.fi.toNat) (by omega)
 show(itL ((h.bss.map itS).take h.fi.toNat)).form.length≤_
 omega
theorem HdM.dep:h.it.depth≤1:=by
 have:It.depths (h.items.take h.fi.toNat)≤0:=depths_le.2 fun t ht=>by
  have ht:=List.mem_of_mem_take ht
  simp only [HdM.items,List.mem_cons,List.not_mem_nil,or_false]at ht
  rcases ht with rfl|rfl|rfl|rfl|rfl|rfl|rfl|rfl|rfl|rfl|rfl|rfl|rfl|rfl|rfl|rfl|rfl|rfl|rfl|rfl
  all_goals rw [depthS];exact Nat.le_refl _
 rw [HdM.it,depthL];omega
theorem FWriteHeader_ok (k:h.Ok) (hr:RSl N 1 ao n cap (u8s h.ex)) (hv:okF h.fi) (hn:h.ex.length≤4294960000):Fn Tryz.prog 20 #[.agg (h.cells (.slice ao n cap)).toArray] [] [N] (OutP h.it.form):=by
 have hcl:=HdM.len k (.slice ao n cap)
 have hf:=HdM.form_len k hn
 have hd:=HdM.dep (h:=h)
 refine Fn.enter (vs:= [.agg (h.cells (.slice ao n cap)).toArray]) Tryz.func20 U U U ?_
 intro E R hR
 have hr:=hr.le (hR N (by simp))
 change At _ _ E [R] _
 refine aC fun _ s_1=>aA (op_box aZ U U U (fun N1 b1 B1=>aG U U (aG U U (aB (s_1 (aC fun _ s_2=>aA (aY (ds:=h.cells (.slice ao n cap)) aD ag44 U B1 (by exact tk_all hcl) (by exact hcl) bZ U ?_)))))))
 refine aH aZ (.cons U .nil) (FHeaded_ok k hr hv) Tryz.func65 U U (by simp) U ?_
 rintro _ _ ⟨J8,x8,rfl,rfl,j8⟩
 show At _ _ _ [J8,N1,R] _
 refine aF U U (aN aD U U U (aN aD U U U (bE aZ ze91 U (fun N4 b4 B4=>?_))))
 change Blk N4 b4 _ [.bool false,.slice none 0 0,.slice none 0 0]at B4
 refine aX nxQ sz91 U U U U U B4 (by simp) sel0 (fun N4 B4=>?_)
 simp only [setL,List.set]at B4
 refine aG U U (aB (s_2 (aC fun _ s_3=>aC fun _ s_4=>aA (aF U U (op_neq aD U U U (aB (s_4 (aO U (fun c12=>?_) (fun c12=>?_)))))))))
 ·exfalso;omega
 refine At.knowF (d:=12) U c12 (aQ (aE (s_3 (aC fun _ s_5=>aA (aY (ds:= [_,_,_]) aD ag91 U B4 U U bZ U (aH aZ (.cons U .nil) (Fn.overJ (Ns:= [J8,R]) fun K hK=>FForm_b (j8 K (hK _ (by simp)) (hK _ (by simp))) (by omega) (by omega)) Tryz.func75 U U (by simp) U ?_))))))
 rintro _ _ ⟨M15,p15,k15,rfl,rfl,r15⟩
 show At _ _ _ [M15,N4,J8,N1,R] _
 refine aG U U (aG U U (aB (s_5 (aR ((dropAt3 (cA (a7 (bV (L1:= [M15]) U (.tmp U (.tmp U .nil)) U (.refl _) aM ?_)))))))))
 exact⟨M15,p15,k15,rfl,rfl,r15.rsl⟩
theorem FWriteHeader_bad (k:h.Ok) (hr:RSl N 1 ao n cap (u8s h.ex)) (hv: ¬okF h.fi):Fn Tryz.prog 20 #[.agg (h.cells (.slice ao n cap)).toArray] [] [N] (fun v L=>v=.tuple #[.slice none 0 0,.int .i64 1]∧L= []):=by
 have hcl:=HdM.len k (.slice ao n cap)
 refine Fn.enter (vs:= [.agg (h.cells (.slice ao n cap)).toArray]) Tryz.func20 U U U ?_
 intro E R hR
 have hr:=hr.le (hR N (by simp))
 change At _ _ E [R] _
 refine aC fun _ s_1=>aA (op_box aZ U U U (fun N1 b1 B1=>aG U U (aG U U (aB (s_1 (aC fun _ s_2=>aA (aY (ds:=h.cells (.slice ao n cap)) aD ag44 U B1 (by exact tk_all hcl) (by exact hcl) bZ U ?_)))))))
 refine aH aZ (.cons U .nil) (FHeaded_bad k hr hv) Tryz.func65 U U (by simp) U ?_
 rintro _ _ ⟨rfl,rfl⟩
 show At _ _ _ [N1,R] _
 refine aF U U (aN aD U U U (aN aD U U U (bE aZ ze91 U (fun N4 b4 B4=>?_))))
 change Blk N4 b4 _ [.bool false,.slice none 0 0,.slice none 0 0]at B4
 refine aX nxQ sz91 U U U U U B4 (by simp) sel0 (fun N4 B4=>?_)
 simp only [setL,List.set]at B4
 refine aG U U (aB (s_2 (aC fun _ s_3=>aC fun _ s_4=>aA (aF U U (op_neq aD U U U (aB (s_4 (aO U (fun c12=>?_) (fun c12=>?_)))))))))
 rotate_left
 ·exfalso;omega
 refine At.knowT (d:=12) U c12 (aC fun _ s_5=>aA (aF U U (aG U U (aG U U (aB (s_5 (aR (aJ ((a7 (bP (bV (L1:= []) U (.tmp U (.tmp U .nil)) U (.refl _) aM ?_))))))))))))
 exact⟨rfl,rfl⟩
end
def n64E (t:It):Except Nat UInt64:=eb (smallE t) fun x=>.ok (UInt64.ofNat x)
def zeros8 (k:Nat):List UInt8:=List.replicate k 0
def HdM.zero (fi:Int):HdM:=⟨fi,zeros8 32,zeros8 32,zeros8 20,zeros8 32,zeros8 32,zeros8 32,zeros8 256,0,0,0,0,0,[],zeros8 32,zeros8 8,0,zeros8 32,0,0,zeros8 32⟩
def hdR3 (h:HdM):List It→Except Nat HdM
 | []=>.ok h
 | [g,x,e]=>eb (n64E g) fun g=>eb (n64E x) fun x=>eb (fixE 32 e) fun e=>.ok { h with bg:=g,xs:=x,be:=e }
 |_=>.error 2
def hdR2 (h:HdM):List It→Except Nat HdM
 | []=>.ok h
 |w::r=>eb (fixE 32 w) fun w=>hdR3 { h with wd:=w } r
def hdR (h:HdM):List It→Except Nat HdM
 | []=>.ok h
 |b::r=>eb (wordE b) fun b=>hdR2 { h with bf:=b } r
def hdA:List It→Except Nat HdM
 |pa::om::co::st::tx::rc::bl::df::nu::gl::gu::ti::ex::mx::no::r=>
  eb (fixE 32 pa) fun pa=>eb (fixE 32 om) fun om=>eb (fixE 20 co) fun co=>eb (fixE 32 st) fun st=>eb (fixE 32 tx) fun tx=>eb (fixE 32 rc) fun rc=>eb (fixE 256 bl) fun bl=>eb (wordE df) fun df=>eb (n64E nu) fun nu=>eb (n64E gl) fun gl=>eb (n64E gu) fun gu=>eb (n64E ti) fun ti=>eb (strE ex) fun ex=>eb (fixE 32 mx) fun mx=>eb (fixE 8 no) fun no=>
  hdR ⟨((15+r.length:Nat):Int),pa,om,co,st,tx,rc,bl,df,nu,gl,gu,ti,ex,mx,no,0,zeros8 32,0,0,zeros8 32⟩ r
 |_=>.error 2
def hdE (t:It):Except Nat HdM:=eb (listE t) fun its=>if its.length∈ [15,16,17,20]then hdA its else .error 2
def rawE:It→Except Nat (List UInt8)
 |.mk false bs _=>if 0<bs.length∧1≤(bs.getD 0 0).toNat∧(bs.getD 0 0).toNat≤3 then .ok bs else .error 2
 |.mk true bs its=>if (It.mk true bs its).depth≤1024 then .ok (It.mk true bs its).form else .error 7
structure WdM where
 ix:UInt64
 va:UInt64
 ad:List UInt8
 am:UInt64
def wdA:List It→Except Nat WdM
 | [i,v,a,m]=>eb (n64E i) fun i=>eb (n64E v) fun v=>eb (fixE 20 a) fun a=>eb (n64E m) fun m=>.ok ⟨i,v,a,m⟩
 |_=>.error 2
def wdE (t:It):Except Nat WdM:=eb (listE t) wdA
structure BlkM where
 hd:HdM
 txs:List (List UInt8)
 oms:List HdM
 paid:Bool
 wds:List WdM
def blockR (m:BlkM):List It→Except Nat BlkM
 | []=>.ok m
 |w::_=>eb (eachE wdE w) fun w=>.ok { m with paid:=true,wds:=w }
def blockA:List It→Except Nat BlkM
 |h::t::o::r=>eb (hdE h) fun h=>eb (eachE rawE t) fun t=>eb (eachE hdE o) fun o=>blockR ⟨h,t,o,false,[]⟩ r
 |_=>.error 2
def blockE (t:It):Except Nat BlkM:=eb (listE t) fun its=>if its.length∈ [3,4]then blockA its else .error 2
theorem ofNat8 {n:Nat} (h:n<256):(UInt8.ofNat n).toNat=n:=by rw [UInt8.toNat_ofNat'];exact Nat.mod_eq_of_lt h
theorem bytesOf_ne {n:Nat} (h:n≠0): ∃x t,bytesOf n=x::t∧x.toNat≠0:=by
 have h1:=head_bytesOf n
 cases hb:bytesOf n with
 |nil=>
  have e:=be_bytesOf n
  rw [hb,be_nil]at e
  exact absurd e.symm h
 |cons x t=>
  rw [hb]at h1
  exact⟨x,t,rfl,fun e=>h1 (by simp only [List.head?_cons,Option.some.injEq];rw [←UInt8.toNat_inj];exact e)⟩
theorem cut_head {base:Nat} {p rest:List UInt8} (hb:base=128∨base=192) (hn:p.length<2^64) (hs:base=128→small p=false):
 cutF (rlpHead base p.length++(p++rest))=some (decide (base=192),p,rest):=by
 by_cases h55:p.length≤55
 ·have hx:=ofNat8 (n:=base+p.length) (by omega)
  have e:rlpHead base p.length++(p++rest)=UInt8.ofNat (base+p.length)::(p++rest):=by rw [rlpHead,if_pos h55,List.singleton_append]
  rw [e]
  generalize hxx:UInt8.ofNat (base+p.length)=x at hx
  have hd:hdr (x::(p++rest))=p.length:=by
   show(x.toNat- 128) % 64=p.length
   rw [hx];omega
  have h0:((x::(p++rest)).getD 0 0).toNat=base+p.length:=hx
  rw [cutF,if_neg (by simp),if_neg (by rw [h0];omega),if_pos (by rw [hd];exact h55),hd,cutAt,if_neg (by simp<;>omega)]
  have e1:((x::(p++rest)).drop 1).take p.length=p:=by simp
  have e2:(x::(p++rest)).drop (1+p.length)=rest:=by rw [Nat.add_comm,List.drop_succ_cons];simp
  rw [e1,e2,h0]
  rcases hb with rfl|rfl
  ·rw [if_neg (by omega),if_neg]
   ·rfl
   ·intro⟨h1,h2⟩
    have:=hs rfl
    rw [←Bool.not_eq_true,small_iffI]at this
    apply this
    refine⟨h1,?_⟩
    match p,h1 with
    | [y],_=>exact h2
  ·rw [if_pos (by omega)];rfl
 ·obtain⟨y,t,hB,hy⟩:=bytesOf_ne (n:=p.length) (by omega)
  have hk:=byteLen8 hn
  have hbe:=be_bytesOf p.length
  have e:rlpHead base p.length++(p++rest)=UInt8.ofNat (base+55+(bytesOf p.length).length)::(bytesOf p.length++(p++rest)):=by rw [rlpHead,if_neg h55];rfl
  rw [e]
  generalize hBB:bytesOf p.length=B at*
  have hk1:1≤B.length:=by rw [hB];simp
  have hx:=ofNat8 (n:=base+55+B.length) (by omega)
  generalize hxx:UInt8.ofNat (base+55+B.length)=x at hx
  have hd:hdr (x::(B++(p++rest)))=55+B.length:=by
   show(x.toNat- 128) % 64=55+B.length
   rw [hx];omega
  have h0:((x::(B++(p++rest))).getD 0 0).toNat=base+55+B.length:=hx
  have h1:((x::(B++(p++rest))).getD 1 0).toNat≠0:=by rw [hB];exact hy
  have hl:lng (x::(B++(p++rest)))=p.length:=by
   rw [lng,hd,show 55+B.length- 54- 1=B.length by omega]
   have:((x::(B++(p++rest))).drop 1).take B.length=B:=by simp
   rw [this,hbe]
  rw [cutF,if_neg (by simp),if_neg (by rw [h0];omega),if_neg (by rw [hd];omega),if_neg (by rw [hd];intro h;rcases h with h|h;(simp at h;omega);exact h1 h),if_neg (by rw [hl];simp;omega),hl,hd,cutAt,if_neg (by simp<;>omega),h0]
  have e1:((x::(B++(p++rest))).drop (55+B.length- 54)).take p.length=p:=by
   rw [show 55+B.length- 54=B.length+1 by omega,List.drop_succ_cons];simp
  have e2:(x::(B++(p++rest))).drop (55+B.length- 54+p.length)=rest:=by
   rw [show 55+B.length- 54+p.length=(B.length+p.length)+1 by omega,List.drop_succ_cons, ←List.drop_drop];simp
  rw [e1,e2]
  rcases hb with rfl|rfl
  ·rw [if_neg (by omega),if_neg (by omega)];rfl
  ·rw [if_pos (by omega)];rfl
theorem cut_small {x:UInt8} {rest:List UInt8} (h:x.toNat<128):cutF (x::rest)=some (false,[x],rest):=by
 rw [cutF,if_neg (by simp),if_pos (by exact h)];rfl
mutual
def It.plain:It→It
 |.mk false bs _=>.mk false bs []
 |.mk true _ its=>.mk true [] (It.plains its)
def It.plains:List It→List It
 | []=> []
 |t::ts=>It.plain t::It.plains ts
end
theorem form_pos (t:It):0<t.form.length:=by
 obtain⟨l,bs,its⟩:=t
 cases l with
 |false=>
  rw [form_false]
  split
  ·rename_i h
   have:=(small_iffI.1 h).1
   omega
  ·rw [List.length_append]
   have:0<(rlpHead 128 bs.length).length:=by unfold rlpHead;split<;>simp
   omega
 |true=>
  rw [form_true,List.length_append]
  have:0<(rlpHead 192 (It.forms its).length).length:=by unfold rlpHead;split<;>simp
  omega
theorem cut_text {bs:List UInt8} {its:List It} {rest:List UInt8} (h:(It.mk false bs its).form.length<2^64):cutF ((It.mk false bs its).form++rest)=some (false,bs,rest):=by
 rw [form_false]at h⊢
 split at h
 ·rename_i hsm
  rw [if_pos hsm]
  obtain⟨h1,h2⟩:=small_iffI.1 hsm
  match bs,h1 with
  | [x],_=>exact cut_small h2
 ·rename_i hsm
  rw [if_neg hsm,List.append_assoc]
  rw [List.length_append]at h
  rw [cut_head (.inl rfl) (by omega) (fun _=>by simpa using hsm)]
  rfl
theorem cut_list {bs:List UInt8} {its:List It} {rest:List UInt8} (h:(It.mk true bs its).form.length<2^64):cutF ((It.mk true bs its).form++rest)=some (true,It.forms its,rest):=by
 rw [form_true]at h⊢
 rw [List.length_append]at h
 rw [List.append_assoc,cut_head (.inr rfl) (by omega) (fun h=>absurd h (by decide))]
 rfl
mutual
theorem dec_form: ∀(t:It) (k:Nat) (rest:List UInt8),t.form.length<2^64→t.depth≤k→decF k (t.form++rest)=.ok (t.plain,rest)
 |.mk false bs its,k,rest,h,hd=>by
  cases k<;>simp [decF,cut_text h,It.plain]
 |.mk true bs its,k,rest,h,hd=>by
  simp only [It.depth]at hd
  obtain⟨k,rfl⟩: ∃j,k=j+1:=⟨k- 1,by omega⟩
  have hl:(It.forms its).length<2^64:=by rw [form_true,List.length_append]at h;omega
  simp only [decF,cut_list h,It.plain]
  rw [itF,dec_forms its k _ hl (by omega) (Nat.le_refl _)]
theorem dec_forms: ∀(ts:List It) (k f:Nat),(It.forms ts).length<2^64→It.depths ts≤k→(It.forms ts).length≤f→itemsF (decF k) f (It.forms ts)=.ok (It.plains ts)
 | [],k,f,_,_,_=>by cases f<;>simp [It.forms,itemsF,It.plains]
 |t::ts,k,f,h,hd,hf=>by
  have hp:=form_pos t
  simp only [It.forms,List.length_append]at h hf⊢
  simp only [It.depths]at hd
  have e:=dec_form t k (It.forms ts) (by omega) (by omega)
  obtain⟨f,rfl⟩: ∃j,f=j+1:=⟨f- 1,by omega⟩
  have e2:=dec_forms ts k f (by omega) (by omega) (by omega)
  cases hc:t.form++It.forms ts with
  |nil=>
   have:=congrArg List.length hc
   simp at this
   rw [this.1]at hp
   simp at hp
  |cons c b=>
   rw [itemsF, ←hc,e]
   simp only [e2,exMap,It.plains]
end
open Go Go.RowKit
set_option maxRecDepth 100000
section
variable {ki : Int} {ch nn pr tp ga va bf r s x : Nat} {mk od : Bool} {to : List UInt8} {d a b v : Value}
end
theorem PartsN.all {Np NI:Heaplet} {bp:Nat} {zs:List IV} {its:List It} (h:PartsN Np NI bp zs its):zs.length=its.length:=by
 obtain⟨ao,n,cap,B,hs,hi⟩:=h
 exact hi.length
def TxS (zs:List IV) (NI J:Heaplet) (m:TxM) (d a b:Value):Prop:= ∃da dc aa cc ba bc axs,
 d=.slice da m.da.length dc∧RSl NI 1 da m.da.length dc (u8s m.da)∧(∃(i:Nat) (z:IV),zs[i]? =some z∧d=slB z)∧
 a=.slice aa m.ac.length cc∧RSl J 21 aa m.ac.length cc (accC axs)∧AccsN J m.ac axs∧
 b=.slice ba m.bb.length bc∧RSl J 32 ba m.bb.length bc (hashC m.bb)
end Go.Proofs.YtjfagifjajielaaGreat
