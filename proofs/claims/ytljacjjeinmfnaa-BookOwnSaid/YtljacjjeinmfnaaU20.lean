/- Several texts in one: see the remarks ahead of each part. No condition but those told there. -/
import Derived.Test.YtljacjjeinmfnaaUBU2
set_option linter.unusedSimpArgs false
set_option linter.unusedVariables false
/- Layer 14: a transaction's items, its envelope. No condition but sizes. -/
namespace Go.Proofs.Ytljacjjeinmfnaa
open Go Go.RowKit
set_option maxRecDepth 100000
def numI (x:Nat):It:=itS (bytesOf x)
def toM (m:TxM):List UInt8:=if m.ma then []else m.to
def uA (m:TxM):List It:=if 0<m.ki then [numI m.ch]else []
def uB (m:TxM):List It:=uA m++ [numI m.nn]
def uC (m:TxM):List It:=uB m++if 1<m.ki then [numI m.tp]else []
def uD (m:TxM):List It:=uC m++ [numI m.pr,numI m.ga,itS (toM m),numI m.va,itS m.da]
def uE (m:TxM):List It:=uD m++if 0<m.ki then [itL (m.ac.map accIt)]else []
/-- The items of a transaction without its signature. -/
def uIts (m:TxM):List It:=uE m++if m.ki=3 then [numI m.bf,itL (m.bb.map itS)]else []
theorem uA_t {m:TxM} (h:0<m.ki):uA m= []++ [numI m.ch]:=by rw [uA,if_pos h];rfl
theorem uA_f {m:TxM} (h: ¬0<m.ki):uA m= []:=by rw [uA,if_neg h]
theorem uC_t {m:TxM} (h:1<m.ki):uC m=uB m++ [numI m.tp]:=by rw [uC,if_pos h]
theorem uC_f {m:TxM} (h: ¬1<m.ki):uC m=uB m:=by rw [uC,if_neg h,List.append_nil]
theorem uE_t {m:TxM} (h:0<m.ki):uE m=uD m++ [itL (m.ac.map accIt)]:=by rw [uE,if_pos h]
theorem uE_f {m:TxM} (h: ¬0<m.ki):uE m=uD m:=by rw [uE,if_neg h,List.append_nil]
theorem uF_t {m:TxM} (h:m.ki=3):uIts m=uE m++ [numI m.bf,itL (m.bb.map itS)]:=by rw [uIts,if_pos h]
theorem uF_f {m:TxM} (h: ¬m.ki=3):uIts m=uE m:=by rw [uIts,if_neg h,List.append_nil]
theorem uA_len (m:TxM):(uA m).length≤1:=by unfold uA;split<;>simp
theorem uC_len (m:TxM):(uC m).length≤3:=by
 have:=uA_len m
 unfold uC uB
 split<;>simp only [List.length_append,List.length_cons,List.length_nil]<;>omega
theorem uE_len (m:TxM):(uE m).length≤9:=by
 have:=uC_len m
 unfold uE uD
 split<;>simp only [List.length_append,List.length_cons,List.length_nil]<;>omega
theorem uIts_len (m:TxM):(uIts m).length≤11:=by
 have:=uE_len m
 unfold uIts
 split<;>simp only [List.length_append,List.length_cons,List.length_nil]<;>omega
/-- Where a transaction's lists lie, to be read. -/
def TxR (N:Heaplet) (m:TxM) (d a b:Value):Prop:= ∃da dc aa cc ba bc axs,
 d=.slice da m.da.length dc∧RSl N 1 da m.da.length dc (u8s m.da)∧
 a=.slice aa m.ac.length cc∧RSl N 21 aa m.ac.length cc (accC axs)∧AccsN N m.ac axs∧
 b=.slice ba m.bb.length bc∧RSl N 32 ba m.bb.length bc (hashC m.bb)
/-- Its lists are not too long. -/
structure TxM.Sz (m:TxM):Prop where
 da:m.da.length≤1073741824
 ac:m.ac.length≤1048576
 ks: ∀g∈m.ac,g.keys.length≤1048576
 bb:m.bb.length≤1048576
/-- Items in a row of their own. -/
def ItsR (NB:Heaplet→Prop) (its:List It) (v:Value) (L:List Heaplet):Prop:= ∃Nl NJ a c xs,v=.slice a its.length c∧L= [Nl,NJ]∧Row Nl 92 3 a its.length c (cellsI xs)∧ ∀K:Heaplet,NJ.le K→NB K→ItsN K its xs
theorem ItsN.app {K:Heaplet} : ∀ {ts us:List It} {xs ys:List IV},ItsN K ts xs→ItsN K us ys→ItsN K (ts++us) (xs++ys)
 | [],us,xs,ys,h,k=>by
  have h:xs= []:=h
  subst h;exact k
 |t::ts,us,xs,ys,h,k=>by
  obtain⟨x,r,rfl,h1,h2⟩:=h
  exact ItsN_cons h1 (ItsN.app h2 k)
theorem ItsN.one {K:Heaplet} {its:List It} {xs:List IV} {t:It} {x:IV} (h:ItsN K its xs) (k:ItN K t x):ItsN K (its++ [t]) (xs++ [x]):=h.snoc k
section
variable {N : Heaplet} {m : TxM} {d a b : Value}
set_option maxHeartbeats 8000000 in
theorem Funsigned (h:m.Ok) (hz:m.Sz) (hT:TxR N m d a b):Fn Try.prog 58 #[.agg (m.cells d a b).toArray] [] [N] (ItsR (fun K=>N.le K) (uIts m)):=by
 have hln:=TxM.cells_len h d a b
 obtain⟨da,dc,aa,cc,ba,bc,axs,rfl,hd,rfl,ha,hacc,rfl,hb⟩:=hT
 obtain⟨uch,hch⟩: ∃u:UInt64,m.ch=u.toNat:=⟨UInt64.ofNat m.ch,by rw [UInt64.toNat_ofNat',Nat.mod_eq_of_lt h.ch]⟩
 obtain⟨unn,hnn⟩: ∃u:UInt64,m.nn=u.toNat:=⟨UInt64.ofNat m.nn,by rw [UInt64.toNat_ofNat',Nat.mod_eq_of_lt h.nn]⟩
 obtain⟨uga,hga⟩: ∃u:UInt64,m.ga=u.toNat:=⟨UInt64.ofNat m.ga,by rw [UInt64.toNat_ofNat',Nat.mod_eq_of_lt h.ga]⟩
 have gch:(m.cells (.slice da m.da.length dc) (.slice aa m.ac.length cc) (.slice ba m.bb.length bc))[0+1]? =some (.int .u64 (uch.toNat:Int)):=by rw [←hch];exact gx_ch h
 have gnn:(m.cells (.slice da m.da.length dc) (.slice aa m.ac.length cc) (.slice ba m.bb.length bc))[0+2]? =some (.int .u64 (unn.toNat:Int)):=by rw [←hnn];exact gx_nn h
 have gga:(m.cells (.slice da m.da.length dc) (.slice aa m.ac.length cc) (.slice ba m.bb.length bc))[0+11]? =some (.int .u64 (uga.toNat:Int)):=by rw [←hga];exact gx_ga h
 obtain⟨cs,hcs⟩: ∃cs,m.cells (.slice da m.da.length dc) (.slice aa m.ac.length cc) (.slice ba m.bb.length bc)=cs:=⟨_,rfl⟩
 have hone:cs.all (·.oneCell')=true:=by rw [←hcs];exact TxM.one rfl rfl rfl
 have gki:=gx_ki (d:=.slice da m.da.length dc) (a:=.slice aa m.ac.length cc) (b:=.slice ba m.bb.length bc) h
 have gma:=gx_mk (d:=.slice da m.da.length dc) (a:=.slice aa m.ac.length cc) (b:=.slice ba m.bb.length bc) h
 have gda:=gx_d (d:=.slice da m.da.length dc) (a:=.slice aa m.ac.length cc) (b:=.slice ba m.bb.length bc) h
 have gac:=gx_a (d:=.slice da m.da.length dc) (a:=.slice aa m.ac.length cc) (b:=.slice ba m.bb.length bc) h
 have gbb:=gx_b (d:=.slice da m.da.length dc) (a:=.slice aa m.ac.length cc) (b:=.slice ba m.bb.length bc) h
 have gtp:=gx_tp (d:=.slice da m.da.length dc) (a:=.slice aa m.ac.length cc) (b:=.slice ba m.bb.length bc) h
 have gpr:=gx_pr (d:=.slice da m.da.length dc) (a:=.slice aa m.ac.length cc) (b:=.slice ba m.bb.length bc) h
 have gva:=gx_va (d:=.slice da m.da.length dc) (a:=.slice aa m.ac.length cc) (b:=.slice ba m.bb.length bc) h
 have gbf:=gx_bf (d:=.slice da m.da.length dc) (a:=.slice aa m.ac.length cc) (b:=.slice ba m.bb.length bc) h
 have gto:=gx_to (d:=.slice da m.da.length dc) (a:=.slice aa m.ac.length cc) (b:=.slice ba m.bb.length bc) h
 rw [hcs]at hln gch gnn gga gki gma gda gac gbb gtp gpr gva gbf gto⊢
 refine Fn.enter (vs:= [.agg cs.toArray]) Try.func58 rfl rfl rfl ?_
 intro E R hR
 have hNR:=hR N (by simp)
 have lA:=uA_len m
 have lC:=uC_len m
 have lE:=uE_len m
 change At _ _ E [R] _
 refine At.seq fun _ s_1=>At.region (op_box (aV rfl) rfl rfl rfl (fun N1 b1 B1=>aE (aC rfl) rfl rfl (aA (aB (s_1 (At.seq fun _ s_2=>At.meet (fun fr_ hp_=> ∃(n:Nat) (a:Option Addr) (c:Nat) (xs:List IV) (Nl NJ:Heaplet),fr_= [(1,.pointer (some ⟨b1,0,none⟩)),(2,.slice none 0 0),(3,.slice a n c)]∧hp_= [Nl,NJ,N1,R]∧(n=0)∧(Row Nl 92 3 a n c (cellsI xs))∧(∀K:Heaplet,NJ.le K→N.le K→N1.le K→ItsN K [] xs)) ?_ (fun K2_ jk_2=>?_)))))))
 rotate_left
 ·skip
  refine At.region (aE (aC rfl) rfl rfl (aA (At.empty (At.empty (At.perm aW (At.perm aW (At.perm aX (At.perm aW (aB (jk_2 ?_ (.refl _) ⟨0,none,0,[],nilH,nilH,rfl,rfl,rfl,Row.nil _ _ _,fun _ _ _ _=>ItsN_nil⟩))))))))))
  exact .cons (by first|exact bE rfl (by omega)|rfl) (.cons (by first|exact bE rfl (by omega)|rfl) (.cons (by first|exact bE rfl (by omega)|rfl) .nil))
 rintro _ _ ⟨n,a,c,xs,Nl,NJ,rfl,rfl,hn,r,hI⟩
 refine s_2 (At.seq fun _ s_3=>At.meet (fun fr_ hp_=> ∃(n:Nat) (a:Option Addr) (c:Nat) (xs:List IV) (Nl NJ:Heaplet),fr_= [(1,.pointer (some ⟨b1,0,none⟩)),(2,.slice none 0 0),(3,.slice a n c)]∧hp_= [Nl,NJ,N1,R]∧(n=(uA m).length)∧(Row Nl 92 3 a n c (cellsI xs))∧(∀K:Heaplet,NJ.le K→N.le K→N1.le K→ItsN K (uA m) xs)) ?_ (fun K3_ jk_3=>?_))
 rotate_left
 ·skip
  refine At.seq fun _ s_4=>At.region (aF (aC rfl) fl58_0 rfl rfl (aH (aC rfl) sc3 rfl B1 (gki) bV rfl (op_gtr (aC rfl) rfl rfl rfl (aA (aB (s_4 (aP rfl (fun c7=>?_) (fun c7=>?_))))))))
  ·refine At.knowT (d:=7) rfl c7 (At.region (aD (aC rfl) rfl rfl (aF (aC rfl) fl58_1 rfl rfl (aH (aC rfl) sc24 rfl B1 (gch) bV rfl (aR (aV rfl) (.cons rfl .nil) (FNumber_b uch) Try.func38 rfl rfl (by simp) rfl ?_)))))
   rintro v11 L11 ⟨M11,p11,k11,rfl,rfl,r11⟩
   change At _ _ _ [M11,Nl,NJ,N1,R] _
   refine op_lit (aV rfl) Try.underlying90 ze92 sz92 (.cons rfl .nil) rfl rfl (by simp [Value.cells]) rfl rfl rfl (fun N12 a12 r12=>?_)
   simp only [flatV,List.flatMap_cons,List.flatMap_nil,Value.cells,List.append_nil,List.cons_append,List.nil_append]at r12
   have s12:=r12.rsl
   change Row N12 _ 3 a12 1 1 (cellsI [ivS p11 (bytesOf uch.toNat).length k11])at r12
   refine op_append (nxl rfl) Try.underlying90 Try.underlying90 te92 rfl rfl r r12.rsl (by first|exact aN|exact bC|exact bV|exact mem3|exact mem4|exact mem5|exact mem6|exact mem7|exact mem8|exact mem9) (cellsI_oneB _) (by omega) (by omega) aX rfl (fun N13 a13 p13 r13=>?_)
   have s13:=r13.rsl
   rw [←cellsI_app]at r13
   refine aE (aC rfl) rfl rfl (aA (At.perm bL (At.perm bL (At.perm aW (At.perm aW (At.perm bJ (At.perm bL (At.mergeN (fun J J1 J2=>At.sub (L':= [J,N13,N1,R]) (.cons_cons _ (.cons_cons _ (.cons _ (.cons_cons _ (.cons_cons _ (.slnil)))))) (At.perm aW (At.perm aW (At.perm aX (At.perm aW ?_)))))))))))))
   refine aB (jk_3 ?_ (.refl _) ⟨n+1,a13,p13,xs++ [ivS p11 (bytesOf uch.toNat).length k11],N13,J,rfl,rfl,by rw [uA_t c7,hn];rfl,r13,by rw [uA_t c7,numI,hch];exact fun K hJ hN h1=>(hI K (Heaplet.le_trans J1 hJ) hN h1).one (ItN_S (r11.le (Heaplet.le_trans J2 hJ)))⟩)
   exact .cons (by first|exact bE rfl (by omega)|rfl) (.cons (by first|exact bE rfl (by omega)|rfl) (.cons (by first|exact bE rfl (by omega)|rfl) .nil))
  refine At.knowF (d:=7) rfl c7 (At.skip ?_)
  refine aB (jk_3 ?_ (.refl _) ⟨n,a,c,xs,Nl,NJ,rfl,rfl,by rw [uA_f c7,hn];rfl,r,by rw [uA_f c7];exact hI⟩)
  exact .cons (by first|exact bE rfl (by omega)|rfl) (.cons (by first|exact bE rfl (by omega)|rfl) (.cons (by first|exact bE rfl (by omega)|rfl) .nil))
 rintro _ _ ⟨n,a,c,xs,Nl,NJ,rfl,rfl,hn,r,hI⟩
 refine s_3 (At.seq fun _ s_5=>At.region (aD (aC rfl) rfl rfl (aF (aC rfl) fl58_2 rfl rfl (aH (aC rfl) sc24 rfl B1 (gnn) bV rfl (aR (aV rfl) (.cons rfl .nil) (FNumber_b unn) Try.func38 rfl rfl (by simp) rfl ?_)))))
 rintro v17 L17 ⟨M17,p17,k17,rfl,rfl,r17⟩
 change At _ _ _ [M17,Nl,NJ,N1,R] _
 refine op_lit (aV rfl) Try.underlying90 ze92 sz92 (.cons rfl .nil) rfl rfl (by simp [Value.cells]) rfl rfl rfl (fun N18 a18 r18=>?_)
 simp only [flatV,List.flatMap_cons,List.flatMap_nil,Value.cells,List.append_nil,List.cons_append,List.nil_append]at r18
 have s18:=r18.rsl
 change Row N18 _ 3 a18 1 1 (cellsI [ivS p17 (bytesOf unn.toNat).length k17])at r18
 refine op_append (nxl rfl) Try.underlying90 Try.underlying90 te92 rfl rfl r r18.rsl (by first|exact aN|exact bC|exact bV|exact mem3|exact mem4|exact mem5|exact mem6|exact mem7|exact mem8|exact mem9) (cellsI_oneB _) (by omega) (by omega) aX rfl (fun N19 a19 p19 r19=>?_)
 have s19:=r19.rsl
 rw [←cellsI_app]at r19
 refine aE (aC rfl) rfl rfl (aA (aB (s_5 (At.seq fun _ s_6=>At.meet (fun fr_ hp_=> ∃(n:Nat) (a:Option Addr) (c:Nat) (xs:List IV) (Nl NJ:Heaplet),fr_= [(1,.pointer (some ⟨b1,0,none⟩)),(2,.slice none 0 0),(3,.slice a n c)]∧hp_= [Nl,NJ,N1,R]∧(n=(uC m).length)∧(Row Nl 92 3 a n c (cellsI xs))∧(∀K:Heaplet,NJ.le K→N.le K→N1.le K→ItsN K (uC m) xs)) ?_ (fun K6_ jk_6=>?_)))))
 rotate_left
 ·skip
  refine At.seq fun _ s_7=>At.region (aF (aC rfl) fl58_0 rfl rfl (aH (aC rfl) sc3 rfl B1 (gki) mem4 rfl (op_gtr (aC rfl) rfl rfl rfl (aA (aB (s_7 (aP rfl (fun c22=>?_) (fun c22=>?_))))))))
  ·refine At.knowT (d:=22) rfl c22 (At.region (aD (aC rfl) rfl rfl (aF (aC rfl) fl58_4 rfl rfl (aL (ds:=u64s (wl m.tp)) (aC rfl) ag26 rfl B1 (by exact gtp) (by exact len_w4 _) mem4 rfl ?_))))
   refine aR (aV rfl) (.cons rfl .nil) (FOf_b h.tp) Try.func59 rfl rfl (by simp) rfl ?_
   rintro v26 L26 ⟨M26,p26,k26,rfl,rfl,r26⟩
   change At _ _ _ [M26,N19,N18,M17,NJ,N1,R] _
   refine op_lit (aV rfl) Try.underlying90 ze92 sz92 (.cons rfl .nil) rfl rfl (by simp [Value.cells]) rfl rfl rfl (fun N27 a27 r27=>?_)
   simp only [flatV,List.flatMap_cons,List.flatMap_nil,Value.cells,List.append_nil,List.cons_append,List.nil_append]at r27
   have s27:=r27.rsl
   change Row N27 _ 3 a27 1 1 (cellsI [ivS p26 (bytesOf m.tp).length k26])at r27
   refine op_append (nxl rfl) Try.underlying90 Try.underlying90 te92 rfl rfl r19 r27.rsl (by first|exact aN|exact bC|exact bV|exact mem3|exact mem4|exact mem5|exact mem6|exact mem7|exact mem8|exact mem9) (cellsI_oneB _) (by omega) (by omega) aX rfl (fun N28 a28 p28 r28=>?_)
   have s28:=r28.rsl
   rw [←cellsI_app]at r28
   refine aE (aC rfl) rfl rfl (aA (At.perm sel7 (At.perm sel7 (At.perm bL (At.perm bL (At.perm bL (At.perm bL (At.perm bR (At.perm sel7 (At.mergeN (fun J J1 J2=>At.perm bR (At.perm bR (At.perm bR (At.perm bL (At.perm bL (At.perm bR (At.perm bR (At.mergeN (fun W W1 W2=>At.sub (L':= [W,N28,N1,R]) (.cons_cons _ (.cons_cons _ (.cons _ (.cons _ (.cons_cons _ (.cons_cons _ (.slnil))))))) (At.perm aW ?_))))))))))))))))))))
   refine At.perm aW (At.perm aX (At.perm aW ?_))
   refine aB (jk_6 ?_ (.refl _) ⟨n+1+1,a28,p28,xs++ [ivS p17 (bytesOf unn.toNat).length k17]++ [ivS p26 (bytesOf m.tp).length k26],N28,W,rfl,rfl,by rw [uC_t c22,uB,List.length_append,List.length_append,hn];rfl,r28,by rw [uC_t c22,uB,numI,numI,hnn];exact fun K hJ hN h1=>((hI K (Heaplet.le_trans J1 (Heaplet.le_trans W1 hJ)) hN h1).one (ItN_S (r17.le (Heaplet.le_trans J2 (Heaplet.le_trans W1 hJ))))).one (ItN_S (r26.le (Heaplet.le_trans W2 hJ)))⟩)
   exact .cons (by first|exact bE rfl (by omega)|rfl) (.cons (by first|exact bE rfl (by omega)|rfl) (.cons (by first|exact bE rfl (by omega)|rfl) .nil))
  refine At.knowF (d:=22) rfl c22 (At.skip (At.perm bL (At.perm bL (At.perm aW (At.perm aW (At.perm bJ (At.perm bL (At.mergeN (fun J J1 J2=>At.sub (L':= [J,N19,N1,R]) (.cons_cons _ (.cons_cons _ (.cons _ (.cons_cons _ (.cons_cons _ (.slnil)))))) (At.perm aW (At.perm aW (At.perm aX (At.perm aW ?_)))))))))))))
  refine aB (jk_6 ?_ (.refl _) ⟨n+1,a19,p19,xs++ [ivS p17 (bytesOf unn.toNat).length k17],N19,J,rfl,rfl,by rw [uC_f c22,uB,List.length_append,hn];rfl,r19,by rw [uC_f c22,uB,numI,hnn];exact fun K hJ hN h1=>(hI K (Heaplet.le_trans J1 hJ) hN h1).one (ItN_S (r17.le (Heaplet.le_trans J2 hJ)))⟩)
  exact .cons (by first|exact bE rfl (by omega)|rfl) (.cons (by first|exact bE rfl (by omega)|rfl) (.cons (by first|exact bE rfl (by omega)|rfl) .nil))
 rintro _ _ ⟨n,a,c,xs,Nl,NJ,rfl,rfl,hn,r,hI⟩
 refine s_6 (At.seq fun _ s_8=>?_)
 have s30:=sub8 B1.rng gto h.to (by decide)
 refine At.region (aF (aC rfl) fl58_7 rfl rfl (op_sliceA (aC rfl) ae23 rfl .none .none .none (by omega) (by omega) (by omega) (by simp) rfl (aE (aC rfl) rfl rfl (aA (aB (s_8 (At.seq fun _ s_9=>At.meet (fun fr_ hp_=> ∃(ta:Option Addr) (tn tc:Nat),fr_= [(1,.pointer (some ⟨b1,0,none⟩)),(2,.slice none 0 0),(3,.slice a n c),(4,.slice ta tn tc)]∧hp_= [Nl,NJ,N1,R]∧(tn=(toM m).length)∧(∀K:Heaplet,N1.le K→RSl K 1 ta tn tc (u8s (toM m)))) ?_ (fun K9_ jk_9=>?_))))))))
 rotate_left
 ·skip
  refine At.seq fun _ s_10=>At.region (aF (aC rfl) fl58_6 rfl rfl (aH (aC rfl) sc4 rfl B1 (gma) bV rfl (aA (aB (s_10 (At.condB rfl (fun c32=>?_) (fun c32=>?_)))))))
  ·refine At.knowBT (d:=32) rfl c32 (At.region (aE (aC rfl) rfl rfl (aA ?_)))
   refine aB (jk_9 ?_ (.refl _) ⟨none,0,0,rfl,rfl,by simp [toM,c32],fun K _=>by rw [toM,if_pos c32];exact RSl.nil _ _⟩)
   exact .cons (by first|exact bE rfl (by omega)|rfl) (.cons (by first|exact bE rfl (by omega)|rfl) (.cons (by first|exact bE rfl (by omega)|rfl) (.cons (by first|exact bE rfl (by omega)|rfl) .nil)))
  refine At.knowBF (d:=32) rfl c32 (At.skip ?_)
  refine aB (jk_9 ?_ (.refl _) ⟨_,_,_,rfl,rfl,by rw [toM,if_neg (by rw [c32];decide),h.to],fun K hK=>by rw [toM,if_neg (by rw [c32];decide)];exact s30.le hK⟩)
  exact .cons (by first|exact bE rfl (by omega)|rfl) (.cons (by first|exact bE rfl (by omega)|rfl) (.cons (by first|exact bE rfl (by omega)|rfl) (.cons (by first|exact bE rfl (by omega)|rfl) .nil)))
 rintro _ _ ⟨ta,tn,tc,rfl,rfl,htn,hto⟩
 refine s_9 (At.seq fun _ s_11=>At.drawnS [N1,R] [14,15,16] [0,7] [0,1,2,4,5,7,9,10,12,13,3,6,8,11,14,15,16,17] (by kernel_rfl) (by kernel_rfl) (.cons _ (.cons _ (.refl _))) (aD (bK rfl rfl rfl) rfl rfl (aF (bK rfl rfl rfl) fl58_3 rfl rfl (aL (ds:=u64s (wl m.pr)) (bK rfl rfl rfl) ag26 rfl B1 (by exact gpr) (by exact len_w4 _) aN rfl ?_))))
 refine aF (bK rfl rfl rfl) fl58_5 rfl rfl (aH (bK rfl rfl rfl) sc24 rfl B1 (gga) aN rfl (aD (bK rfl rfl rfl) rfl rfl (aF (bK rfl rfl rfl) fl58_8 rfl rfl (aL (ds:=u64s (wl m.va)) (bK rfl rfl rfl) ag26 rfl B1 (by exact gva) (by exact len_w4 _) aN rfl ?_))))
 refine aF (bK rfl rfl rfl) fl58_9 rfl rfl (aH (bK rfl rfl rfl) sc27 rfl B1 (gda) aN rfl (aR (Nx.agree (nxsm rfl rfl rfl)) (.cons rfl .nil) (FOf_b h.pr) Try.func59 rfl rfl (by simp) rfl ?_))
 rintro v36 L36 ⟨M36,p36,k36,rfl,rfl,r36⟩
 change At _ _ _ [M36,Nl,NJ,N1,R] _
 refine At.moreS (Lst:= [N1,R]) (Lst':= [N1,R]) (.refl _) (.cons _ (.cons _ (.cons _ (.refl _)))) (aR (Nx.agree (nxsm rfl rfl rfl)) (.cons rfl .nil) (FNumber_b uga) Try.func38 rfl rfl (by simp) rfl ?_)
 rintro v39 L39 ⟨M39,p39,k39,rfl,rfl,r39⟩
 change At _ _ _ [M39,M36,Nl,NJ,N1,R] _
 refine At.moreS (Lst:= [N1,R]) (Lst':= [N1,R]) (.refl _) (.cons _ (.cons _ (.cons _ (.cons _ (.refl _))))) (aR (Nx.agree (nxsm rfl rfl rfl)) (.cons rfl .nil) (FText_b) Try.func37 rfl rfl (by simp) rfl ?_)
 rintro v41 L41 ⟨rfl,rfl⟩
 change At _ _ _ [M39,M36,Nl,NJ,N1,R] _
 refine At.moreS (Lst:= [N1,R]) (Lst':= [N1,R]) (.refl _) (.cons _ (.cons _ (.cons _ (.cons _ (.refl _))))) (aR (Nx.agree (nxsm rfl rfl rfl)) (.cons rfl .nil) (FOf_b h.va) Try.func59 rfl rfl (by simp) rfl ?_)
 rintro v44 L44 ⟨M44,p44,k44,rfl,rfl,r44⟩
 change At _ _ _ [M44,M39,M36,Nl,NJ,N1,R] _
 refine At.moreS (Lst:= [N1,R]) (Lst':= [N1,R]) (.refl _) (.cons _ (.cons _ (.cons _ (.cons _ (.cons _ (.refl _)))))) (aR (Nx.agree (nxss rfl rfl rfl rfl)) (.cons rfl .nil) (FText_b) Try.func37 rfl rfl (by simp) rfl ?_)
 rintro v47 L47 ⟨rfl,rfl⟩
 change At _ _ _ [M44,M39,M36,Nl,NJ,N1,R] _
 refine At.anyS (.refl _) (op_lit (Nx.agree (nxss rfl rfl rfl rfl)) Try.underlying90 ze92 sz92 (.cons rfl (.cons rfl (.cons rfl (.cons rfl (.cons rfl .nil))))) rfl rfl (by simp [Value.cells]) rfl rfl rfl (fun N48 a48 r48=>?_))
 simp only [flatV,List.flatMap_cons,List.flatMap_nil,Value.cells,List.append_nil,List.cons_append,List.nil_append]at r48
 have s48:=r48.rsl
 refine At.anyS (.refl _) ?_
 change Row N48 _ 3 a48 5 5 (cellsI [ivS p36 (bytesOf m.pr).length k36,ivS p39 (bytesOf uga.toNat).length k39,ivS ta tn tc,ivS p44 (bytesOf m.va).length k44,ivS da m.da.length dc])at r48
 have s48:=r48.rsl
 refine op_append (nxss rfl rfl rfl rfl) Try.underlying90 Try.underlying90 te92 rfl rfl r s48 (by first|exact aN|exact bC|exact bV|exact mem3|exact mem4|exact mem5|exact mem6|exact mem7|exact mem8|exact mem9) (cellsI_oneB _) (by omega) (by omega) bJ rfl (fun N49 a49 p49 r49=>?_)
 have s49:=r49.rsl
 refine At.anyS (.refl _) ?_
 rw [←cellsI_app]at r49
 refine aE (bK rfl rfl rfl) rfl rfl (At.sNil (aB (s_11 (At.seq fun _ s_12=>At.meet (fun fr_ hp_=> ∃(n:Nat) (a:Option Addr) (c:Nat) (xs:List IV) (Nl NJ:Heaplet),fr_= [(1,.pointer (some ⟨b1,0,none⟩)),(2,.slice none 0 0),(3,.slice a n c)]∧hp_= [Nl,NJ,N1,R]∧(n=(uE m).length)∧(Row Nl 92 3 a n c (cellsI xs))∧(∀K:Heaplet,NJ.le K→N.le K→N1.le K→ItsN K (uE m) xs)) ?_ (fun K12_ jk_12=>?_)))))
 rotate_left
 ·skip
  refine At.seq fun _ s_13=>?_
  have hD: ∀K:Heaplet,NJ.le K→M36.le K→M39.le K→M44.le K→N.le K→N1.le K→ItsN K (uD m) (xs++ [ivS p36 (bytesOf m.pr).length k36,ivS p39 (bytesOf uga.toNat).length k39,ivS ta tn tc,ivS p44 (bytesOf m.va).length k44,ivS da m.da.length dc]):=by
   rw [uD,numI,numI,numI,hga]
   intro K hJ h36 h39 h44 hN h1
   refine ItsN.app (hI K hJ hN h1) (ItsN_cons (ItN_S (r36.le h36)) (ItsN_cons (ItN_S (r39.le h39)) (ItsN_cons (ItN_S ?_) (ItsN_cons (ItN_S (r44.le h44)) (ItsN_cons (ItN_S (hd.le hN)) ItsN_nil)))))
   exact hto K h1
  have hnD:n+5=(uD m).length:=by rw [uD,List.length_append,hn];rfl
  refine At.region (aF (aC rfl) fl58_0 rfl rfl (aH (aC rfl) sc3 rfl B1 (gki) mem6 rfl (op_gtr (aC rfl) rfl rfl rfl (aA (aB (s_13 (aP rfl (fun c52=>?_) (fun c52=>?_))))))))
  ·refine At.knowT (d:=52) rfl c52 (At.region (aD (aC rfl) rfl rfl (aF (aC rfl) fl58_10 rfl rfl (aH (aC rfl) sc56 rfl B1 (gac) mem6 rfl ?_))))
   refine aR (aV rfl) (.cons rfl .nil) ((FAccItems_b ha hacc (fun g hg=>Nat.le_trans (hz.ks g hg) (by decide)) (by have:=hz.ac;omega)).liftB hNR) Try.func100 rfl rfl (by simp) rfl ?_
   rintro v56 L56 ⟨J56,x56,rfl,rfl,j56⟩
   change At _ _ _ [J56,N49,N48,M44,M39,M36,NJ,N1,R] _
   change At _ ((56,.agg #[.bool x56.l,.slice x56.ab x56.nb x56.cb,.slice x56.ai x56.ni x56.ci])::_) _ _ _
   refine op_lit (aV rfl) Try.underlying90 ze92 sz92 (.cons rfl .nil) rfl rfl (by simp [Value.cells]) rfl rfl rfl (fun N57 a57 r57=>?_)
   simp only [flatV,List.flatMap_cons,List.flatMap_nil,Value.cells,List.append_nil,List.cons_append,List.nil_append]at r57
   have s57:=r57.rsl
   change Row N57 _ 3 a57 1 1 (cellsI [x56])at r57
   refine op_append (nxl rfl) Try.underlying90 Try.underlying90 te92 rfl rfl r49 r57.rsl (by first|exact aN|exact bC|exact bV|exact mem3|exact mem4|exact mem5|exact mem6|exact mem7|exact mem8|exact mem9) (cellsI_oneB _) (by omega) (by omega) aX rfl (fun N58 a58 p58 r58=>?_)
   have s58:=r58.rsl
   rw [←cellsI_app]at r58
   refine aE (aC rfl) rfl rfl (aA (At.perm sel9 (At.perm sel9 (At.perm sel7 (At.perm sel7 (At.perm sel7 (At.perm sel7 (At.perm sel7 (At.perm sel7 (At.perm sel8 (At.perm sel9 (At.mergeN (fun J J1 J2=>At.perm sel8 (At.perm sel8 (At.perm sel7 (At.perm sel7 (At.perm sel7 (At.perm sel7 (At.perm sel7 (At.perm sel8 ?_))))))))))))))))))))
   refine At.perm sel8 (At.mergeN (fun W W1 W2=>At.perm sel7 (At.perm sel7 (At.perm bR (At.perm bR (At.perm bR (At.perm bR (At.perm sel7 (At.perm sel7 (At.mergeN (fun Q Q1 Q2=>At.perm bR (At.perm bR (At.perm bR (At.perm bL (At.perm bL (At.perm bR (At.perm bR (At.mergeN (fun P P1 P2=>At.sub (L':= [P,N58,N1,R]) (.cons_cons _ (.cons_cons _ (.cons _ (.cons _ (.cons_cons _ (.cons_cons _ (.slnil))))))) (At.perm aW ?_))))))))))))))))))))
   refine At.perm aW (At.perm aX (At.perm aW ?_))
   refine aB (jk_12 ?_ (.refl _) ⟨n+5+1,a58,p58,_,N58,P,rfl,rfl,by rw [uE_t c52,List.length_append, ←hnD];rfl,r58,by rw [uE_t c52];exact fun K hJ hN h1=>(hD K (Heaplet.le_trans J1 (Heaplet.le_trans W1 (Heaplet.le_trans Q1 (Heaplet.le_trans P1 hJ)))) (Heaplet.le_trans J2 (Heaplet.le_trans W1 (Heaplet.le_trans Q1 (Heaplet.le_trans P1 hJ)))) (Heaplet.le_trans W2 (Heaplet.le_trans Q1 (Heaplet.le_trans P1 hJ))) (Heaplet.le_trans Q2 (Heaplet.le_trans P1 hJ)) hN h1).one (j56 K (Heaplet.le_trans P2 hJ) hN)⟩)
   exact .cons (by first|exact bE rfl (by omega)|rfl) (.cons (by first|exact bE rfl (by omega)|rfl) (.cons (by first|exact bE rfl (by omega)|rfl) .nil))
  refine At.knowF (d:=52) rfl c52 (At.skip (At.perm sel7 (At.perm sel7 (At.perm bL (At.perm bL (At.perm bL (At.perm bL (At.perm bR (At.perm sel7 (At.mergeN (fun J J1 J2=>At.perm bR (At.perm bR (At.perm bL (At.perm bL (At.perm bL (At.perm bR (At.perm bR (At.mergeN (fun W W1 W2=>At.perm bL (At.perm bL ?_))))))))))))))))))))
  refine At.perm bJ (At.perm bJ (At.perm bL (At.perm bL (At.mergeN (fun Q Q1 Q2=>At.sub (L':= [Q,N49,N1,R]) (.cons_cons _ (.cons_cons _ (.cons _ (.cons_cons _ (.cons_cons _ (.slnil)))))) (At.perm aW (At.perm aW (At.perm aX (At.perm aW ?_)))))))))
  refine aB (jk_12 ?_ (.refl _) ⟨n+5,a49,p49,_,N49,Q,rfl,rfl,by rw [uE_f c52];exact hnD,r49,by rw [uE_f c52];exact fun K hJ hN h1=>hD K (Heaplet.le_trans J1 (Heaplet.le_trans W1 (Heaplet.le_trans Q1 hJ))) (Heaplet.le_trans J2 (Heaplet.le_trans W1 (Heaplet.le_trans Q1 hJ))) (Heaplet.le_trans W2 (Heaplet.le_trans Q1 hJ)) (Heaplet.le_trans Q2 hJ) hN h1⟩)
  exact .cons (by first|exact bE rfl (by omega)|rfl) (.cons (by first|exact bE rfl (by omega)|rfl) (.cons (by first|exact bE rfl (by omega)|rfl) .nil))
 rintro _ _ ⟨n,a,c,xs,Nl,NJ,rfl,rfl,hn,r,hI⟩
 refine s_12 (At.seq fun _ s_14=>At.seq fun _ s_15=>At.region (aF (aC rfl) fl58_0 rfl rfl (aH (aC rfl) sc3 rfl B1 (gki) bV rfl (op_eql (aC rfl) rfl rfl rfl (aA (aB (s_15 (aP rfl (fun c61=>?_) (fun c61=>?_)))))))))
 ·refine At.knowT (d:=61) rfl c61 (At.drawnS [N1,R] [6,7,8] [0] [0,1,2,4,5,3,6,7,8,9] (by kernel_rfl) (by kernel_rfl) (.cons _ (.cons _ (.refl _))) (aD (bK rfl rfl rfl) rfl rfl (aF (bK rfl rfl rfl) fl58_11 rfl rfl (aL (ds:=u64s (wl m.bf)) (bK rfl rfl rfl) ag26 rfl B1 (by exact gbf) (by exact len_w4 _) aN rfl ?_))))
  refine aF (bK rfl rfl rfl) fl58_12 rfl rfl (aH (bK rfl rfl rfl) sc41 rfl B1 (gbb) aN rfl (aR (Nx.agree (nxsm rfl rfl rfl)) (.cons rfl .nil) (FOf_b h.bf) Try.func59 rfl rfl (by simp) rfl ?_))
  rintro v65 L65 ⟨M65,p65,k65,rfl,rfl,r65⟩
  change At _ _ _ [M65,Nl,NJ,N1,R] _
  refine At.moreS (Lst:= [N1,R]) (Lst':= [N1,R]) (.refl _) (.cons _ (.cons _ (.cons _ (.refl _)))) ?_
  refine aR (Nx.agree (nxss rfl rfl rfl rfl)) (.cons rfl .nil) ((FHashes_b hb h.bb (by have:=hz.bb;omega)).liftB hNR) Try.func99 rfl rfl (by simp) rfl ?_
  rintro v68 L68 ⟨J68,x68,rfl,rfl,j68⟩
  change At _ _ _ [J68,M65,Nl,NJ,N1,R] _
  change At _ ((68,.agg #[.bool x68.l,.slice x68.ab x68.nb x68.cb,.slice x68.ai x68.ni x68.ci])::_) _ _ _
  refine At.anyS (.refl _) (op_lit (Nx.agree (nxss rfl rfl rfl rfl)) Try.underlying90 ze92 sz92 (.cons rfl (.cons rfl .nil)) rfl rfl (by simp [Value.cells]) rfl rfl rfl (fun N69 a69 r69=>?_))
  simp only [flatV,List.flatMap_cons,List.flatMap_nil,Value.cells,List.append_nil,List.cons_append,List.nil_append]at r69
  have s69:=r69.rsl
  refine At.anyS (.refl _) ?_
  change Row N69 _ 3 a69 2 2 (cellsI [ivS p65 (bytesOf m.bf).length k65,x68])at r69
  have s69:=r69.rsl
  refine op_append (nxss rfl rfl rfl rfl) Try.underlying90 Try.underlying90 te92 rfl rfl r s69 (by first|exact aN|exact bC|exact bV|exact mem3|exact mem4|exact mem5|exact mem6|exact mem7|exact mem8|exact mem9) (cellsI_oneB _) (by omega) (by omega) aW rfl (fun N70 a70 p70 r70=>?_)
  have s70:=r70.rsl
  refine At.anyS (.refl _) ?_
  rw [←cellsI_app]at r70
  refine aE (bK rfl rfl rfl) rfl rfl (At.sNil (aB (s_14 (At.seq fun _ s_16=>At.region (aD (aC rfl) rfl rfl (aE (aC rfl) rfl rfl (aA (aB (s_16 (At.ret ((At.perm bR (At.perm bR (At.perm bJ (At.perm bJ (At.perm bJ (At.perm bL (At.perm bR (At.mergeN (fun J J1 J2=>At.perm bL (At.perm bL (At.perm bJ ?_))))))))))))))))))))))
  refine At.perm bJ (At.perm bL (At.perm bL (At.mergeN (fun W W1 W2=>At.perm bJ (At.perm aW (At.perm aW (At.perm bJ (At.perm bJ (At.mergeN (fun Q Q1 Q2=>At.sub (L':= [Q,N70,R]) (.cons_cons _ (.cons_cons _ (.cons _ (.cons_cons _ (.slnil))))) (At.perm aX (At.perm bZ (At.perm aX (aZ (L1:= [N70,Q]) rfl (.tmp rfl .nil) (.refl _) (.refl _) ?_))))))))))))))
  exact⟨N70,Q,a70,p70,_,by rw [uF_t c61,List.length_append, ←hn];rfl,rfl,by rw [uF_t c61,List.length_append, ←hn];exact r70,by rw [uF_t c61];exact fun K hJ hN=>ItsN.app (hI K (Heaplet.le_trans J1 (Heaplet.le_trans W1 (Heaplet.le_trans Q1 hJ))) hN (Heaplet.le_trans Q2 hJ)) (ItsN_cons (ItN_S (r65.le (Heaplet.le_trans J2 (Heaplet.le_trans W1 (Heaplet.le_trans Q1 hJ))))) (ItsN_cons (j68.le (Heaplet.le_trans W2 (Heaplet.le_trans Q1 hJ))) ItsN_nil))⟩
 refine At.knowF (d:=61) rfl c61 (At.skip (aB (s_14 (At.seq fun _ s_17=>At.region (aD (aC rfl) rfl rfl (aE (aC rfl) rfl rfl (aA (aB (s_17 (At.ret ((At.perm aW (At.perm bZ (At.perm aW (At.perm aW (At.mergeN (fun Q Q1 Q2=>At.perm aX (At.perm bZ (At.perm aX (aZ (L1:= [Nl,Q]) rfl (.tmp rfl .nil) (.refl _) (.refl _) ?_))))))))))))))))))))
 exact⟨Nl,Q,a,c,xs,by rw [uF_f c61, ←hn],rfl,by rw [uF_f c61, ←hn];exact r,by rw [uF_f c61];exact fun K hJ hN=>hI K (Heaplet.le_trans Q1 hJ) hN (Heaplet.le_trans Q2 hJ)⟩
end
end Go.Proofs.Ytljacjjeinmfnaa
/- Layer 14: a transaction is written. No condition but sizes. -/
namespace Go.Proofs.Ytljacjjeinmfnaa
open Go Go.RowKit
set_option maxRecDepth 100000
/-- Bytes in memory of their own. -/
def OwnP (bs:List UInt8) (v:Value) (L:List Heaplet):Prop:= ∃M p c,v=.slice p bs.length c∧L= [M]∧Row M 5 1 p bs.length c (u8s bs)
def wIts (m:TxM):List It:=uIts m++ [numI (vM m),numI m.r,numI m.s]
/-- A transaction's bytes. -/
def txB (m:TxM):List UInt8:=kindB m.ki++(itL (wIts m)).form
theorem depthN (x:Nat):(numI x).depth=0:=depthS _
theorem dep_hashes (l:List (List UInt8)):(itL (l.map itS)).depth≤1:=by
 rw [depthL]
 have:It.depths (l.map itS)≤0:=depths_le.2 fun t ht=>by
  obtain⟨b,_,rfl⟩:=List.mem_map.1 ht
  rw [depthS];exact Nat.le_refl _
 omega
theorem dep_acc (g:AccM):(accIt g).depth≤2:=by
 rw [accIt,depthL]
 have h:=dep_hashes g.keys
 have:It.depths [itS g.addr,itL (g.keys.map itS)]≤1:=depths_le.2 fun t ht=>by
  simp only [List.mem_cons,List.not_mem_nil,or_false]at ht
  rcases ht with rfl|rfl
  ·rw [depthS];omega
  ·exact h
 omega
theorem dep_accs (l:List AccM):(itL (l.map accIt)).depth≤3:=by
 rw [depthL]
 have:It.depths (l.map accIt)≤2:=depths_le.2 fun t ht=>by
  obtain⟨b,_,rfl⟩:=List.mem_map.1 ht
  exact dep_acc b
 omega
theorem uIts_dep (m:TxM): ∀t∈uIts m,t.depth≤3:=by
 have hN: ∀x,(numI x).depth≤3:=fun x=>by rw [depthN];omega
 have hS: ∀b,(itS b).depth≤3:=fun b=>by rw [depthS];omega
 have hA: ∀t∈uA m,t.depth≤3:=fun t ht=>by
  unfold uA at ht
  split at ht
  ·rw [List.mem_singleton.1 ht];exact hN _
  ·cases ht
 have hC: ∀t∈uC m,t.depth≤3:=fun t ht=>by
  unfold uC uB at ht
  rcases List.mem_append.1 ht with ht|ht
  ·rcases List.mem_append.1 ht with ht|ht
   ·exact hA t ht
   ·rw [List.mem_singleton.1 ht];exact hN _
  ·split at ht
   ·rw [List.mem_singleton.1 ht];exact hN _
   ·cases ht
 have hE: ∀t∈uE m,t.depth≤3:=fun t ht=>by
  unfold uE uD at ht
  rcases List.mem_append.1 ht with ht|ht
  ·rcases List.mem_append.1 ht with ht|ht
   ·exact hC t ht
   ·simp only [List.mem_cons,List.not_mem_nil,or_false]at ht
    rcases ht with rfl|rfl|rfl|rfl|rfl
    ·exact hN _
    ·exact hN _
    ·exact hS _
    ·exact hN _
    ·exact hS _
  ·split at ht
   ·rw [List.mem_singleton.1 ht];exact dep_accs _
   ·cases ht
 intro t ht
 unfold uIts at ht
 rcases List.mem_append.1 ht with ht|ht
 ·exact hE t ht
 ·split at ht
  ·simp only [List.mem_cons,List.not_mem_nil,or_false]at ht
   rcases ht with rfl|rfl
   ·exact hN _
   ·have:=dep_hashes m.bb;omega
  ·cases ht
theorem wIts_dep (m:TxM):(itL (wIts m)).depth≤4:=by
 rw [depthL]
 have:It.depths (wIts m)≤3:=depths_le.2 fun t ht=>by
  rcases List.mem_append.1 ht with ht|ht
  ·exact uIts_dep m t ht
  ·simp only [List.mem_cons,List.not_mem_nil,or_false]at ht
   rcases ht with rfl|rfl|rfl<;>rw [depthN]<;>omega
 omega
theorem vM_lt {m:TxM} (h:m.Ok):vM m<WW:=by
 have h1:=h.ch
 have hW:2^70≤WW:=by decide
 have h2:oddN m.od≤1:=by unfold oddN;split<;>omega
 unfold vM
 split
 ·omega
 ·split<;>omega
section
variable {N : Heaplet} {m : TxM} {d a b : Value} {its : List It} {ao : Option Addr} {n cap : Nat}
theorem FEnveloped (h:m.Ok) (hd:d.oneCell'=true) (ha:a.oneCell'=true) (hb:b.oneCell'=true) (hk:0≤m.ki∧m.ki≤255) (hI:ItN N (itL its) (ivL ao n cap)) (hf:(itL its).form.length≤1099511627770) (hdp:(itL its).depth≤1024):Fn Try.prog 57 #[.agg (m.cells d a b).toArray,.slice ao n cap] [] [N] (OwnP (kindB m.ki++(itL its).form)):=by
 have hln:=TxM.cells_len h d a b
 refine Fn.enter (vs:= [.agg (m.cells d a b).toArray,.slice ao n cap]) Try.func57 rfl rfl rfl ?_
 intro E R hR
 have hI:=hI.le (hR N (by simp))
 change At _ _ E [R] _
 refine At.seq fun _ s_1=>At.region (op_box (aV rfl) rfl rfl rfl (fun N2 b2 B2=>aE (aC rfl) rfl rfl (aA (aB (s_1 (At.seq fun _ s_2=>At.region (aD (aC rfl) rfl rfl (aR (aV rfl) (.cons rfl .nil) (FList_b) Try.func36 rfl rfl (by simp) rfl ?_))))))))
 rintro v7 L7 ⟨rfl,rfl⟩
 change At _ _ _ [N2,R] _
 refine aR (aV rfl) (.cons rfl .nil) (FForm_b (x:=ivL ao n cap) hI (by omega) hdp) Try.func35 rfl rfl (by simp) rfl ?_
 rintro v8 L8 ⟨M8,p8,k8,rfl,rfl,r8⟩
 change At _ _ _ [M8,N2,R] _
 refine aE (aC rfl) rfl rfl (aA (aB (s_2 (At.seq fun _ s_3=>At.seq fun _ s_4=>At.region (aF (aC rfl) fl58_0 rfl rfl (aH (aC rfl) sc3 rfl B2 (gx_ki h) bC rfl (op_gtr (aC rfl) rfl rfl rfl (aA (aB (s_4 (aP rfl (fun c11=>?_) (fun c11=>?_))))))))))))
 ·refine At.region (aF (aC rfl) fl58_0 rfl rfl (aH (aC rfl) sc3 rfl B2 (gx_ki h) bC rfl (op_conv8 (aC rfl) (und_some Try.underlying3) Try.underlying5 rfl (show _=(((m.ki.toNat:Nat)):Int)from by omega) rfl ?_)))
  refine op_lit (aV rfl) Try.underlying27 ze5 sz5 (.cons rfl .nil) rfl rfl (by simp [Value.cells]) rfl rfl rfl (fun N15 a15 r15=>?_)
  simp only [flatV,List.flatMap_cons,List.flatMap_nil,Value.cells,List.append_nil,List.cons_append,List.nil_append]at r15
  have s15:=r15.rsl
  refine aD (aC rfl) rfl rfl ?_
  change Row N15 _ 1 a15 1 1 (u8s [UInt8.ofNat m.ki.toNat])at r15
  refine op_append (nxl rfl) Try.underlying27 Try.underlying27 te5 rfl rfl r15 r8.rsl (by first|exact aN|exact bC|exact bV|exact mem3|exact mem4|exact mem5|exact mem6|exact mem7|exact mem8|exact mem9) (by first|exact one_u8s _|exact one_u64s _|exact one_u32s _|(intro u hu;simp at hu;subst hu;rfl)) (by omega) (by omega) sel0 rfl (fun N17 a17 p17 r17=>?_)
  have s17:=r17.rsl
  rw [←u8s_app]at r17
  refine aE (aC rfl) rfl rfl (aA (aB (s_3 (At.seq fun _ s_5=>At.region (aD (aC rfl) rfl rfl (aE (aC rfl) rfl rfl (aA (aB (s_5 (At.ret ((At.sub (L':= [N17,R]) (.cons_cons _ (.cons _ (.cons _ (.cons_cons _ (.slnil))))) (aZ (L1:= [N17]) rfl (.tmp rfl .nil) (.refl _) (.refl _) ?_)))))))))))))
  have e:kindB m.ki++(itL its).form= [UInt8.ofNat m.ki.toNat]++(itL its).form:=by rw [kindB,if_pos (by omega)]
  rw [e]
  exact⟨N17,a17,p17,by rw [List.length_append];rfl,rfl,by rw [List.length_append];exact r17⟩
 refine At.skip (aB (s_3 (At.seq fun _ s_6=>At.region (aD (aC rfl) rfl rfl (aE (aC rfl) rfl rfl (aA (aB (s_6 (At.ret ((At.sub (L':= [M8,R]) (.cons_cons _ (.cons _ (.cons_cons _ (.slnil)))) (aZ (L1:= [M8]) rfl (.tmp rfl .nil) (.refl _) (.refl _) ?_))))))))))))
 have e:kindB m.ki++(itL its).form=(itL its).form:=by rw [kindB,if_neg (by omega),List.nil_append]
 rw [e]
 exact⟨M8,p8,k8,rfl,rfl,r8⟩
end
end Go.Proofs.Ytljacjjeinmfnaa
/- Layer 14: a transaction is written. No condition but sizes. -/
namespace Go.Proofs.Ytljacjjeinmfnaa
open Go Go.RowKit
set_option maxRecDepth 100000
section
variable {N : Heaplet} {m : TxM} {d a b : Value}
theorem FWriteTx_bad (h:m.Ok) (hT:TxR N m d a b) (hf: ¬fitsM m):Fn Try.prog 24 #[.agg (m.cells d a b).toArray] [] [N] (fun v L=>v=.tuple #[.slice none 0 0,.int .i64 1]∧L= []):=by
 have hln:=TxM.cells_len h d a b
 obtain⟨da,dc,aa,cc,ba,bc,axs,rfl,hd,rfl,ha,hacc,rfl,hb⟩:=hT
 have hfit:=Ffits (da:=da) (dc:=dc) (aa:=aa) (ac:=cc) (ba:=ba) (bc:=bc) h
 rw [decide_eq_false hf]at hfit
 refine Fn.enter (vs:= [.agg (m.cells (.slice da m.da.length dc) (.slice aa m.ac.length cc) (.slice ba m.bb.length bc)).toArray]) Try.func24 rfl rfl rfl ?_
 intro E R hR
 change At _ _ E [R] _
 refine At.seq fun _ s_1=>At.region (op_box (aV rfl) rfl rfl rfl (fun N1 b1 B1=>aE (aC rfl) rfl rfl (aE (aC rfl) rfl rfl (aA (aB (s_1 (At.seq fun _ s_2=>At.seq fun _ s_3=>At.region (aL (ds:=m.cells (.slice da m.da.length dc) (.slice aa m.ac.length cc) (.slice ba m.bb.length bc)) (aC rfl) ag58 rfl B1 (by exact tk_all hln) (by exact hln) aN rfl ?_))))))))
 refine aR (aV rfl) (.cons rfl .nil) (hfit) Try.func56 rfl rfl (by simp) rfl ?_
 rintro v5 L5 ⟨rfl,rfl⟩
 change At _ _ _ [N1,R] _
 refine op_not (aC rfl) rfl rfl (aA (aB (s_3 (At.condT rfl (At.seq fun _ s_4=>At.region (aE (aC rfl) rfl rfl (aE (aC rfl) rfl rfl (aA (aB (s_4 (At.ret (aT ((At.sub (L':= [R]) (.cons _ (.cons_cons _ (.slnil))) (bF (L1:= []) rfl (.tmp rfl (.tmp rfl .nil)) rfl (.refl _) (.refl _) ?_)))))))))))))))
 exact⟨rfl,rfl⟩
set_option maxHeartbeats 4000000 in
theorem FWriteTx_ok (h:m.Ok) (hz:m.Sz) (hT:TxR N m d a b) (hf:fitsM m) (hl:(itL (wIts m)).form.length≤1099511627770):Fn Try.prog 24 #[.agg (m.cells d a b).toArray] [] [N] (fun v L=> ∃M p c,v=.tuple #[.slice p (txB m).length c,.int .i64 0]∧L= [M]∧Row M 5 1 p (txB m).length c (u8s (txB m))):=by
 have hln:=TxM.cells_len h d a b
 have hun:=Funsigned h hz hT
 obtain⟨da,dc,aa,cc,ba,bc,axs,rfl,hd,rfl,ha,hacc,rfl,hb⟩:=hT
 have hfit:=Ffits (da:=da) (dc:=dc) (aa:=aa) (ac:=cc) (ba:=ba) (bc:=bc) h
 have hv:=FvOf (d:=.slice da m.da.length dc) (a:=.slice aa m.ac.length cc) (b:=.slice ba m.bb.length bc) h rfl rfl rfl
 have gr:=gx_r (d:=.slice da m.da.length dc) (a:=.slice aa m.ac.length cc) (b:=.slice ba m.bb.length bc) h
 have gs:=gx_s (d:=.slice da m.da.length dc) (a:=.slice aa m.ac.length cc) (b:=.slice ba m.bb.length bc) h
 have lu:=uIts_len m
 rw [decide_eq_true hf]at hfit
 have hone:(m.cells (.slice da m.da.length dc) (.slice aa m.ac.length cc) (.slice ba m.bb.length bc)).all (·.oneCell')=true:=TxM.one rfl rfl rfl
 have hE:=fun(K:Heaplet) (ao:Option Addr) (c:Nat) (hI:ItN K (itL (wIts m)) (ivL ao (wIts m).length c))=>FEnveloped (d:=.slice da m.da.length dc) (a:=.slice aa m.ac.length cc) (b:=.slice ba m.bb.length bc) h rfl rfl rfl ⟨hf.1,by have:=hf.2.1;omega⟩ hI hl (by have:=wIts_dep m;omega)
 have hwl:(wIts m).length=(uIts m).length+3:=by rw [wIts,List.length_append];rfl
 have hwe:kindB m.ki++(itL (wIts m)).form=txB m:=rfl
 obtain⟨cs,hcs⟩: ∃cs,m.cells (.slice da m.da.length dc) (.slice aa m.ac.length cc) (.slice ba m.bb.length bc)=cs:=⟨_,rfl⟩
 rw [hcs]at hln hun hfit hv gr gs hone⊢
 simp only [hcs]at hE
 refine Fn.enter (vs:= [.agg cs.toArray]) Try.func24 rfl rfl rfl ?_
 intro E R hR
 have hNR:=hR N (by simp)
 have hun:=hun.liftB hNR
 change At _ _ E [R] _
 refine At.seq fun _ s_1=>At.region (op_box (aV rfl) rfl rfl rfl (fun N1 b1 B1=>aE (aC rfl) rfl rfl (aE (aC rfl) rfl rfl (aA (aB (s_1 (At.seq fun _ s_2=>At.seq fun _ s_3=>At.region (aL (ds:=cs) (aC rfl) ag58 rfl B1 (by exact tk_all hln) (by exact hln) aN rfl ?_))))))))
 refine aR (aV rfl) (.cons rfl .nil) (hfit) Try.func56 rfl rfl (by simp) rfl ?_
 rintro v5 L5 ⟨rfl,rfl⟩
 change At _ _ _ [N1,R] _
 refine op_not (aC rfl) rfl rfl (aA (aB (s_3 (At.condF rfl (At.skip (aB (s_2 (At.seq fun _ s_4=>At.drawnS [N1,R] [14] [] [0,1,3,6,7,9,10,2,4,5,8,11,12,13,14,15,16] (by kernel_rfl) (by kernel_rfl) (.refl _) (aL (ds:=cs) (bK rfl rfl rfl) ag58 rfl B1 (by exact tk_all hln) (by exact hln) aN rfl ?_)))))))))
 refine aL (ds:=cs) (bK rfl rfl rfl) ag58 rfl B1 (by exact tk_all hln) (by exact hln) aN rfl ?_
 refine aL (ds:=cs) (bK rfl rfl rfl) ag58 rfl B1 (by exact tk_all hln) (by exact hln) aN rfl ?_
 refine aF (bK rfl rfl rfl) fl58_14 rfl rfl (aL (ds:=u64s (wl m.r)) (bK rfl rfl rfl) ag26 rfl B1 (by exact gr) (by exact len_w4 _) aN rfl ?_)
 refine aF (bK rfl rfl rfl) fl58_15 rfl rfl (aL (ds:=u64s (wl m.s)) (bK rfl rfl rfl) ag26 rfl B1 (by exact gs) (by exact len_w4 _) aN rfl ?_)
 refine aR (Nx.agree (nxsm rfl rfl rfl)) (.cons rfl .nil) (hun) Try.func58 rfl rfl (by simp) rfl ?_
 rintro v9 L9 ⟨Nl,NJ,al,cl,xs,rfl,rfl,rl,hI⟩
 change At _ _ _ [Nl,NJ,N1,R] _
 refine At.moreS (Lst:= [N1,R]) (Lst':= [N1,R]) (.refl _) (.cons _ (.cons _ (.refl _))) (aR (Nx.agree (nxsm rfl rfl rfl)) (.cons rfl .nil) (hv) Try.func60 rfl rfl (by simp) rfl ?_)
 rintro v11 L11 ⟨rfl,rfl⟩
 change At _ _ _ [Nl,NJ,N1,R] _
 refine At.moreS (Lst:= [N1,R]) (Lst':= [N1,R]) (.refl _) (.cons _ (.cons _ (.refl _))) (aR (Nx.agree (nxsm rfl rfl rfl)) (.cons rfl .nil) (FOf_b (vM_lt h)) Try.func59 rfl rfl (by simp) rfl ?_)
 rintro v12 L12 ⟨M12,p12,k12,rfl,rfl,r12⟩
 change At _ _ _ [M12,Nl,NJ,N1,R] _
 refine At.moreS (Lst:= [N1,R]) (Lst':= [N1,R]) (.refl _) (.cons _ (.cons _ (.cons _ (.refl _)))) (aR (Nx.agree (nxsm rfl rfl rfl)) (.cons rfl .nil) (FOf_b h.r) Try.func59 rfl rfl (by simp) rfl ?_)
 rintro v15 L15 ⟨M15,p15,k15,rfl,rfl,r15⟩
 change At _ _ _ [M15,M12,Nl,NJ,N1,R] _
 refine At.moreS (Lst:= [N1,R]) (Lst':= [N1,R]) (.refl _) (.cons _ (.cons _ (.cons _ (.cons _ (.refl _))))) (aR (Nx.agree (nxsm rfl rfl rfl)) (.cons rfl .nil) (FOf_b h.s) Try.func59 rfl rfl (by simp) rfl ?_)
 rintro v18 L18 ⟨M18,p18,k18,rfl,rfl,r18⟩
 change At _ _ _ [M18,M15,M12,Nl,NJ,N1,R] _
 refine At.moreS (Lst:= [N1,R]) (Lst':= [N1,R]) (.refl _) (.cons _ (.cons _ (.cons _ (.cons _ (.cons _ (.refl _)))))) (op_lit (Nx.agree (nxsm rfl rfl rfl)) Try.underlying90 ze92 sz92 (.cons rfl (.cons rfl (.cons rfl .nil))) rfl rfl (by simp [Value.cells]) rfl rfl rfl (fun N19 a19 r19=>?_))
 simp only [flatV,List.flatMap_cons,List.flatMap_nil,Value.cells,List.append_nil,List.cons_append,List.nil_append]at r19
 have s19:=r19.rsl
 refine At.moreS (Lst:= [N1,R]) (Lst':= [N1,R]) (.refl _) (.cons _ (.cons _ (.cons _ (.cons _ (.cons _ (.cons _ (.refl _))))))) ?_
 change Row N19 _ 3 a19 3 3 (cellsI [ivS p12 (bytesOf (vM m)).length k12,ivS p15 (bytesOf m.r).length k15,ivS p18 (bytesOf m.s).length k18])at r19
 have s19:=r19.rsl
 refine op_append (nxsm rfl rfl rfl) Try.underlying90 Try.underlying90 te92 rfl rfl rl s19 (by first|exact aN|exact bC|exact bV|exact mem3|exact mem4|exact mem5|exact mem6|exact mem7|exact mem8|exact mem9) (cellsI_oneB _) (by omega) (by omega) bJ rfl (fun N20 a20 p20 r20=>?_)
 have s20:=r20.rsl
 refine At.moreS (Lst:= [N1,R]) (Lst':= [N1,R]) (.refl _) (.cons _ (.cons _ (.cons _ (.cons _ (.cons _ (.cons _ (.refl _))))))) ?_
 rw [←cellsI_app]at r20
 rw [←hwl]at r20
 change At _ ((20,.slice a20 ((uIts m).length+3) p20)::_) _ _ _
 rw [←hwl]
 refine aR (Nx.agree (nxss rfl rfl rfl rfl)) (.cons rfl (.cons rfl .nil)) (Fn.overJ (Ns:= [N20,NJ,M12,M15,M18,R]) fun K hK=>hE K a20 p20 (ItN_L (r20.rsl.le (hK _ (by simp))) (ItsN.app (hI K (hK _ (by simp)) (Heaplet.le_trans hNR (hK _ (by simp)))) (ItsN_cons (ItN_S (r12.le (hK _ (by simp)))) (ItsN_cons (ItN_S (r15.le (hK _ (by simp)))) (ItsN_cons (ItN_S (r18.le (hK _ (by simp)))) ItsN_nil)))))) Try.func57 rfl rfl (by simp) rfl ?_
 rintro v21 L21 ⟨M21,p21,c21,rfl,rfl,r21⟩
 change At _ _ _ [M21,N20,N19,M18,M15,M12,NJ,N1,R] _
 refine At.anyS (.refl _) (aE (bK rfl rfl rfl) rfl rfl (aE (bK rfl rfl rfl) rfl rfl (At.sNil (aB (s_4 (At.ret ((At.sub (L':= [M21,R]) (.cons_cons _ (.cons _ (.cons _ (.cons _ (.cons _ (.cons _ (.cons _ (.cons _ (.cons_cons _ (.slnil)))))))))) (bF (L1:= [M21]) rfl (.tmp rfl (.tmp rfl .nil)) rfl (.refl _) (.refl _) ?_)))))))))
 exact⟨M21,p21,c21,rfl,rfl,r21⟩
end
end Go.Proofs.Ytljacjjeinmfnaa
/- Layer 14: the item of a transaction in a block. No condition but sizes. -/
namespace Go.Proofs.Ytljacjjeinmfnaa
open Go Go.RowKit
set_option maxRecDepth 100000
def first8 (g:List UInt8):Nat:=(g.getD 0 0).toNat
/-- The item of a transaction's bytes in a block. -/
def insE (g:List UInt8):Option It:=
 if g.length=0∨first8 g=0∨(3<first8 g∧first8 g<192)then none
 else if first8 g≤3 then some (itS g)
 else match decodeF g with
  |.ok t=>some t
  |.error _=>none
def InsP (N:Heaplet) (g:List UInt8) (v:Value) (L:List Heaplet):Prop:=
 (∃t J x,insE g=some t∧v=.tuple #[IV.val x,.bool true]∧L= [J]∧ ∀K:Heaplet,J.le K→N.le K→ItN K t x)∨
 (insE g=none∧v=.tuple #[.agg #[.bool false,.slice none 0 0,.slice none 0 0],.bool false]∧L= [])
section
variable {N : Heaplet} {g : List UInt8} {ao : Option Addr} {n cap : Nat}
end
end Go.Proofs.Ytljacjjeinmfnaa
/- Layer 14: a block is written. No condition but sizes. -/
namespace Go.Proofs.Ytljacjjeinmfnaa
open Go Go.RowKit
set_option maxRecDepth 100000
def insAll:List (List UInt8)→Option (List It)
 | []=>some []
 |g::gs=>match insE g with
  |none=>none
  |some t=>match insAll gs with
   |none=>none
   |some l=>some (t::l)
def wdI (w:WdM):It:=wdIt w.ix w.va w.ad w.am
def blkParts (m:BlkM) (its:List It):List It:= [m.hd.it,itL its,itL (m.oms.map HdM.it)]++if m.paid=true then [itL (m.wds.map wdI)]else []
/-- A block's item. -/
def blkIt (m:BlkM) (its:List It):It:=itL (blkParts m its)
/-- A block's bytes, if it is one. -/
def wBlk (m:BlkM):Option (List UInt8):=if okF m.hd.fi∧ ∀h∈m.oms,okF h.fi then match insAll m.txs with
 |none=>none
 |some its=>if (blkIt m its).depth≤1024 then some (blkIt m its).form else none
 else none
/-- A header whose Extra lies in N. -/
def HdIn (N:Heaplet) (h:HdM) (v:Value):Prop:=h.Ok∧ ∃ea ec,v=.slice ea h.ex.length ec∧RSl N 1 ea h.ex.length ec (u8s h.ex)
/-- Where a block's parts lie, to be read. -/
def BlkR (N:Heaplet) (m:BlkM) (cs:List Value):Prop:= ∃v1 ta tc vs oa oc xs wa wc,
 cs=(blkP (m.hd.cells v1) (.slice ta m.txs.length tc) (.slice oa m.oms.length oc) m.paid (.slice wa m.wds.length wc)).flatten∧
 HdIn N m.hd v1∧RSl N 1 ta m.txs.length tc vs∧Bags N vs m.txs∧
 RSl N 556 oa m.oms.length oc (omC xs)∧(∀x∈xs,HdIn N x.1 x.2)∧xs.map Prod.fst=m.oms∧
 RSl N 23 wa m.wds.length wc (wdsC m.wds)∧ ∀x∈m.wds,x.ad.length=20
structure BlkM.Sz (m:BlkM):Prop where
 tx:m.txs.length≤1048576
 tl: ∀g∈m.txs,g.length≤1099511627776
 om:m.oms.length≤1048576
 wd:m.wds.length≤1048576
def WBlkP (m:BlkM) (v:Value) (L:List Heaplet):Prop:=
 (∃bs M p c,wBlk m=some bs∧v=.tuple #[.slice p bs.length c,.int .i64 0]∧L= [M]∧Row M 5 1 p bs.length c (u8s bs))∨
 (wBlk m=none∧v=.tuple #[.slice none 0 0,.int .i64 1]∧L= [])
section
variable {N : Heaplet} {m : BlkM} {cs : List Value}
end
end Go.Proofs.Ytljacjjeinmfnaa
