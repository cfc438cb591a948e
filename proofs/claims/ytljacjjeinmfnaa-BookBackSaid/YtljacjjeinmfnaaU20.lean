/- Several texts in one: see the remarks ahead of each part. No condition but those told there. -/
import Derived.Test.YtljacjjeinmfnaaUBU2
set_option linter.unusedSimpArgs false
set_option linter.unusedVariables false
/- Layer 14: a transaction's items, its envelope. No condition but sizes. -/
namespace Go.Proofs.Ytljacjjeinmfnaa
open Go Go.RowKit
set_option maxRecDepth 100000
def numI (x:Nat):It:=itS (bytesOf x)
def toM (m:TxM):List UInt8:=if m.ma then []else m.to
def uA (m:TxM):List It:=if 0<m.ki then [numI m.ch]else []
def uB (m:TxM):List It:=uA m++ [numI m.nn]
def uC (m:TxM):List It:=uB m++if 1<m.ki then [numI m.tp]else []
def uD (m:TxM):List It:=uC m++ [numI m.pr,numI m.ga,itS (toM m),numI m.va,itS m.da]
def uE (m:TxM):List It:=uD m++if 0<m.ki then [itL (m.ac.map accIt)]else []
/-- The items of a transaction without its signature. -/
def uIts (m:TxM):List It:=uE m++if m.ki=3 then [numI m.bf,itL (m.bb.map itS)]else []
theorem uA_t {m:TxM} (h:0<m.ki):uA m= []++ [numI m.ch]:=by rw [uA,if_pos h];rfl
theorem uA_f {m:TxM} (h: ¬0<m.ki):uA m= []:=by rw [uA,if_neg h]
theorem uC_t {m:TxM} (h:1<m.ki):uC m=uB m++ [numI m.tp]:=by rw [uC,if_pos h]
theorem uC_f {m:TxM} (h: ¬1<m.ki):uC m=uB m:=by rw [uC,if_neg h,List.append_nil]
theorem uE_t {m:TxM} (h:0<m.ki):uE m=uD m++ [itL (m.ac.map accIt)]:=by rw [uE,if_pos h]
theorem uE_f {m:TxM} (h: ¬0<m.ki):uE m=uD m:=by rw [uE,if_neg h,List.append_nil]
theorem uF_t {m:TxM} (h:m.ki=3):uIts m=uE m++ [numI m.bf,itL (m.bb.map itS)]:=by rw [uIts,if_pos h]
theorem uF_f {m:TxM} (h: ¬m.ki=3):uIts m=uE m:=by rw [uIts,if_neg h,List.append_nil]
theorem uA_len (m:TxM):(uA m).length≤1:=by unfold uA;split<;>simp
theorem uC_len (m:TxM):(uC m).length≤3:=by
 have:=uA_len m
 unfold uC uB
 split<;>simp only [List.length_append,List.length_cons,List.length_nil]<;>omega
theorem uE_len (m:TxM):(uE m).length≤9:=by
 have:=uC_len m
 unfold uE uD
 split<;>simp only [List.length_append,List.length_cons,List.length_nil]<;>omega
theorem uIts_len (m:TxM):(uIts m).length≤11:=by
 have:=uE_len m
 unfold uIts
 split<;>simp only [List.length_append,List.length_cons,List.length_nil]<;>omega
/-- Where a transaction's lists lie, to be read. -/
def TxR (N:Heaplet) (m:TxM) (d a b:Value):Prop:= ∃da dc aa cc ba bc axs,
 d=.slice da m.da.length dc∧RSl N 1 da m.da.length dc (u8s m.da)∧
 a=.slice aa m.ac.length cc∧RSl N 21 aa m.ac.length cc (accC axs)∧AccsN N m.ac axs∧
 b=.slice ba m.bb.length bc∧RSl N 32 ba m.bb.length bc (hashC m.bb)
/-- Its lists are not too long. -/
structure TxM.Sz (m:TxM):Prop where
 da:m.da.length≤1073741824
 ac:m.ac.length≤1048576
 ks: ∀g∈m.ac,g.keys.length≤1048576
 bb:m.bb.length≤1048576
/-- Items in a row of their own. -/
def ItsR (NB:Heaplet→Prop) (its:List It) (v:Value) (L:List Heaplet):Prop:= ∃Nl NJ a c xs,v=.slice a its.length c∧L= [Nl,NJ]∧Row Nl 92 3 a its.length c (cellsI xs)∧ ∀K:Heaplet,NJ.le K→NB K→ItsN K its xs
theorem ItsN.app {K:Heaplet} : ∀ {ts us:List It} {xs ys:List IV},ItsN K ts xs→ItsN K us ys→ItsN K (ts++us) (xs++ys)
 | [],us,xs,ys,h,k=>by
  have h:xs= []:=h
  subst h;exact k
 |t::ts,us,xs,ys,h,k=>by
  obtain⟨x,r,rfl,h1,h2⟩:=h
  exact bV h1 (ItsN.app h2 k)
theorem ItsN.one {K:Heaplet} {its:List It} {xs:List IV} {t:It} {x:IV} (h:ItsN K its xs) (k:ItN K t x):ItsN K (its++ [t]) (xs++ [x]):=h.snoc k
section
variable {N : Heaplet} {m : TxM} {d a b : Value}
set_option maxHeartbeats 8000000 in
theorem Funsigned (h:m.Ok) (hz:m.Sz) (hT:TxR N m d a b):Fn Try.prog 58 #[.agg (m.cells d a b).toArray] [] [N] (ItsR (fun K=>N.le K) (uIts m)):=by
 have hln:=TxM.cells_len h d a b
 obtain⟨da,dc,aa,cc,ba,bc,axs,rfl,hd,rfl,ha,hacc,rfl,hb⟩:=hT
 obtain⟨uch,hch⟩: ∃u:UInt64,m.ch=u.toNat:=⟨UInt64.ofNat m.ch,by rw [UInt64.toNat_ofNat',Nat.mod_eq_of_lt h.ch]⟩
 obtain⟨unn,hnn⟩: ∃u:UInt64,m.nn=u.toNat:=⟨UInt64.ofNat m.nn,by rw [UInt64.toNat_ofNat',Nat.mod_eq_of_lt h.nn]⟩
 obtain⟨uga,hga⟩: ∃u:UInt64,m.ga=u.toNat:=⟨UInt64.ofNat m.ga,by rw [UInt64.toNat_ofNat',Nat.mod_eq_of_lt h.ga]⟩
 have gch:(m.cells (.slice da m.da.length dc) (.slice aa m.ac.length cc) (.slice ba m.bb.length bc))[0+1]? =some (.int .u64 (uch.toNat:Int)):=by rw [←hch];exact gx_ch h
 have gnn:(m.cells (.slice da m.da.length dc) (.slice aa m.ac.length cc) (.slice ba m.bb.length bc))[0+2]? =some (.int .u64 (unn.toNat:Int)):=by rw [←hnn];exact gx_nn h
 have gga:(m.cells (.slice da m.da.length dc) (.slice aa m.ac.length cc) (.slice ba m.bb.length bc))[0+11]? =some (.int .u64 (uga.toNat:Int)):=by rw [←hga];exact gx_ga h
 obtain⟨cs,hcs⟩: ∃cs,m.cells (.slice da m.da.length dc) (.slice aa m.ac.length cc) (.slice ba m.bb.length bc)=cs:=⟨_,rfl⟩
 have hone:cs.all (·.oneCell')=true:=by rw [←hcs];exact TxM.one rfl rfl rfl
 have gki:=gx_ki (d:=.slice da m.da.length dc) (a:=.slice aa m.ac.length cc) (b:=.slice ba m.bb.length bc) h
 have gma:=gx_mk (d:=.slice da m.da.length dc) (a:=.slice aa m.ac.length cc) (b:=.slice ba m.bb.length bc) h
 have gda:=gx_d (d:=.slice da m.da.length dc) (a:=.slice aa m.ac.length cc) (b:=.slice ba m.bb.length bc) h
 have gac:=gx_a (d:=.slice da m.da.length dc) (a:=.slice aa m.ac.length cc) (b:=.slice ba m.bb.length bc) h
 have gbb:=gx_b (d:=.slice da m.da.length dc) (a:=.slice aa m.ac.length cc) (b:=.slice ba m.bb.length bc) h
 have gtp:=gx_tp (d:=.slice da m.da.length dc) (a:=.slice aa m.ac.length cc) (b:=.slice ba m.bb.length bc) h
 have gpr:=gx_pr (d:=.slice da m.da.length dc) (a:=.slice aa m.ac.length cc) (b:=.slice ba m.bb.length bc) h
 have gva:=gx_va (d:=.slice da m.da.length dc) (a:=.slice aa m.ac.length cc) (b:=.slice ba m.bb.length bc) h
 have gbf:=gx_bf (d:=.slice da m.da.length dc) (a:=.slice aa m.ac.length cc) (b:=.slice ba m.bb.length bc) h
 have gto:=gx_to (d:=.slice da m.da.length dc) (a:=.slice aa m.ac.length cc) (b:=.slice ba m.bb.length bc) h
 rw [hcs]at hln gch gnn gga gki gma gda gac gbb gtp gpr gva gbf gto⊢
 refine Fn.enter (vs:= [.agg cs.toArray]) Try.func58 rfl rfl rfl ?_
 intro E R hR
 have hNR:=hR N (by simp)
 have lA:=uA_len m
 have lC:=uC_len m
 have lE:=uE_len m
 change At _ _ E [R] _
 refine At.seq fun _ s_1=>At.region (op_box (aV rfl) rfl rfl rfl (fun N1 b1 B1=>aE (aC rfl) rfl rfl (aA (aB (s_1 (At.seq fun _ s_2=>At.meet (fun fr_ hp_=> ∃(n:Nat) (a:Option Addr) (c:Nat) (xs:List IV) (Nl NJ:Heaplet),fr_= [(1,.pointer (some ⟨b1,0,none⟩)),(2,.slice none 0 0),(3,.slice a n c)]∧hp_= [Nl,NJ,N1,R]∧(n=0)∧(Row Nl 92 3 a n c (cellsI xs))∧(∀K:Heaplet,NJ.le K→N.le K→N1.le K→ItsN K [] xs)) ?_ (fun K2_ jk_2=>?_)))))))
 rotate_left
 ·skip
  refine At.region (aE (aC rfl) rfl rfl (aA (At.empty (At.empty (At.perm aY (At.perm aY (At.perm bB (At.perm aY (aB (jk_2 ?_ (.refl _) ⟨0,none,0,[],nilH,nilH,rfl,rfl,rfl,Row.nil _ _ _,fun _ _ _ _=>ItsN_nil⟩))))))))))
  exact .cons (by first|exact bI rfl (by omega)|rfl) (.cons (by first|exact bI rfl (by omega)|rfl) (.cons (by first|exact bI rfl (by omega)|rfl) .nil))
 rintro _ _ ⟨n,a,c,xs,Nl,NJ,rfl,rfl,hn,r,hI⟩
 refine s_2 (At.seq fun _ s_3=>At.meet (fun fr_ hp_=> ∃(n:Nat) (a:Option Addr) (c:Nat) (xs:List IV) (Nl NJ:Heaplet),fr_= [(1,.pointer (some ⟨b1,0,none⟩)),(2,.slice none 0 0),(3,.slice a n c)]∧hp_= [Nl,NJ,N1,R]∧(n=(uA m).length)∧(Row Nl 92 3 a n c (cellsI xs))∧(∀K:Heaplet,NJ.le K→N.le K→N1.le K→ItsN K (uA m) xs)) ?_ (fun K3_ jk_3=>?_))
 rotate_left
 ·skip
  refine At.seq fun _ s_4=>At.region (aF (aC rfl) fl58_0 rfl rfl (aH (aC rfl) sc3 rfl B1 (gki) mem2 rfl (op_gtr (aC rfl) rfl rfl rfl (aA (aB (s_4 (aN rfl (fun c7=>?_) (fun c7=>?_))))))))
  ·refine At.knowT (d:=7) rfl c7 (At.region (aD (aC rfl) rfl rfl (aF (aC rfl) fl58_1 rfl rfl (aH (aC rfl) sc24 rfl B1 (gch) mem2 rfl (aL (aV rfl) (.cons rfl .nil) (FNumber_b uch) Try.func38 rfl rfl (by simp) rfl ?_)))))
   rintro v11 L11 ⟨M11,p11,k11,rfl,rfl,r11⟩
   change At _ _ _ [M11,Nl,NJ,N1,R] _
   refine op_lit (aV rfl) Try.underlying90 ze92 sz92 (.cons rfl .nil) rfl rfl (by simp [Value.cells]) rfl rfl rfl (fun N12 a12 r12=>?_)
   simp only [flatV,List.flatMap_cons,List.flatMap_nil,Value.cells,List.append_nil,List.cons_append,List.nil_append]at r12
   have s12:=r12.rsl
   change Row N12 _ 3 a12 1 1 (cellsI [ivS p11 (bytesOf uch.toNat).length k11])at r12
   refine op_append (nxl rfl) Try.underlying90 Try.underlying90 te92 rfl rfl r r12.rsl (by first|exact aO|exact bK|exact mem2|exact mem3|exact mem4|exact mem5|exact mem6|exact mem7|exact mem8|exact mem9) (cellsI_oneB _) (by omega) (by omega) bB rfl (fun N13 a13 p13 r13=>?_)
   have s13:=r13.rsl
   rw [←cellsI_app]at r13
   refine aE (aC rfl) rfl rfl (aA (At.perm bL (At.perm bL (At.perm aY (At.perm aY (At.perm bJ (At.perm bL (a0 (fun J J1 J2=>At.sub (L':= [J,N13,N1,R]) (.cons_cons _ (.cons_cons _ (.cons _ (.cons_cons _ (.cons_cons _ (.slnil)))))) (At.perm aY (At.perm aY (At.perm bB (At.perm aY ?_)))))))))))))
   refine aB (jk_3 ?_ (.refl _) ⟨n+1,a13,p13,xs++ [ivS p11 (bytesOf uch.toNat).length k11],N13,J,rfl,rfl,by rw [uA_t c7,hn];rfl,r13,by rw [uA_t c7,numI,hch];exact fun K hJ hN h1=>(hI K (Heaplet.le_trans J1 hJ) hN h1).one (ItN_S (r11.le (Heaplet.le_trans J2 hJ)))⟩)
   exact .cons (by first|exact bI rfl (by omega)|rfl) (.cons (by first|exact bI rfl (by omega)|rfl) (.cons (by first|exact bI rfl (by omega)|rfl) .nil))
  refine bX (d:=7) rfl c7 (At.skip ?_)
  refine aB (jk_3 ?_ (.refl _) ⟨n,a,c,xs,Nl,NJ,rfl,rfl,by rw [uA_f c7,hn];rfl,r,by rw [uA_f c7];exact hI⟩)
  exact .cons (by first|exact bI rfl (by omega)|rfl) (.cons (by first|exact bI rfl (by omega)|rfl) (.cons (by first|exact bI rfl (by omega)|rfl) .nil))
 rintro _ _ ⟨n,a,c,xs,Nl,NJ,rfl,rfl,hn,r,hI⟩
 refine s_3 (At.seq fun _ s_5=>At.region (aD (aC rfl) rfl rfl (aF (aC rfl) fl58_2 rfl rfl (aH (aC rfl) sc24 rfl B1 (gnn) mem2 rfl (aL (aV rfl) (.cons rfl .nil) (FNumber_b unn) Try.func38 rfl rfl (by simp) rfl ?_)))))
 rintro v17 L17 ⟨M17,p17,k17,rfl,rfl,r17⟩
 change At _ _ _ [M17,Nl,NJ,N1,R] _
 refine op_lit (aV rfl) Try.underlying90 ze92 sz92 (.cons rfl .nil) rfl rfl (by simp [Value.cells]) rfl rfl rfl (fun N18 a18 r18=>?_)
 simp only [flatV,List.flatMap_cons,List.flatMap_nil,Value.cells,List.append_nil,List.cons_append,List.nil_append]at r18
 have s18:=r18.rsl
 change Row N18 _ 3 a18 1 1 (cellsI [ivS p17 (bytesOf unn.toNat).length k17])at r18
 refine op_append (nxl rfl) Try.underlying90 Try.underlying90 te92 rfl rfl r r18.rsl (by first|exact aO|exact bK|exact mem2|exact mem3|exact mem4|exact mem5|exact mem6|exact mem7|exact mem8|exact mem9) (cellsI_oneB _) (by omega) (by omega) bB rfl (fun N19 a19 p19 r19=>?_)
 have s19:=r19.rsl
 rw [←cellsI_app]at r19
 refine aE (aC rfl) rfl rfl (aA (aB (s_5 (At.seq fun _ s_6=>At.meet (fun fr_ hp_=> ∃(n:Nat) (a:Option Addr) (c:Nat) (xs:List IV) (Nl NJ:Heaplet),fr_= [(1,.pointer (some ⟨b1,0,none⟩)),(2,.slice none 0 0),(3,.slice a n c)]∧hp_= [Nl,NJ,N1,R]∧(n=(uC m).length)∧(Row Nl 92 3 a n c (cellsI xs))∧(∀K:Heaplet,NJ.le K→N.le K→N1.le K→ItsN K (uC m) xs)) ?_ (fun K6_ jk_6=>?_)))))
 rotate_left
 ·skip
  refine At.seq fun _ s_7=>At.region (aF (aC rfl) fl58_0 rfl rfl (aH (aC rfl) sc3 rfl B1 (gki) mem4 rfl (op_gtr (aC rfl) rfl rfl rfl (aA (aB (s_7 (aN rfl (fun c22=>?_) (fun c22=>?_))))))))
  ·refine At.knowT (d:=22) rfl c22 (At.region (aD (aC rfl) rfl rfl (aF (aC rfl) fl58_4 rfl rfl (aJ (ds:=u64s (wl m.tp)) (aC rfl) ag26 rfl B1 (by exact gtp) (by exact len_w4 _) mem4 rfl ?_))))
   refine aL (aV rfl) (.cons rfl .nil) (FOf_b h.tp) Try.func59 rfl rfl (by simp) rfl ?_
   rintro v26 L26 ⟨M26,p26,k26,rfl,rfl,r26⟩
   change At _ _ _ [M26,N19,N18,M17,NJ,N1,R] _
   refine op_lit (aV rfl) Try.underlying90 ze92 sz92 (.cons rfl .nil) rfl rfl (by simp [Value.cells]) rfl rfl rfl (fun N27 a27 r27=>?_)
   simp only [flatV,List.flatMap_cons,List.flatMap_nil,Value.cells,List.append_nil,List.cons_append,List.nil_append]at r27
   have s27:=r27.rsl
   change Row N27 _ 3 a27 1 1 (cellsI [ivS p26 (bytesOf m.tp).length k26])at r27
   refine op_append (nxl rfl) Try.underlying90 Try.underlying90 te92 rfl rfl r19 r27.rsl (by first|exact aO|exact bK|exact mem2|exact mem3|exact mem4|exact mem5|exact mem6|exact mem7|exact mem8|exact mem9) (cellsI_oneB _) (by omega) (by omega) bB rfl (fun N28 a28 p28 r28=>?_)
   have s28:=r28.rsl
   rw [←cellsI_app]at r28
   refine aE (aC rfl) rfl rfl (aA (At.perm sel7 (At.perm sel7 (At.perm bL (At.perm bL (At.perm bL (At.perm bL (At.perm bP (At.perm sel7 (a0 (fun J J1 J2=>At.perm bP (At.perm bP (At.perm bP (At.perm bL (At.perm bL (At.perm bP (At.perm bP (a0 (fun W W1 W2=>At.sub (L':= [W,N28,N1,R]) (.cons_cons _ (.cons_cons _ (.cons _ (.cons _ (.cons_cons _ (.cons_cons _ (.slnil))))))) (At.perm aY ?_))))))))))))))))))))
   refine At.perm aY (At.perm bB (At.perm aY ?_))
   refine aB (jk_6 ?_ (.refl _) ⟨n+1+1,a28,p28,xs++ [ivS p17 (bytesOf unn.toNat).length k17]++ [ivS p26 (bytesOf m.tp).length k26],N28,W,rfl,rfl,by rw [uC_t c22,uB,List.length_append,List.length_append,hn];rfl,r28,by rw [uC_t c22,uB,numI,numI,hnn];exact fun K hJ hN h1=>((hI K (Heaplet.le_trans J1 (Heaplet.le_trans W1 hJ)) hN h1).one (ItN_S (r17.le (Heaplet.le_trans J2 (Heaplet.le_trans W1 hJ))))).one (ItN_S (r26.le (Heaplet.le_trans W2 hJ)))⟩)
   exact .cons (by first|exact bI rfl (by omega)|rfl) (.cons (by first|exact bI rfl (by omega)|rfl) (.cons (by first|exact bI rfl (by omega)|rfl) .nil))
  refine bX (d:=22) rfl c22 (At.skip (At.perm bL (At.perm bL (At.perm aY (At.perm aY (At.perm bJ (At.perm bL (a0 (fun J J1 J2=>At.sub (L':= [J,N19,N1,R]) (.cons_cons _ (.cons_cons _ (.cons _ (.cons_cons _ (.cons_cons _ (.slnil)))))) (At.perm aY (At.perm aY (At.perm bB (At.perm aY ?_)))))))))))))
  refine aB (jk_6 ?_ (.refl _) ⟨n+1,a19,p19,xs++ [ivS p17 (bytesOf unn.toNat).length k17],N19,J,rfl,rfl,by rw [uC_f c22,uB,List.length_append,hn];rfl,r19,by rw [uC_f c22,uB,numI,hnn];exact fun K hJ hN h1=>(hI K (Heaplet.le_trans J1 hJ) hN h1).one (ItN_S (r17.le (Heaplet.le_trans J2 hJ)))⟩)
  exact .cons (by first|exact bI rfl (by omega)|rfl) (.cons (by first|exact bI rfl (by omega)|rfl) (.cons (by first|exact bI rfl (by omega)|rfl) .nil))
 rintro _ _ ⟨n,a,c,xs,Nl,NJ,rfl,rfl,hn,r,hI⟩
 refine s_6 (At.seq fun _ s_8=>?_)
 have s30:=sub8 B1.rng gto h.to (by decide)
 refine At.region (aF (aC rfl) fl58_7 rfl rfl (op_sliceA (aC rfl) ae23 rfl .none .none .none (by omega) (by omega) (by omega) (by simp) rfl (aE (aC rfl) rfl rfl (aA (aB (s_8 (At.seq fun _ s_9=>At.meet (fun fr_ hp_=> ∃(ta:Option Addr) (tn tc:Nat),fr_= [(1,.pointer (some ⟨b1,0,none⟩)),(2,.slice none 0 0),(3,.slice a n c),(4,.slice ta tn tc)]∧hp_= [Nl,NJ,N1,R]∧(tn=(toM m).length)∧(∀K:Heaplet,N1.le K→RSl K 1 ta tn tc (u8s (toM m)))) ?_ (fun K9_ jk_9=>?_))))))))
 rotate_left
 ·skip
  refine At.seq fun _ s_10=>At.region (aF (aC rfl) fl58_6 rfl rfl (aH (aC rfl) sc4 rfl B1 (gma) mem2 rfl (aA (aB (s_10 (At.condB rfl (fun c32=>?_) (fun c32=>?_)))))))
  ·refine At.knowBT (d:=32) rfl c32 (At.region (aE (aC rfl) rfl rfl (aA ?_)))
   refine aB (jk_9 ?_ (.refl _) ⟨none,0,0,rfl,rfl,by simp [toM,c32],fun K _=>by rw [toM,if_pos c32];exact RSl.nil _ _⟩)
   exact .cons (by first|exact bI rfl (by omega)|rfl) (.cons (by first|exact bI rfl (by omega)|rfl) (.cons (by first|exact bI rfl (by omega)|rfl) (.cons (by first|exact bI rfl (by omega)|rfl) .nil)))
  refine At.knowBF (d:=32) rfl c32 (At.skip ?_)
  refine aB (jk_9 ?_ (.refl _) ⟨_,_,_,rfl,rfl,by rw [toM,if_neg (by rw [c32];decide),h.to],fun K hK=>by rw [toM,if_neg (by rw [c32];decide)];exact s30.le hK⟩)
  exact .cons (by first|exact bI rfl (by omega)|rfl) (.cons (by first|exact bI rfl (by omega)|rfl) (.cons (by first|exact bI rfl (by omega)|rfl) (.cons (by first|exact bI rfl (by omega)|rfl) .nil)))
 rintro _ _ ⟨ta,tn,tc,rfl,rfl,htn,hto⟩
 refine s_9 (At.seq fun _ s_11=>At.drawnS [N1,R] [14,15,16] [0,7] [0,1,2,4,5,7,9,10,12,13,3,6,8,11,14,15,16,17] (by kernel_rfl) (by kernel_rfl) (.cons _ (.cons _ (.refl _))) (aD (bM rfl rfl rfl) rfl rfl (aF (bM rfl rfl rfl) fl58_3 rfl rfl (aJ (ds:=u64s (wl m.pr)) (bM rfl rfl rfl) ag26 rfl B1 (by exact gpr) (by exact len_w4 _) aO rfl ?_))))
 refine aF (bM rfl rfl rfl) fl58_5 rfl rfl (aH (bM rfl rfl rfl) sc24 rfl B1 (gga) aO rfl (aD (bM rfl rfl rfl) rfl rfl (aF (bM rfl rfl rfl) fl58_8 rfl rfl (aJ (ds:=u64s (wl m.va)) (bM rfl rfl rfl) ag26 rfl B1 (by exact gva) (by exact len_w4 _) aO rfl ?_))))
 refine aF (bM rfl rfl rfl) fl58_9 rfl rfl (aH (bM rfl rfl rfl) sc27 rfl B1 (gda) aO rfl (aL (Nx.agree (nxsm rfl rfl rfl)) (.cons rfl .nil) (FOf_b h.pr) Try.func59 rfl rfl (by simp) rfl ?_))
 rintro v36 L36 ⟨M36,p36,k36,rfl,rfl,r36⟩
 change At _ _ _ [M36,Nl,NJ,N1,R] _
 refine At.moreS (Lst:= [N1,R]) (Lst':= [N1,R]) (.refl _) (.cons _ (.cons _ (.cons _ (.refl _)))) (aL (Nx.agree (nxsm rfl rfl rfl)) (.cons rfl .nil) (FNumber_b uga) Try.func38 rfl rfl (by simp) rfl ?_)
 rintro v39 L39 ⟨M39,p39,k39,rfl,rfl,r39⟩
 change At _ _ _ [M39,M36,Nl,NJ,N1,R] _
 refine At.moreS (Lst:= [N1,R]) (Lst':= [N1,R]) (.refl _) (.cons _ (.cons _ (.cons _ (.cons _ (.refl _))))) (aL (Nx.agree (nxsm rfl rfl rfl)) (.cons rfl .nil) (FText_b) Try.func37 rfl rfl (by simp) rfl ?_)
 rintro v41 L41 ⟨rfl,rfl⟩
 change At _ _ _ [M39,M36,Nl,NJ,N1,R] _
 refine At.moreS (Lst:= [N1,R]) (Lst':= [N1,R]) (.refl _) (.cons _ (.cons _ (.cons _ (.cons _ (.refl _))))) (aL (Nx.agree (nxsm rfl rfl rfl)) (.cons rfl .nil) (FOf_b h.va) Try.func59 rfl rfl (by simp) rfl ?_)
 rintro v44 L44 ⟨M44,p44,k44,rfl,rfl,r44⟩
 change At _ _ _ [M44,M39,M36,Nl,NJ,N1,R] _
 refine At.moreS (Lst:= [N1,R]) (Lst':= [N1,R]) (.refl _) (.cons _ (.cons _ (.cons _ (.cons _ (.cons _ (.refl _)))))) (aL (Nx.agree (nxss rfl rfl rfl rfl)) (.cons rfl .nil) (FText_b) Try.func37 rfl rfl (by simp) rfl ?_)
 rintro v47 L47 ⟨rfl,rfl⟩
 change At _ _ _ [M44,M39,M36,Nl,NJ,N1,R] _
 refine At.anyS (.refl _) (op_lit (Nx.agree (nxss rfl rfl rfl rfl)) Try.underlying90 ze92 sz92 (.cons rfl (.cons rfl (.cons rfl (.cons rfl (.cons rfl .nil))))) rfl rfl (by simp [Value.cells]) rfl rfl rfl (fun N48 a48 r48=>?_))
 simp only [flatV,List.flatMap_cons,List.flatMap_nil,Value.cells,List.append_nil,List.cons_append,List.nil_append]at r48
 have s48:=r48.rsl
 refine At.anyS (.refl _) ?_
 change Row N48 _ 3 a48 5 5 (cellsI [ivS p36 (bytesOf m.pr).length k36,ivS p39 (bytesOf uga.toNat).length k39,ivS ta tn tc,ivS p44 (bytesOf m.va).length k44,ivS da m.da.length dc])at r48
 have s48:=r48.rsl
 refine op_append (nxss rfl rfl rfl rfl) Try.underlying90 Try.underlying90 te92 rfl rfl r s48 (by first|exact aO|exact bK|exact mem2|exact mem3|exact mem4|exact mem5|exact mem6|exact mem7|exact mem8|exact mem9) (cellsI_oneB _) (by omega) (by omega) bJ rfl (fun N49 a49 p49 r49=>?_)
 have s49:=r49.rsl
 refine At.anyS (.refl _) ?_
 rw [←cellsI_app]at r49
 refine aE (bM rfl rfl rfl) rfl rfl (At.sNil (aB (s_11 (At.seq fun _ s_12=>At.meet (fun fr_ hp_=> ∃(n:Nat) (a:Option Addr) (c:Nat) (xs:List IV) (Nl NJ:Heaplet),fr_= [(1,.pointer (some ⟨b1,0,none⟩)),(2,.slice none 0 0),(3,.slice a n c)]∧hp_= [Nl,NJ,N1,R]∧(n=(uE m).length)∧(Row Nl 92 3 a n c (cellsI xs))∧(∀K:Heaplet,NJ.le K→N.le K→N1.le K→ItsN K (uE m) xs)) ?_ (fun K12_ jk_12=>?_)))))
 rotate_left
 ·skip
  refine At.seq fun _ s_13=>?_
  have hD: ∀K:Heaplet,NJ.le K→M36.le K→M39.le K→M44.le K→N.le K→N1.le K→ItsN K (uD m) (xs++ [ivS p36 (bytesOf m.pr).length k36,ivS p39 (bytesOf uga.toNat).length k39,ivS ta tn tc,ivS p44 (bytesOf m.va).length k44,ivS da m.da.length dc]):=by
   rw [uD,numI,numI,numI,hga]
   intro K hJ h36 h39 h44 hN h1
   refine ItsN.app (hI K hJ hN h1) (bV (ItN_S (r36.le h36)) (bV (ItN_S (r39.le h39)) (bV (ItN_S ?_) (bV (ItN_S (r44.le h44)) (bV (ItN_S (hd.le hN)) ItsN_nil)))))
   exact hto K h1
  have hnD:n+5=(uD m).length:=by rw [uD,List.length_append,hn];rfl
  refine At.region (aF (aC rfl) fl58_0 rfl rfl (aH (aC rfl) sc3 rfl B1 (gki) mem6 rfl (op_gtr (aC rfl) rfl rfl rfl (aA (aB (s_13 (aN rfl (fun c52=>?_) (fun c52=>?_))))))))
  ·refine At.knowT (d:=52) rfl c52 (At.region (aD (aC rfl) rfl rfl (aF (aC rfl) fl58_10 rfl rfl (aH (aC rfl) sc56 rfl B1 (gac) mem6 rfl ?_))))
   refine aL (aV rfl) (.cons rfl .nil) ((FAccItems_b ha hacc (fun g hg=>Nat.le_trans (hz.ks g hg) (by decide)) (by have:=hz.ac;omega)).liftB hNR) Try.func100 rfl rfl (by simp) rfl ?_
   rintro v56 L56 ⟨J56,x56,rfl,rfl,j56⟩
   change At _ _ _ [J56,N49,N48,M44,M39,M36,NJ,N1,R] _
   change At _ ((56,.agg #[.bool x56.l,.slice x56.ab x56.nb x56.cb,.slice x56.ai x56.ni x56.ci])::_) _ _ _
   refine op_lit (aV rfl) Try.underlying90 ze92 sz92 (.cons rfl .nil) rfl rfl (by simp [Value.cells]) rfl rfl rfl (fun N57 a57 r57=>?_)
   simp only [flatV,List.flatMap_cons,List.flatMap_nil,Value.cells,List.append_nil,List.cons_append,List.nil_append]at r57
   have s57:=r57.rsl
   change Row N57 _ 3 a57 1 1 (cellsI [x56])at r57
   refine op_append (nxl rfl) Try.underlying90 Try.underlying90 te92 rfl rfl r49 r57.rsl (by first|exact aO|exact bK|exact mem2|exact mem3|exact mem4|exact mem5|exact mem6|exact mem7|exact mem8|exact mem9) (cellsI_oneB _) (by omega) (by omega) bB rfl (fun N58 a58 p58 r58=>?_)
   have s58:=r58.rsl
   rw [←cellsI_app]at r58
   refine aE (aC rfl) rfl rfl (aA (At.perm sel9 (At.perm sel9 (At.perm sel7 (At.perm sel7 (At.perm sel7 (At.perm sel7 (At.perm sel7 (At.perm sel7 (At.perm sel8 (At.perm sel9 (a0 (fun J J1 J2=>At.perm sel8 (At.perm sel8 (At.perm sel7 (At.perm sel7 (At.perm sel7 (At.perm sel7 (At.perm sel7 (At.perm sel8 ?_))))))))))))))))))))
   refine At.perm sel8 (a0 (fun W W1 W2=>At.perm sel7 (At.perm sel7 (At.perm bP (At.perm bP (At.perm bP (At.perm bP (At.perm sel7 (At.perm sel7 (a0 (fun Q Q1 Q2=>At.perm bP (At.perm bP (At.perm bP (At.perm bL (At.perm bL (At.perm bP (At.perm bP (a0 (fun P P1 P2=>At.sub (L':= [P,N58,N1,R]) (.cons_cons _ (.cons_cons _ (.cons _ (.cons _ (.cons_cons _ (.cons_cons _ (.slnil))))))) (At.perm aY ?_))))))))))))))))))))
   refine At.perm aY (At.perm bB (At.perm aY ?_))
   refine aB (jk_12 ?_ (.refl _) ⟨n+5+1,a58,p58,_,N58,P,rfl,rfl,by rw [uE_t c52,List.length_append, ←hnD];rfl,r58,by rw [uE_t c52];exact fun K hJ hN h1=>(hD K (Heaplet.le_trans J1 (Heaplet.le_trans W1 (Heaplet.le_trans Q1 (Heaplet.le_trans P1 hJ)))) (Heaplet.le_trans J2 (Heaplet.le_trans W1 (Heaplet.le_trans Q1 (Heaplet.le_trans P1 hJ)))) (Heaplet.le_trans W2 (Heaplet.le_trans Q1 (Heaplet.le_trans P1 hJ))) (Heaplet.le_trans Q2 (Heaplet.le_trans P1 hJ)) hN h1).one (j56 K (Heaplet.le_trans P2 hJ) hN)⟩)
   exact .cons (by first|exact bI rfl (by omega)|rfl) (.cons (by first|exact bI rfl (by omega)|rfl) (.cons (by first|exact bI rfl (by omega)|rfl) .nil))
  refine bX (d:=52) rfl c52 (At.skip (At.perm sel7 (At.perm sel7 (At.perm bL (At.perm bL (At.perm bL (At.perm bL (At.perm bP (At.perm sel7 (a0 (fun J J1 J2=>At.perm bP (At.perm bP (At.perm bL (At.perm bL (At.perm bL (At.perm bP (At.perm bP (a0 (fun W W1 W2=>At.perm bL (At.perm bL ?_))))))))))))))))))))
  refine At.perm bJ (At.perm bJ (At.perm bL (At.perm bL (a0 (fun Q Q1 Q2=>At.sub (L':= [Q,N49,N1,R]) (.cons_cons _ (.cons_cons _ (.cons _ (.cons_cons _ (.cons_cons _ (.slnil)))))) (At.perm aY (At.perm aY (At.perm bB (At.perm aY ?_)))))))))
  refine aB (jk_12 ?_ (.refl _) ⟨n+5,a49,p49,_,N49,Q,rfl,rfl,by rw [uE_f c52];exact hnD,r49,by rw [uE_f c52];exact fun K hJ hN h1=>hD K (Heaplet.le_trans J1 (Heaplet.le_trans W1 (Heaplet.le_trans Q1 hJ))) (Heaplet.le_trans J2 (Heaplet.le_trans W1 (Heaplet.le_trans Q1 hJ))) (Heaplet.le_trans W2 (Heaplet.le_trans Q1 hJ)) (Heaplet.le_trans Q2 hJ) hN h1⟩)
  exact .cons (by first|exact bI rfl (by omega)|rfl) (.cons (by first|exact bI rfl (by omega)|rfl) (.cons (by first|exact bI rfl (by omega)|rfl) .nil))
 rintro _ _ ⟨n,a,c,xs,Nl,NJ,rfl,rfl,hn,r,hI⟩
 refine s_12 (At.seq fun _ s_14=>At.seq fun _ s_15=>At.region (aF (aC rfl) fl58_0 rfl rfl (aH (aC rfl) sc3 rfl B1 (gki) mem2 rfl (op_eql (aC rfl) rfl rfl rfl (aA (aB (s_15 (aN rfl (fun c61=>?_) (fun c61=>?_)))))))))
 ·refine At.knowT (d:=61) rfl c61 (At.drawnS [N1,R] [6,7,8] [0] [0,1,2,4,5,3,6,7,8,9] (by kernel_rfl) (by kernel_rfl) (.cons _ (.cons _ (.refl _))) (aD (bM rfl rfl rfl) rfl rfl (aF (bM rfl rfl rfl) fl58_11 rfl rfl (aJ (ds:=u64s (wl m.bf)) (bM rfl rfl rfl) ag26 rfl B1 (by exact gbf) (by exact len_w4 _) aO rfl ?_))))
  refine aF (bM rfl rfl rfl) fl58_12 rfl rfl (aH (bM rfl rfl rfl) sc41 rfl B1 (gbb) aO rfl (aL (Nx.agree (nxsm rfl rfl rfl)) (.cons rfl .nil) (FOf_b h.bf) Try.func59 rfl rfl (by simp) rfl ?_))
  rintro v65 L65 ⟨M65,p65,k65,rfl,rfl,r65⟩
  change At _ _ _ [M65,Nl,NJ,N1,R] _
  refine At.moreS (Lst:= [N1,R]) (Lst':= [N1,R]) (.refl _) (.cons _ (.cons _ (.cons _ (.refl _)))) ?_
  refine aL (Nx.agree (nxss rfl rfl rfl rfl)) (.cons rfl .nil) ((FHashes_b hb h.bb (by have:=hz.bb;omega)).liftB hNR) Try.func99 rfl rfl (by simp) rfl ?_
  rintro v68 L68 ⟨J68,x68,rfl,rfl,j68⟩
  change At _ _ _ [J68,M65,Nl,NJ,N1,R] _
  change At _ ((68,.agg #[.bool x68.l,.slice x68.ab x68.nb x68.cb,.slice x68.ai x68.ni x68.ci])::_) _ _ _
  refine At.anyS (.refl _) (op_lit (Nx.agree (nxss rfl rfl rfl rfl)) Try.underlying90 ze92 sz92 (.cons rfl (.cons rfl .nil)) rfl rfl (by simp [Value.cells]) rfl rfl rfl (fun N69 a69 r69=>?_))
  simp only [flatV,List.flatMap_cons,List.flatMap_nil,Value.cells,List.append_nil,List.cons_append,List.nil_append]at r69
  have s69:=r69.rsl
  refine At.anyS (.refl _) ?_
  change Row N69 _ 3 a69 2 2 (cellsI [ivS p65 (bytesOf m.bf).length k65,x68])at r69
  have s69:=r69.rsl
  refine op_append (nxss rfl rfl rfl rfl) Try.underlying90 Try.underlying90 te92 rfl rfl r s69 (by first|exact aO|exact bK|exact mem2|exact mem3|exact mem4|exact mem5|exact mem6|exact mem7|exact mem8|exact mem9) (cellsI_oneB _) (by omega) (by omega) aY rfl (fun N70 a70 p70 r70=>?_)
  have s70:=r70.rsl
  refine At.anyS (.refl _) ?_
  rw [←cellsI_app]at r70
  refine aE (bM rfl rfl rfl) rfl rfl (At.sNil (aB (s_14 (At.seq fun _ s_16=>At.region (aD (aC rfl) rfl rfl (aE (aC rfl) rfl rfl (aA (aB (s_16 (At.ret ((At.perm bP (At.perm bP (At.perm bJ (At.perm bJ (At.perm bJ (At.perm bL (At.perm bP (a0 (fun J J1 J2=>At.perm bL (At.perm bL (At.perm bJ ?_))))))))))))))))))))))
  refine At.perm bJ (At.perm bL (At.perm bL (a0 (fun W W1 W2=>At.perm bJ (At.perm aY (At.perm aY (At.perm bJ (At.perm bJ (a0 (fun Q Q1 Q2=>At.sub (L':= [Q,N70,R]) (.cons_cons _ (.cons_cons _ (.cons _ (.cons_cons _ (.slnil))))) (At.perm bB (At.perm bY (At.perm bB (bF (L1:= [N70,Q]) rfl (.tmp rfl .nil) (.refl _) (.refl _) ?_))))))))))))))
  exact⟨N70,Q,a70,p70,_,by rw [uF_t c61,List.length_append, ←hn];rfl,rfl,by rw [uF_t c61,List.length_append, ←hn];exact r70,by rw [uF_t c61];exact fun K hJ hN=>ItsN.app (hI K (Heaplet.le_trans J1 (Heaplet.le_trans W1 (Heaplet.le_trans Q1 hJ))) hN (Heaplet.le_trans Q2 hJ)) (bV (ItN_S (r65.le (Heaplet.le_trans J2 (Heaplet.le_trans W1 (Heaplet.le_trans Q1 hJ))))) (bV (j68.le (Heaplet.le_trans W2 (Heaplet.le_trans Q1 hJ))) ItsN_nil))⟩
 refine bX (d:=61) rfl c61 (At.skip (aB (s_14 (At.seq fun _ s_17=>At.region (aD (aC rfl) rfl rfl (aE (aC rfl) rfl rfl (aA (aB (s_17 (At.ret ((At.perm aY (At.perm bY (At.perm aY (At.perm aY (a0 (fun Q Q1 Q2=>At.perm bB (At.perm bY (At.perm bB (bF (L1:= [Nl,Q]) rfl (.tmp rfl .nil) (.refl _) (.refl _) ?_))))))))))))))))))))
 exact⟨Nl,Q,a,c,xs,by rw [uF_f c61, ←hn],rfl,by rw [uF_f c61, ←hn];exact r,by rw [uF_f c61];exact fun K hJ hN=>hI K (Heaplet.le_trans Q1 hJ) hN (Heaplet.le_trans Q2 hJ)⟩
end
end Go.Proofs.Ytljacjjeinmfnaa
/- Layer 14: a transaction is written. No condition but sizes. -/
namespace Go.Proofs.Ytljacjjeinmfnaa
open Go Go.RowKit
set_option maxRecDepth 100000
/-- Bytes in memory of their own. -/
def OwnP (bs:List UInt8) (v:Value) (L:List Heaplet):Prop:= ∃M p c,v=.slice p bs.length c∧L= [M]∧Row M 5 1 p bs.length c (u8s bs)
def wIts (m:TxM):List It:=uIts m++ [numI (vM m),numI m.r,numI m.s]
/-- A transaction's bytes. -/
def txB (m:TxM):List UInt8:=kindB m.ki++(itL (wIts m)).form
theorem depthN (x:Nat):(numI x).depth=0:=depthS _
theorem dep_hashes (l:List (List UInt8)):(itL (l.map itS)).depth≤1:=by
 rw [depthL]
 have:It.depths (l.map itS)≤0:=depths_le.2 fun t ht=>by
  obtain⟨b,_,rfl⟩:=List.mem_map.1 ht
  rw [depthS];exact Nat.le_refl _
 omega
theorem dep_acc (g:AccM):(accIt g).depth≤2:=by
 rw [accIt,depthL]
 have h:=dep_hashes g.keys
 have:It.depths [itS g.addr,itL (g.keys.map itS)]≤1:=depths_le.2 fun t ht=>by
  simp only [List.mem_cons,List.not_mem_nil,or_false]at ht
  rcases ht with rfl|rfl
  ·rw [depthS];omega
  ·exact h
 omega
theorem dep_accs (l:List AccM):(itL (l.map accIt)).depth≤3:=by
 rw [depthL]
 have:It.depths (l.map accIt)≤2:=depths_le.2 fun t ht=>by
  obtain⟨b,_,rfl⟩:=List.mem_map.1 ht
  exact dep_acc b
 omega
theorem uIts_dep (m:TxM): ∀t∈uIts m,t.depth≤3:=by
 have hN: ∀x,(numI x).depth≤3:=fun x=>by rw [depthN];omega
 have hS: ∀b,(itS b).depth≤3:=fun b=>by rw [depthS];omega
 have hA: ∀t∈uA m,t.depth≤3:=fun t ht=>by
  unfold uA at ht
  split at ht
  ·rw [List.mem_singleton.1 ht];exact hN _
  ·cases ht
 have hC: ∀t∈uC m,t.depth≤3:=fun t ht=>by
  unfold uC uB at ht
  rcases List.mem_append.1 ht with ht|ht
  ·rcases List.mem_append.1 ht with ht|ht
   ·exact hA t ht
   ·rw [List.mem_singleton.1 ht];exact hN _
  ·split at ht
   ·rw [List.mem_singleton.1 ht];exact hN _
   ·cases ht
 have hE: ∀t∈uE m,t.depth≤3:=fun t ht=>by
  unfold uE uD at ht
  rcases List.mem_append.1 ht with ht|ht
  ·rcases List.mem_append.1 ht with ht|ht
   ·exact hC t ht
   ·simp only [List.mem_cons,List.not_mem_nil,or_false]at ht
    rcases ht with rfl|rfl|rfl|rfl|rfl
    ·exact hN _
    ·exact hN _
    ·exact hS _
    ·exact hN _
    ·exact hS _
  ·split at ht
   ·rw [List.mem_singleton.1 ht];exact dep_accs _
   ·cases ht
 intro t ht
 unfold uIts at ht
 rcases List.mem_append.1 ht with ht|ht
 ·exact hE t ht
 ·split at ht
  ·simp only [List.mem_cons,List.not_mem_nil,or_false]at ht
   rcases ht with rfl|rfl
   ·exact hN _
   ·have:=dep_hashes m.bb;omega
  ·cases ht
theorem wIts_dep (m:TxM):(itL (wIts m)).depth≤4:=by
 rw [depthL]
 have:It.depths (wIts m)≤3:=depths_le.2 fun t ht=>by
  rcases List.mem_append.1 ht with ht|ht
  ·exact uIts_dep m t ht
  ·simp only [List.mem_cons,List.not_mem_nil,or_false]at ht
   rcases ht with rfl|rfl|rfl<;>rw [depthN]<;>omega
 omega
theorem vM_lt {m:TxM} (h:m.Ok):vM m<WW:=by
 have h1:=h.ch
 have hW:2^70≤WW:=by decide
 have h2:oddN m.od≤1:=by unfold oddN;split<;>omega
 unfold vM
 split
 ·omega
 ·split<;>omega
section
variable {N : Heaplet} {m : TxM} {d a b : Value} {its : List It} {ao : Option Addr} {n cap : Nat}
theorem FEnveloped (h:m.Ok) (hd:d.oneCell'=true) (ha:a.oneCell'=true) (hb:b.oneCell'=true) (hk:0≤m.ki∧m.ki≤255) (hI:ItN N (itL its) (ivL ao n cap)) (hf:(itL its).form.length≤1099511627770) (hdp:(itL its).depth≤1024):Fn Try.prog 57 #[.agg (m.cells d a b).toArray,.slice ao n cap] [] [N] (OwnP (kindB m.ki++(itL its).form)):=by
 have hln:=TxM.cells_len h d a b
 refine Fn.enter (vs:= [.agg (m.cells d a b).toArray,.slice ao n cap]) Try.func57 rfl rfl rfl ?_
 intro E R hR
 have hI:=hI.le (hR N (by simp))
 change At _ _ E [R] _
 refine At.seq fun _ s_1=>At.region (op_box (aV rfl) rfl rfl rfl (fun N2 b2 B2=>aE (aC rfl) rfl rfl (aA (aB (s_1 (At.seq fun _ s_2=>At.region (aD (aC rfl) rfl rfl (aL (aV rfl) (.cons rfl .nil) (FList_b) Try.func36 rfl rfl (by simp) rfl ?_))))))))
 rintro v7 L7 ⟨rfl,rfl⟩
 change At _ _ _ [N2,R] _
 refine aL (aV rfl) (.cons rfl .nil) (FForm_b (x:=ivL ao n cap) hI (by omega) hdp) Try.func35 rfl rfl (by simp) rfl ?_
 rintro v8 L8 ⟨M8,p8,k8,rfl,rfl,r8⟩
 change At _ _ _ [M8,N2,R] _
 refine aE (aC rfl) rfl rfl (aA (aB (s_2 (At.seq fun _ s_3=>At.seq fun _ s_4=>At.region (aF (aC rfl) fl58_0 rfl rfl (aH (aC rfl) sc3 rfl B2 (gx_ki h) bK rfl (op_gtr (aC rfl) rfl rfl rfl (aA (aB (s_4 (aN rfl (fun c11=>?_) (fun c11=>?_))))))))))))
 ·refine At.region (aF (aC rfl) fl58_0 rfl rfl (aH (aC rfl) sc3 rfl B2 (gx_ki h) bK rfl (op_conv8 (aC rfl) (und_some Try.underlying3) Try.underlying5 rfl (show _=(((m.ki.toNat:Nat)):Int)from by omega) rfl ?_)))
  refine op_lit (aV rfl) Try.underlying27 ze5 sz5 (.cons rfl .nil) rfl rfl (by simp [Value.cells]) rfl rfl rfl (fun N15 a15 r15=>?_)
  simp only [flatV,List.flatMap_cons,List.flatMap_nil,Value.cells,List.append_nil,List.cons_append,List.nil_append]at r15
  have s15:=r15.rsl
  refine aD (aC rfl) rfl rfl ?_
  change Row N15 _ 1 a15 1 1 (u8s [UInt8.ofNat m.ki.toNat])at r15
  refine op_append (nxl rfl) Try.underlying27 Try.underlying27 te5 rfl rfl r15 r8.rsl (by first|exact aO|exact bK|exact mem2|exact mem3|exact mem4|exact mem5|exact mem6|exact mem7|exact mem8|exact mem9) (by first|exact one_u8s _|exact one_u64s _|exact one_u32s _|(intro u hu;simp at hu;subst hu;rfl)) (by omega) (by omega) sel0 rfl (fun N17 a17 p17 r17=>?_)
  have s17:=r17.rsl
  rw [←u8s_app]at r17
  refine aE (aC rfl) rfl rfl (aA (aB (s_3 (At.seq fun _ s_5=>At.region (aD (aC rfl) rfl rfl (aE (aC rfl) rfl rfl (aA (aB (s_5 (At.ret ((At.sub (L':= [N17,R]) (.cons_cons _ (.cons _ (.cons _ (.cons_cons _ (.slnil))))) (bF (L1:= [N17]) rfl (.tmp rfl .nil) (.refl _) (.refl _) ?_)))))))))))))
  have e:kindB m.ki++(itL its).form= [UInt8.ofNat m.ki.toNat]++(itL its).form:=by rw [kindB,if_pos (by omega)]
  rw [e]
  exact⟨N17,a17,p17,by rw [List.length_append];rfl,rfl,by rw [List.length_append];exact r17⟩
 refine At.skip (aB (s_3 (At.seq fun _ s_6=>At.region (aD (aC rfl) rfl rfl (aE (aC rfl) rfl rfl (aA (aB (s_6 (At.ret ((At.sub (L':= [M8,R]) (.cons_cons _ (.cons _ (.cons_cons _ (.slnil)))) (bF (L1:= [M8]) rfl (.tmp rfl .nil) (.refl _) (.refl _) ?_))))))))))))
 have e:kindB m.ki++(itL its).form=(itL its).form:=by rw [kindB,if_neg (by omega),List.nil_append]
 rw [e]
 exact⟨M8,p8,k8,rfl,rfl,r8⟩
end
end Go.Proofs.Ytljacjjeinmfnaa
/- Layer 14: a transaction is written. No condition but sizes. -/
namespace Go.Proofs.Ytljacjjeinmfnaa
open Go Go.RowKit
set_option maxRecDepth 100000
section
variable {N : Heaplet} {m : TxM} {d a b : Value}
theorem FWriteTx_bad (h:m.Ok) (hT:TxR N m d a b) (hf: ¬fitsM m):Fn Try.prog 24 #[.agg (m.cells d a b).toArray] [] [N] (fun v L=>v=.tuple #[.slice none 0 0,.int .i64 1]∧L= []):=by
 have hln:=TxM.cells_len h d a b
 obtain⟨da,dc,aa,cc,ba,bc,axs,rfl,hd,rfl,ha,hacc,rfl,hb⟩:=hT
 have hfit:=Ffits (da:=da) (dc:=dc) (aa:=aa) (ac:=cc) (ba:=ba) (bc:=bc) h
 rw [decide_eq_false hf]at hfit
 refine Fn.enter (vs:= [.agg (m.cells (.slice da m.da.length dc) (.slice aa m.ac.length cc) (.slice ba m.bb.length bc)).toArray]) Try.func24 rfl rfl rfl ?_
 intro E R hR
 change At _ _ E [R] _
 refine At.seq fun _ s_1=>At.region (op_box (aV rfl) rfl rfl rfl (fun N1 b1 B1=>aE (aC rfl) rfl rfl (aE (aC rfl) rfl rfl (aA (aB (s_1 (At.seq fun _ s_2=>At.seq fun _ s_3=>At.region (aJ (ds:=m.cells (.slice da m.da.length dc) (.slice aa m.ac.length cc) (.slice ba m.bb.length bc)) (aC rfl) ag58 rfl B1 (by exact tk_all hln) (by exact hln) aO rfl ?_))))))))
 refine aL (aV rfl) (.cons rfl .nil) (hfit) Try.func56 rfl rfl (by simp) rfl ?_
 rintro v5 L5 ⟨rfl,rfl⟩
 change At _ _ _ [N1,R] _
 refine op_not (aC rfl) rfl rfl (aA (aB (s_3 (At.condT rfl (At.seq fun _ s_4=>At.region (aE (aC rfl) rfl rfl (aE (aC rfl) rfl rfl (aA (aB (s_4 (At.ret (aQ ((At.sub (L':= [R]) (.cons _ (.cons_cons _ (.slnil))) (aX (L1:= []) rfl (.tmp rfl (.tmp rfl .nil)) rfl (.refl _) (.refl _) ?_)))))))))))))))
 exact⟨rfl,rfl⟩
set_option maxHeartbeats 4000000 in
theorem FWriteTx_ok (h:m.Ok) (hz:m.Sz) (hT:TxR N m d a b) (hf:fitsM m) (hl:(itL (wIts m)).form.length≤1099511627770):Fn Try.prog 24 #[.agg (m.cells d a b).toArray] [] [N] (fun v L=> ∃M p c,v=.tuple #[.slice p (txB m).length c,.int .i64 0]∧L= [M]∧Row M 5 1 p (txB m).length c (u8s (txB m))):=by
 have hln:=TxM.cells_len h d a b
 have hun:=Funsigned h hz hT
 obtain⟨da,dc,aa,cc,ba,bc,axs,rfl,hd,rfl,ha,hacc,rfl,hb⟩:=hT
 have hfit:=Ffits (da:=da) (dc:=dc) (aa:=aa) (ac:=cc) (ba:=ba) (bc:=bc) h
 have hv:=FvOf (d:=.slice da m.da.length dc) (a:=.slice aa m.ac.length cc) (b:=.slice ba m.bb.length bc) h rfl rfl rfl
 have gr:=gx_r (d:=.slice da m.da.length dc) (a:=.slice aa m.ac.length cc) (b:=.slice ba m.bb.length bc) h
 have gs:=gx_s (d:=.slice da m.da.length dc) (a:=.slice aa m.ac.length cc) (b:=.slice ba m.bb.length bc) h
 have lu:=uIts_len m
 rw [decide_eq_true hf]at hfit
 have hone:(m.cells (.slice da m.da.length dc) (.slice aa m.ac.length cc) (.slice ba m.bb.length bc)).all (·.oneCell')=true:=TxM.one rfl rfl rfl
 have hE:=fun(K:Heaplet) (ao:Option Addr) (c:Nat) (hI:ItN K (itL (wIts m)) (ivL ao (wIts m).length c))=>FEnveloped (d:=.slice da m.da.length dc) (a:=.slice aa m.ac.length cc) (b:=.slice ba m.bb.length bc) h rfl rfl rfl ⟨hf.1,by have:=hf.2.1;omega⟩ hI hl (by have:=wIts_dep m;omega)
 have hwl:(wIts m).length=(uIts m).length+3:=by rw [wIts,List.length_append];rfl
 have hwe:kindB m.ki++(itL (wIts m)).form=txB m:=rfl
 obtain⟨cs,hcs⟩: ∃cs,m.cells (.slice da m.da.length dc) (.slice aa m.ac.length cc) (.slice ba m.bb.length bc)=cs:=⟨_,rfl⟩
 rw [hcs]at hln hun hfit hv gr gs hone⊢
 simp only [hcs]at hE
 refine Fn.enter (vs:= [.agg cs.toArray]) Try.func24 rfl rfl rfl ?_
 intro E R hR
 have hNR:=hR N (by simp)
 have hun:=hun.liftB hNR
 change At _ _ E [R] _
 refine At.seq fun _ s_1=>At.region (op_box (aV rfl) rfl rfl rfl (fun N1 b1 B1=>aE (aC rfl) rfl rfl (aE (aC rfl) rfl rfl (aA (aB (s_1 (At.seq fun _ s_2=>At.seq fun _ s_3=>At.region (aJ (ds:=cs) (aC rfl) ag58 rfl B1 (by exact tk_all hln) (by exact hln) aO rfl ?_))))))))
 refine aL (aV rfl) (.cons rfl .nil) (hfit) Try.func56 rfl rfl (by simp) rfl ?_
 rintro v5 L5 ⟨rfl,rfl⟩
 change At _ _ _ [N1,R] _
 refine op_not (aC rfl) rfl rfl (aA (aB (s_3 (At.condF rfl (At.skip (aB (s_2 (At.seq fun _ s_4=>At.drawnS [N1,R] [14] [] [0,1,3,6,7,9,10,2,4,5,8,11,12,13,14,15,16] (by kernel_rfl) (by kernel_rfl) (.refl _) (aJ (ds:=cs) (bM rfl rfl rfl) ag58 rfl B1 (by exact tk_all hln) (by exact hln) aO rfl ?_)))))))))
 refine aJ (ds:=cs) (bM rfl rfl rfl) ag58 rfl B1 (by exact tk_all hln) (by exact hln) aO rfl ?_
 refine aJ (ds:=cs) (bM rfl rfl rfl) ag58 rfl B1 (by exact tk_all hln) (by exact hln) aO rfl ?_
 refine aF (bM rfl rfl rfl) fl58_14 rfl rfl (aJ (ds:=u64s (wl m.r)) (bM rfl rfl rfl) ag26 rfl B1 (by exact gr) (by exact len_w4 _) aO rfl ?_)
 refine aF (bM rfl rfl rfl) fl58_15 rfl rfl (aJ (ds:=u64s (wl m.s)) (bM rfl rfl rfl) ag26 rfl B1 (by exact gs) (by exact len_w4 _) aO rfl ?_)
 refine aL (Nx.agree (nxsm rfl rfl rfl)) (.cons rfl .nil) (hun) Try.func58 rfl rfl (by simp) rfl ?_
 rintro v9 L9 ⟨Nl,NJ,al,cl,xs,rfl,rfl,rl,hI⟩
 change At _ _ _ [Nl,NJ,N1,R] _
 refine At.moreS (Lst:= [N1,R]) (Lst':= [N1,R]) (.refl _) (.cons _ (.cons _ (.refl _))) (aL (Nx.agree (nxsm rfl rfl rfl)) (.cons rfl .nil) (hv) Try.func60 rfl rfl (by simp) rfl ?_)
 rintro v11 L11 ⟨rfl,rfl⟩
 change At _ _ _ [Nl,NJ,N1,R] _
 refine At.moreS (Lst:= [N1,R]) (Lst':= [N1,R]) (.refl _) (.cons _ (.cons _ (.refl _))) (aL (Nx.agree (nxsm rfl rfl rfl)) (.cons rfl .nil) (FOf_b (vM_lt h)) Try.func59 rfl rfl (by simp) rfl ?_)
 rintro v12 L12 ⟨M12,p12,k12,rfl,rfl,r12⟩
 change At _ _ _ [M12,Nl,NJ,N1,R] _
 refine At.moreS (Lst:= [N1,R]) (Lst':= [N1,R]) (.refl _) (.cons _ (.cons _ (.cons _ (.refl _)))) (aL (Nx.agree (nxsm rfl rfl rfl)) (.cons rfl .nil) (FOf_b h.r) Try.func59 rfl rfl (by simp) rfl ?_)
 rintro v15 L15 ⟨M15,p15,k15,rfl,rfl,r15⟩
 change At _ _ _ [M15,M12,Nl,NJ,N1,R] _
 refine At.moreS (Lst:= [N1,R]) (Lst':= [N1,R]) (.refl _) (.cons _ (.cons _ (.cons _ (.cons _ (.refl _))))) (aL (Nx.agree (nxsm rfl rfl rfl)) (.cons rfl .nil) (FOf_b h.s) Try.func59 rfl rfl (by simp) rfl ?_)
 rintro v18 L18 ⟨M18,p18,k18,rfl,rfl,r18⟩
 change At _ _ _ [M18,M15,M12,Nl,NJ,N1,R] _
 refine At.moreS (Lst:= [N1,R]) (Lst':= [N1,R]) (.refl _) (.cons _ (.cons _ (.cons _ (.cons _ (.cons _ (.refl _)))))) (op_lit (Nx.agree (nxsm rfl rfl rfl)) Try.underlying90 ze92 sz92 (.cons rfl (.cons rfl (.cons rfl .nil))) rfl rfl (by simp [Value.cells]) rfl rfl rfl (fun N19 a19 r19=>?_))
 simp only [flatV,List.flatMap_cons,List.flatMap_nil,Value.cells,List.append_nil,List.cons_append,List.nil_append]at r19
 have s19:=r19.rsl
 refine At.moreS (Lst:= [N1,R]) (Lst':= [N1,R]) (.refl _) (.cons _ (.cons _ (.cons _ (.cons _ (.cons _ (.cons _ (.refl _))))))) ?_
 change Row N19 _ 3 a19 3 3 (cellsI [ivS p12 (bytesOf (vM m)).length k12,ivS p15 (bytesOf m.r).length k15,ivS p18 (bytesOf m.s).length k18])at r19
 have s19:=r19.rsl
 refine op_append (nxsm rfl rfl rfl) Try.underlying90 Try.underlying90 te92 rfl rfl rl s19 (by first|exact aO|exact bK|exact mem2|exact mem3|exact mem4|exact mem5|exact mem6|exact mem7|exact mem8|exact mem9) (cellsI_oneB _) (by omega) (by omega) bJ rfl (fun N20 a20 p20 r20=>?_)
 have s20:=r20.rsl
 refine At.moreS (Lst:= [N1,R]) (Lst':= [N1,R]) (.refl _) (.cons _ (.cons _ (.cons _ (.cons _ (.cons _ (.cons _ (.refl _))))))) ?_
 rw [←cellsI_app]at r20
 rw [←hwl]at r20
 change At _ ((20,.slice a20 ((uIts m).length+3) p20)::_) _ _ _
 rw [←hwl]
 refine aL (Nx.agree (nxss rfl rfl rfl rfl)) (.cons rfl (.cons rfl .nil)) (Fn.overJ (Ns:= [N20,NJ,M12,M15,M18,R]) fun K hK=>hE K a20 p20 (ItN_L (r20.rsl.le (hK _ (by simp))) (ItsN.app (hI K (hK _ (by simp)) (Heaplet.le_trans hNR (hK _ (by simp)))) (bV (ItN_S (r12.le (hK _ (by simp)))) (bV (ItN_S (r15.le (hK _ (by simp)))) (bV (ItN_S (r18.le (hK _ (by simp)))) ItsN_nil)))))) Try.func57 rfl rfl (by simp) rfl ?_
 rintro v21 L21 ⟨M21,p21,c21,rfl,rfl,r21⟩
 change At _ _ _ [M21,N20,N19,M18,M15,M12,NJ,N1,R] _
 refine At.anyS (.refl _) (aE (bM rfl rfl rfl) rfl rfl (aE (bM rfl rfl rfl) rfl rfl (At.sNil (aB (s_4 (At.ret ((At.sub (L':= [M21,R]) (.cons_cons _ (.cons _ (.cons _ (.cons _ (.cons _ (.cons _ (.cons _ (.cons _ (.cons_cons _ (.slnil)))))))))) (aX (L1:= [M21]) rfl (.tmp rfl (.tmp rfl .nil)) rfl (.refl _) (.refl _) ?_)))))))))
 exact⟨M21,p21,c21,rfl,rfl,r21⟩
end
end Go.Proofs.Ytljacjjeinmfnaa
/- Layer 14: the item of a transaction in a block. No condition but sizes. -/
namespace Go.Proofs.Ytljacjjeinmfnaa
open Go Go.RowKit
set_option maxRecDepth 100000
def first8 (g:List UInt8):Nat:=(g.getD 0 0).toNat
/-- The item of a transaction's bytes in a block. -/
def insE (g:List UInt8):Option It:=
 if g.length=0∨first8 g=0∨(3<first8 g∧first8 g<192)then none
 else if first8 g≤3 then some (itS g)
 else match decodeF g with
  |.ok t=>some t
  |.error _=>none
theorem ins_0 {g:List UInt8} (h:g.length=0∨first8 g=0∨(3<first8 g∧first8 g<192)):insE g=none:=by rw [insE,if_pos h]
theorem ins_1 {g:List UInt8} (h: ¬(g.length=0∨first8 g=0∨(3<first8 g∧first8 g<192))) (k:first8 g≤3):insE g=some (itS g):=by rw [insE,if_neg h,if_pos k]
theorem ins_2 {g:List UInt8} {t:It} (h: ¬(g.length=0∨first8 g=0∨(3<first8 g∧first8 g<192))) (k: ¬first8 g≤3) (hd:decodeF g=.ok t):insE g=some t:=by rw [insE,if_neg h,if_neg k,hd]
theorem ins_3 {g:List UInt8} {e:Nat} (h: ¬(g.length=0∨first8 g=0∨(3<first8 g∧first8 g<192))) (k: ¬first8 g≤3) (hd:decodeF g=.error e):insE g=none:=by rw [insE,if_neg h,if_neg k,hd]
def InsP (N:Heaplet) (g:List UInt8) (v:Value) (L:List Heaplet):Prop:=
 (∃t J x,insE g=some t∧v=.tuple #[IV.val x,.bool true]∧L= [J]∧ ∀K:Heaplet,J.le K→N.le K→ItN K t x)∨
 (insE g=none∧v=.tuple #[.agg #[.bool false,.slice none 0 0,.slice none 0 0],.bool false]∧L= [])
section
variable {N : Heaplet} {g : List UInt8} {ao : Option Addr} {n cap : Nat}
set_option maxHeartbeats 4000000 in
theorem FInside (h:RSl N 1 ao n cap (u8s g)) (hn:n≤1099511627776):Fn Try.prog 85 #[.slice ao n cap] [] [N] (InsP N g):=by
 have hlen:=h.len8
 have hN:=h
 have hf8:((g.getD 0 0).toNat:Int)=(first8 g:Int):=rfl
 refine Fn.enter (vs:= [.slice ao n cap]) Try.func85 rfl rfl rfl ?_
 intro E R hR
 have h:=h.le (hR N (by simp))
 change At _ _ E [R] _
 refine At.seq fun _ s_1=>At.region (aR (aV rfl) ze92 rfl (fun N2 b2 B2=>?_))
 change Blk N2 b2 _ [.bool false,.slice none 0 0,.slice none 0 0]at B2
 refine aE (aC rfl) rfl rfl (aA (aB (s_1 (At.seq fun _ s_2=>At.block (At.seq fun _ s_3=>At.region (aD (aC rfl) rfl rfl (bZ (aC rfl) se27 rfl rfl (op_eql (aC rfl) rfl rfl rfl (aD (aC rfl) rfl rfl (bS (d:=10) rfl (fun g10=>?_) (fun g10=>?_)))))))))))
 ·refine aM rfl rfl rfl rfl rfl rfl rfl (aM rfl rfl rfl rfl rfl rfl rfl (aM rfl rfl rfl rfl rfl rfl rfl (aM rfl rfl rfl rfl rfl rfl rfl (op_pickT (aC rfl) rfl rfl rfl (aD (aC rfl) rfl rfl (aM rfl rfl rfl rfl rfl rfl rfl (aM rfl rfl rfl rfl rfl rfl rfl (aM rfl rfl rfl rfl rfl rfl rfl (aM rfl rfl rfl rfl rfl rfl rfl (aM rfl rfl rfl rfl rfl rfl rfl (bU rfl rfl rfl rfl rfl rfl (bU rfl rfl rfl rfl rfl rfl (bU rfl rfl rfl rfl rfl rfl (bU rfl rfl rfl rfl rfl rfl (aM rfl rfl rfl rfl rfl rfl rfl (op_pickT (aC rfl) rfl rfl rfl (aE (aC rfl) rfl rfl (aA (aB (s_3 (At.condT rfl ?_)))))))))))))))))))))
  refine At.seq fun _ s_4=>At.region (op_build (out:= [.bool false,.slice none 0 0,.slice none 0 0]) (aC rfl) ze92 pl92 .nil rfl rfl (aG (nxl rfl) sz92 rfl rfl rfl rfl rfl B2 (by simp) sel0 (fun N2 B2=>?_)))
  simp only [setL,List.set]at B2
  refine aE (aC rfl) rfl rfl (aA (aB (s_4 (At.ret (At.inRet (aQ ((aX (L1:= []) rfl (.cell rfl (bC (ds:= [_,_,_]) ag92 B2 rfl rfl aO) (.tmp rfl .nil)) rfl (.cons _ (.refl _)) (.refl _) ?_))))))))
  exact .inr ⟨ins_0 (by omega),rfl,rfl⟩
 refine aD (aZ rfl rfl rfl rfl) rfl rfl (op_idx1 (aZ rfl rfl rfl rfl) se27 rfl rfl h (show _=((0:Nat):Int)from rfl) (by omega) rfl (op_loadE (aZ rfl rfl rfl rfl) sc5 rfl h (by first|exact get8 (by omega)|exact get64 (by omega)|exact get32 (by omega)) (by first|exact aO|exact bK|exact mem2|exact mem3|exact mem4|exact mem5|exact mem6|exact mem7|exact mem8|exact mem9) rfl ?_))
 refine op_eql (aZ rfl rfl rfl rfl) rfl rfl rfl (bO (aC rfl) rfl rfl rfl (aD (aC rfl) rfl rfl (bS (d:=16) rfl (fun g16=>?_) (fun g16=>?_))))
 ·refine aM rfl rfl rfl rfl rfl rfl rfl (aM rfl rfl rfl rfl rfl rfl rfl (aM rfl rfl rfl rfl rfl rfl rfl (aM rfl rfl rfl rfl rfl rfl rfl (aM rfl rfl rfl rfl rfl rfl rfl (bU rfl rfl rfl rfl rfl rfl (bU rfl rfl rfl rfl rfl rfl (bU rfl rfl rfl rfl rfl rfl (bU rfl rfl rfl rfl rfl rfl (aM rfl rfl rfl rfl rfl rfl rfl (op_pickT (aC rfl) rfl rfl rfl (aE (aC rfl) rfl rfl (aA (aB (s_3 (At.condT rfl (At.seq fun _ s_5=>At.region (op_build (out:= [.bool false,.slice none 0 0,.slice none 0 0]) (aC rfl) ze92 pl92 .nil rfl rfl (aG (nxl rfl) sz92 rfl rfl rfl rfl rfl B2 (by simp) sel0 (fun N2 B2=>?_)))))))))))))))))))
  simp only [setL,List.set]at B2
  refine aE (aC rfl) rfl rfl (aA (aB (s_5 (At.ret (At.inRet (aQ ((aX (L1:= []) rfl (.cell rfl (bC (ds:= [_,_,_]) ag92 B2 rfl rfl aO) (.tmp rfl .nil)) rfl (.cons _ (.refl _)) (.refl _) ?_))))))))
  exact .inr ⟨ins_0 (by omega),rfl,rfl⟩
 refine aD (aZ rfl rfl rfl rfl) rfl rfl (op_idx1 (aZ rfl rfl rfl rfl) se27 rfl rfl h (show _=((0:Nat):Int)from rfl) (by omega) rfl (op_loadE (aZ rfl rfl rfl rfl) sc5 rfl h (by first|exact get8 (by omega)|exact get64 (by omega)|exact get32 (by omega)) (by first|exact aO|exact bK|exact mem2|exact mem3|exact mem4|exact mem5|exact mem6|exact mem7|exact mem8|exact mem9) rfl ?_))
 refine op_gtr (aZ rfl rfl rfl rfl) rfl rfl rfl (aD (aZ rfl rfl rfl rfl) rfl rfl (bS (d:=21) rfl (fun g21=>?_) (fun g21=>?_)))
 ·refine aD (aZ rfl rfl rfl rfl) rfl rfl (op_idx1 (aZ rfl rfl rfl rfl) se27 rfl rfl h (show _=((0:Nat):Int)from rfl) (by omega) rfl (op_loadE (aZ rfl rfl rfl rfl) sc5 rfl h (by first|exact get8 (by omega)|exact get64 (by omega)|exact get32 (by omega)) (by first|exact aO|exact bK|exact mem2|exact mem3|exact mem4|exact mem5|exact mem6|exact mem7|exact mem8|exact mem9) rfl ?_))
  refine op_lss (aZ rfl rfl rfl rfl) rfl rfl rfl (op_pickT (aZ rfl rfl rfl rfl) rfl rfl rfl (bO (aC rfl) rfl rfl rfl (aE (aC rfl) rfl rfl (aA (aB (s_3 (aN rfl (fun c6=>?_) (fun c6=>?_))))))))
  ·refine At.knowT (d:=6) rfl c6 (At.seq fun _ s_6=>At.region (op_build (out:= [.bool false,.slice none 0 0,.slice none 0 0]) (aC rfl) ze92 pl92 .nil rfl rfl (aG (nxl rfl) sz92 rfl rfl rfl rfl rfl B2 (by simp) sel0 (fun N2 B2=>?_))))
   simp only [setL,List.set]at B2
   refine aE (aC rfl) rfl rfl (aA (aB (s_6 (At.ret (At.inRet (aQ ((aX (L1:= []) rfl (.cell rfl (bC (ds:= [_,_,_]) ag92 B2 rfl rfl aO) (.tmp rfl .nil)) rfl (.cons _ (.refl _)) (.refl _) ?_))))))))
   exact .inr ⟨ins_0 (by omega),rfl,rfl⟩
  refine bX (d:=6) rfl c6 (At.seq fun _ s_7=>At.region (aD (aC rfl) rfl rfl (op_idx1 (aC rfl) se27 rfl rfl h (show _=((0:Nat):Int)from rfl) (by omega) rfl (op_loadE (aC rfl) sc5 rfl h (by first|exact get8 (by omega)|exact get64 (by omega)|exact get32 (by omega)) (by first|exact aO|exact bK|exact mem2|exact mem3|exact mem4|exact mem5|exact mem6|exact mem7|exact mem8|exact mem9) rfl ?_))))
  refine op_leq (aC rfl) rfl rfl rfl (aE (aC rfl) rfl rfl (aA (aB (s_7 (aN rfl (fun c29=>?_) (fun c29=>?_))))))
  ·refine At.knowT (d:=29) rfl c29 (At.seq fun _ s_8=>At.region (aD (aC rfl) rfl rfl (aL (aV rfl) (.cons rfl .nil) (FText_b) Try.func37 rfl rfl (by simp) rfl ?_)))
   rintro v35 L35 ⟨rfl,rfl⟩
   change At _ _ _ [N2,R] _
   refine aG (nxl rfl) sz92 rfl rfl rfl rfl rfl B2 (by simp) sel0 (fun N2 B2=>?_)
   simp only [setL,List.set]at B2
   refine aE (aC rfl) rfl rfl (aA (aB (s_8 (At.ret (At.inRet (aQ ((aX (L1:= []) rfl (.cell rfl (bC (ds:= [_,_,_]) ag92 B2 rfl rfl aO) (.tmp rfl .nil)) rfl (.cons _ (.refl _)) (.refl _) ?_))))))))
   exfalso;omega
  refine bX (d:=29) rfl c29 (At.skip (bN (aB (s_2 (At.seq fun _ s_9=>At.region (aD (aC rfl) rfl rfl (aL (aV rfl) (.cons rfl .nil) (Decode_o h hn) Try.func67 rfl rfl (by simp) rfl ?_)))))))
  rintro v38 L38 (⟨t,D,x,ht,rfl,rfl,hi,ho,hsz⟩|⟨e,ht,rfl,rfl,hne⟩)
  ·change At _ _ _ [D,N2,R] _
   refine aD (aC rfl) rfl rfl (aI (aC rfl) rfl rfl rfl (aI (aC rfl) rfl rfl rfl (aR (aV rfl) ze92 rfl (fun N4 b4 B4=>?_))))
   change Blk N4 b4 _ [.bool false,.slice none 0 0,.slice none 0 0]at B4
   refine aG (nxl rfl) sz92 rfl rfl rfl rfl rfl B4 (by simp) sel0 (fun N4 B4=>?_)
   simp only [setL,List.set]at B4
   refine aE (aC rfl) rfl rfl (aA (aB (s_9 (At.seq fun _ s_10=>At.region (aJ (ds:= [_,_,_]) (aC rfl) ag92 rfl B4 rfl rfl aO rfl (aD (aC rfl) rfl rfl (op_eql (aC rfl) rfl rfl rfl (aG (nxl rfl) sz92 rfl rfl rfl rfl rfl B2 (by simp) bB (fun N2 B2=>?_)))))))))
   simp only [setL,List.set]at B2
   refine aE (aC rfl) rfl rfl (aA (aB (s_10 (At.ret ((At.sub (L':= [N2,D,R]) (.cons_cons _ (.cons _ (.cons_cons _ (.cons_cons _ (.slnil))))) (aX (L1:= [D]) rfl (.cell rfl (bC (ds:= [_,_,_]) ag92 B2 rfl rfl aO) (.tmp rfl .nil)) rfl (.cons _ (.refl _)) (.refl _) ?_)))))))
   exact .inl ⟨t,D,x,ins_2 (by omega) (by omega) ht,rfl,rfl,fun K hK _=>hi.le hK⟩
  change At _ _ _ [N2,R] _
  refine aD (aC rfl) rfl rfl (aI (aC rfl) rfl rfl rfl (aI (aC rfl) rfl rfl rfl (aR (aV rfl) ze92 rfl (fun N4 b4 B4=>?_))))
  change Blk N4 b4 _ [.bool false,.slice none 0 0,.slice none 0 0]at B4
  refine aG (nxl rfl) sz92 rfl rfl rfl rfl rfl B4 (by simp) sel0 (fun N4 B4=>?_)
  simp only [setL,List.set]at B4
  refine aE (aC rfl) rfl rfl (aA (aB (s_9 (At.seq fun _ s_11=>At.region (aJ (ds:= [_,_,_]) (aC rfl) ag92 rfl B4 rfl rfl aO rfl (aD (aC rfl) rfl rfl (op_eql (aC rfl) rfl rfl rfl (aG (nxl rfl) sz92 rfl rfl rfl rfl rfl B2 (by simp) bY (fun N2 B2=>?_)))))))))
  simp only [setL,List.set]at B2
  refine aE (aC rfl) rfl rfl (aA (aB (s_11 (At.ret ((At.sub (L':= [N2,R]) (.cons_cons _ (.cons _ (.cons_cons _ (.slnil)))) (aX (L1:= []) rfl (.cell rfl (bC (ds:= [_,_,_]) ag92 B2 rfl rfl aO) (.tmp rfl .nil)) rfl (.cons _ (.refl _)) (.refl _) ?_)))))))
  exact .inr ⟨ins_3 (by omega) (by omega) ht,by rw [decide_eq_false (by omega)],rfl⟩
 refine aM rfl rfl rfl rfl rfl rfl rfl (aM rfl rfl rfl rfl rfl rfl rfl (aM rfl rfl rfl rfl rfl rfl rfl (aM rfl rfl rfl rfl rfl rfl rfl (bO (aZ rfl rfl rfl rfl) rfl rfl rfl (bO (aC rfl) rfl rfl rfl (aE (aC rfl) rfl rfl (aA (aB (s_3 (At.condF rfl (At.seq fun _ s_12=>At.region (aD (aC rfl) rfl rfl (op_idx1 (aC rfl) se27 rfl rfl h (show _=((0:Nat):Int)from rfl) (by omega) rfl (op_loadE (aC rfl) sc5 rfl h (by first|exact get8 (by omega)|exact get64 (by omega)|exact get32 (by omega)) (by first|exact aO|exact bK|exact mem2|exact mem3|exact mem4|exact mem5|exact mem6|exact mem7|exact mem8|exact mem9) rfl ?_))))))))))))))
 refine op_leq (aC rfl) rfl rfl rfl (aE (aC rfl) rfl rfl (aA (aB (s_12 (aN rfl (fun c29=>?_) (fun c29=>?_))))))
 ·refine At.knowT (d:=29) rfl c29 (At.seq fun _ s_13=>At.region (aD (aC rfl) rfl rfl (aL (aV rfl) (.cons rfl .nil) (FText_b) Try.func37 rfl rfl (by simp) rfl ?_)))
  rintro v35 L35 ⟨rfl,rfl⟩
  change At _ _ _ [N2,R] _
  refine aG (nxl rfl) sz92 rfl rfl rfl rfl rfl B2 (by simp) sel0 (fun N2 B2=>?_)
  simp only [setL,List.set]at B2
  refine aE (aC rfl) rfl rfl (aA (aB (s_13 (At.ret (At.inRet (aQ ((At.empty (At.perm bB (At.perm bY (At.perm bB (aX (L1:= [nilH]) rfl (.cell rfl (bC (ds:= [_,_,_]) ag92 B2 rfl rfl aO) (.tmp rfl .nil)) rfl (.cons _ (.refl _)) (.refl _) ?_))))))))))))
  exact .inl ⟨itS g,nilH,ivS ao n cap,ins_1 (by omega) (by omega),rfl,rfl,fun K _ hK=>ItN_S (hN.le hK)⟩
 refine bX (d:=29) rfl c29 (At.skip (bN (aB (s_2 (At.seq fun _ s_14=>At.region (aD (aC rfl) rfl rfl (aL (aV rfl) (.cons rfl .nil) (Decode_o h hn) Try.func67 rfl rfl (by simp) rfl ?_)))))))
 rintro v38 L38 (⟨t,D,x,ht,rfl,rfl,hi,ho,hsz⟩|⟨e,ht,rfl,rfl,hne⟩)
 ·change At _ _ _ [D,N2,R] _
  refine aD (aC rfl) rfl rfl (aI (aC rfl) rfl rfl rfl (aI (aC rfl) rfl rfl rfl (aR (aV rfl) ze92 rfl (fun N4 b4 B4=>?_))))
  change Blk N4 b4 _ [.bool false,.slice none 0 0,.slice none 0 0]at B4
  refine aG (nxl rfl) sz92 rfl rfl rfl rfl rfl B4 (by simp) sel0 (fun N4 B4=>?_)
  simp only [setL,List.set]at B4
  refine aE (aC rfl) rfl rfl (aA (aB (s_14 (At.seq fun _ s_15=>At.region (aJ (ds:= [_,_,_]) (aC rfl) ag92 rfl B4 rfl rfl aO rfl (aD (aC rfl) rfl rfl (op_eql (aC rfl) rfl rfl rfl (aG (nxl rfl) sz92 rfl rfl rfl rfl rfl B2 (by simp) bB (fun N2 B2=>?_)))))))))
  simp only [setL,List.set]at B2
  refine aE (aC rfl) rfl rfl (aA (aB (s_15 (At.ret ((At.sub (L':= [N2,R]) (.cons_cons _ (.cons _ (.cons _ (.cons_cons _ (.slnil))))) (aX (L1:= []) rfl (.cell rfl (bC (ds:= [_,_,_]) ag92 B2 rfl rfl aO) (.tmp rfl .nil)) rfl (.cons _ (.refl _)) (.refl _) ?_)))))))
  exfalso;omega
 change At _ _ _ [N2,R] _
 refine aD (aC rfl) rfl rfl (aI (aC rfl) rfl rfl rfl (aI (aC rfl) rfl rfl rfl (aR (aV rfl) ze92 rfl (fun N4 b4 B4=>?_))))
 change Blk N4 b4 _ [.bool false,.slice none 0 0,.slice none 0 0]at B4
 refine aG (nxl rfl) sz92 rfl rfl rfl rfl rfl B4 (by simp) sel0 (fun N4 B4=>?_)
 simp only [setL,List.set]at B4
 refine aE (aC rfl) rfl rfl (aA (aB (s_14 (At.seq fun _ s_16=>At.region (aJ (ds:= [_,_,_]) (aC rfl) ag92 rfl B4 rfl rfl aO rfl (aD (aC rfl) rfl rfl (op_eql (aC rfl) rfl rfl rfl (aG (nxl rfl) sz92 rfl rfl rfl rfl rfl B2 (by simp) bY (fun N2 B2=>?_)))))))))
 simp only [setL,List.set]at B2
 refine aE (aC rfl) rfl rfl (aA (aB (s_16 (At.ret ((At.sub (L':= [N2,R]) (.cons_cons _ (.cons _ (.cons_cons _ (.slnil)))) (aX (L1:= []) rfl (.cell rfl (bC (ds:= [_,_,_]) ag92 B2 rfl rfl aO) (.tmp rfl .nil)) rfl (.cons _ (.refl _)) (.refl _) ?_)))))))
 exfalso;omega
end
end Go.Proofs.Ytljacjjeinmfnaa
/- Layer 14: a block is written. No condition but sizes. -/
namespace Go.Proofs.Ytljacjjeinmfnaa
open Go Go.RowKit
set_option maxRecDepth 100000
def insAll:List (List UInt8)→Option (List It)
 | []=>some []
 |g::gs=>match insE g with
  |none=>none
  |some t=>match insAll gs with
   |none=>none
   |some l=>some (t::l)
theorem insAll_snoc {gs:List (List UInt8)} {g:List UInt8} {l:List It} {t:It} (h:insAll gs=some l) (k:insE g=some t):insAll (gs++ [g])=some (l++ [t]):=by
 induction gs generalizing l with
 |nil=>
  simp only [insAll]at h;cases h
  simp only [List.nil_append,insAll,k]
 |cons a r ih=>
  simp only [insAll]at h
  split at h
  ·cases h
  ·rename_i t0 ht0
   split at h
   ·cases h
   ·rename_i l0 hl0
    cases h
    simp only [List.cons_append,insAll,ht0,ih hl0]
theorem insAll_none {gs:List (List UInt8)} {g:List UInt8} (hg:g∈gs) (k:insE g=none):insAll gs=none:=by
 induction gs with
 |nil=>cases hg
 |cons a r ih=>
  simp only [insAll]
  rcases List.mem_cons.1 hg with rfl|hg
  ·rw [k]
  ·rw [ih hg]
   cases insE a<;>rfl
def wdI (w:WdM):It:=wdIt w.ix w.va w.ad w.am
def blkParts (m:BlkM) (its:List It):List It:= [m.hd.it,itL its,itL (m.oms.map HdM.it)]++if m.paid=true then [itL (m.wds.map wdI)]else []
/-- A block's item. -/
def blkIt (m:BlkM) (its:List It):It:=itL (blkParts m its)
/-- A block's bytes, if it is one. -/
def wBlk (m:BlkM):Option (List UInt8):=if okF m.hd.fi∧ ∀h∈m.oms,okF h.fi then match insAll m.txs with
 |none=>none
 |some its=>if (blkIt m its).depth≤1024 then some (blkIt m its).form else none
 else none
theorem wBlk_hd {m:BlkM} (h: ¬okF m.hd.fi):wBlk m=none:=by rw [wBlk,if_neg (fun k=>h k.1)]
theorem wBlk_om {m:BlkM} {x:HdM} (hx:x∈m.oms) (h: ¬okF x.fi):wBlk m=none:=by rw [wBlk,if_neg (fun k=>h (k.2 x hx))]
theorem wBlk_tx {m:BlkM} (h:insAll m.txs=none):wBlk m=none:=by
 rw [wBlk,h];split<;>rfl
theorem wBlk_ok {m:BlkM} {its:List It} (h:okF m.hd.fi) (k: ∀x∈m.oms,okF x.fi) (hi:insAll m.txs=some its) (hd:(blkIt m its).depth≤1024):wBlk m=some (blkIt m its).form:=by
 rw [wBlk,if_pos ⟨h,k⟩,hi];exact if_pos hd
theorem wBlk_dp {m:BlkM} {its:List It} (hi:insAll m.txs=some its) (hd: ¬(blkIt m its).depth≤1024):wBlk m=none:=by
 rw [wBlk,hi]
 split
 ·exact if_neg hd
 ·rfl
/-- A header whose Extra lies in N. -/
def HdIn (N:Heaplet) (h:HdM) (v:Value):Prop:=h.Ok∧ ∃ea ec,v=.slice ea h.ex.length ec∧RSl N 1 ea h.ex.length ec (u8s h.ex)
/-- Where a block's parts lie, to be read. -/
def BlkR (N:Heaplet) (m:BlkM) (cs:List Value):Prop:= ∃v1 ta tc vs oa oc xs wa wc,
 cs=(blkP (m.hd.cells v1) (.slice ta m.txs.length tc) (.slice oa m.oms.length oc) m.paid (.slice wa m.wds.length wc)).flatten∧
 HdIn N m.hd v1∧RSl N 1 ta m.txs.length tc vs∧Bags N vs m.txs∧
 RSl N 556 oa m.oms.length oc (omC xs)∧(∀x∈xs,HdIn N x.1 x.2)∧xs.map Prod.fst=m.oms∧
 RSl N 23 wa m.wds.length wc (wdsC m.wds)∧ ∀x∈m.wds,x.ad.length=20
structure BlkM.Sz (m:BlkM):Prop where
 tx:m.txs.length≤1048576
 tl: ∀g∈m.txs,g.length≤1099511627776
 om:m.oms.length≤1048576
 wd:m.wds.length≤1048576
def WBlkP (m:BlkM) (v:Value) (L:List Heaplet):Prop:=
 (∃bs M p c,wBlk m=some bs∧v=.tuple #[.slice p bs.length c,.int .i64 0]∧L= [M]∧Row M 5 1 p bs.length c (u8s bs))∨
 (wBlk m=none∧v=.tuple #[.slice none 0 0,.int .i64 1]∧L= [])
theorem omC_cells {N:Heaplet} {xs:List (HdM×Value)} (h: ∀x∈xs,HdIn N x.1 x.2): ∀x∈xs,(x.1.cells x.2).length=556:=fun x hx=>HdM.len (h x hx).1 _
section
variable {N : Heaplet} {m : BlkM} {cs : List Value}
set_option maxHeartbeats 8000000 in
theorem FWriteBlock (hR':BlkR N m cs) (hz:m.Sz) (hl: ∀its,insAll m.txs=some its→(blkIt m its).form.length≤1099511627776):Fn Try.prog 33 #[.agg cs.toArray] [] [N] (WBlkP m):=by
 obtain⟨v1,ta,tc,vs,oa,oc,xs,wa,wc,rfl,⟨hk,ea,ec,rfl,hex⟩,hT,hBg,hO,hxs,hxm,hW,hwd⟩:=hR'
 have hH:=HdM.len hk (.slice ea m.hd.ex.length ec)
 have hH1:(m.hd.cells (.slice ea m.hd.ex.length ec)).all (·.oneCell')=true:=HdM.one rfl
 have hxl:xs.length=m.oms.length:=by rw [←hxm,List.length_map]
 have z1:=hz.tx
 have z2:=hz.om
 have z3:=hz.wd
 obtain⟨H,hHe⟩: ∃H,m.hd.cells (.slice ea m.hd.ex.length ec)=H:=⟨_,rfl⟩
 have hhd:=FHeaded_any hk hex
 rw [hHe]at hH hH1 hhd⊢
 have hln:=blk_len (t:=.slice ta m.txs.length tc) (o:=.slice oa m.oms.length oc) (p:=m.paid) (w:=.slice wa m.wds.length wc) hH
 have hone:=blk_one (p:=m.paid) hH1 (t:=.slice ta m.txs.length tc) (o:=.slice oa m.oms.length oc) (w:=.slice wa m.wds.length wc) rfl rfl rfl
 have gh:((blkP H (.slice ta m.txs.length tc) (.slice oa m.oms.length oc) m.paid (.slice wa m.wds.length wc)).flatten.drop (0+0)).take 556=H:=part_get (blk_lens hH) (j:=0) rfl rfl hH
 refine Fn.enter (vs:= [.agg (blkP H (.slice ta m.txs.length tc) (.slice oa m.oms.length oc) m.paid (.slice wa m.wds.length wc)).flatten.toArray]) Try.func33 rfl rfl rfl ?_
 intro E R hR
 have hNR:=hR N (by simp)
 have hO':=hO.le hNR
 have hT':=hT.le hNR
 have hW':=hW.le hNR
 change At _ _ E [R] _
 refine At.seq fun _ s_1=>At.region (op_box (aV rfl) rfl rfl rfl (fun N1 b1 B1=>aE (aC rfl) rfl rfl (aE (aC rfl) rfl rfl (aA (aB (s_1 (At.seq fun _ s_2=>At.region (aF (aC rfl) fl82_0 rfl rfl (aJ (ds:=H) (aC rfl) ag76 rfl B1 (by exact gh) (by exact hH) aO rfl ?_)))))))))
 refine aL (aV rfl) (.cons rfl .nil) (hhd.liftB hNR) Try.func84 rfl rfl (by simp) rfl ?_
 rintro v24 L24 (⟨hok,J24,x24,rfl,rfl,j24⟩|⟨hbad,rfl,rfl⟩)
 ·change At _ _ _ [J24,N1,R] _
  refine aD (aC rfl) rfl rfl (aI (aC rfl) rfl rfl rfl (aI (aC rfl) rfl rfl rfl (aR (aV rfl) ze92 rfl (fun N4 b4 B4=>?_))))
  change Blk N4 b4 _ [.bool false,.slice none 0 0,.slice none 0 0]at B4
  refine aG (nxl rfl) sz92 rfl rfl rfl rfl rfl B4 (by simp) sel0 (fun N4 B4=>?_)
  simp only [setL,List.set]at B4
  refine aE (aC rfl) rfl rfl (aA (aB (s_2 (At.seq fun _ s_3=>At.seq fun _ s_4=>At.region (aD (aC rfl) rfl rfl (op_neq (aC rfl) rfl rfl rfl (aA (aB (s_4 (aN rfl (fun c28=>?_) (fun c28=>?_)))))))))))
  ·exact absurd rfl c28
  refine At.skip (aB (s_3 (At.seq fun _ s_5=>At.region (aL (aV rfl) (.cons rfl .nil) (FList_b) Try.func36 rfl rfl (by simp) rfl ?_))))
  rintro v30 L30 ⟨rfl,rfl⟩
  change At _ _ _ [N4,J24,N1,R] _
  refine aL (aV rfl) (.cons rfl .nil) (FList_b) Try.func36 rfl rfl (by simp) rfl ?_
  rintro v31 L31 ⟨rfl,rfl⟩
  change At _ _ _ [N4,J24,N1,R] _
  refine aL (aV rfl) (.cons rfl .nil) (FList_b) Try.func36 rfl rfl (by simp) rfl ?_
  rintro v32 L32 ⟨rfl,rfl⟩
  change At _ _ _ [N4,J24,N1,R] _
  refine aR (aV rfl) ze92 rfl (fun N6 b6 B6=>?_)
  change Blk N6 b6 _ [.bool false,.slice none 0 0,.slice none 0 0]at B6
  refine aR (aV rfl) ze92 rfl (fun N7 b7 B7=>?_)
  change Blk N7 b7 _ [.bool false,.slice none 0 0,.slice none 0 0]at B7
  refine aR (aV rfl) ze92 rfl (fun N8 b8 B8=>?_)
  change Blk N8 b8 _ [.bool false,.slice none 0 0,.slice none 0 0]at B8
  refine aG (nxl rfl) sz92 rfl rfl rfl rfl rfl B6 (by simp) bB (fun N6 B6=>?_)
  simp only [setL,List.set]at B6
  refine aG (nxl rfl) sz92 rfl rfl rfl rfl rfl B7 (by simp) bB (fun N7 B7=>?_)
  simp only [setL,List.set]at B7
  refine aG (nxl rfl) sz92 rfl rfl rfl rfl rfl B8 (by simp) bB (fun N8 B8=>?_)
  simp only [setL,List.set]at B8
  refine aA (aB (s_5 (At.seq fun _ s_6=>At.seq fun _ s_7=>At.region (aF (aC rfl) fl82_2 rfl rfl (aH (aC rfl) sc79 rfl B1 (gk_o hH) mem5 rfl (bZ (aC rfl) se79 rfl rfl (aD (aC rfl) rfl rfl (aA (aB (s_7 (At.block (At.empty (At.empty (At.perm sel8 (At.perm sel7 (At.perm bJ (At.perm bL (At.perm sel7 (At.perm sel8 (At.perm bP ?_))))))))))))))))))))
  refine At.perm sel7 (At.perm sel8 (At.loop (fun fr_ hp_ ms_=> ∃(i:Nat) (a:Option Addr) (c:Nat) (ys:List IV) (N6 Na NJ:Heaplet),fr_= [(1,.pointer (some ⟨b1,0,none⟩)),(4,.pointer (some ⟨b4,0,none⟩)),(6,.pointer (some ⟨b6,0,none⟩)),(7,.pointer (some ⟨b7,0,none⟩)),(8,.pointer (some ⟨b8,0,none⟩)),(34,.slice oa m.oms.length oc),(35,.int .i64 (m.oms.length:Int)),(36,.int .i64 (i:Int))]∧hp_= [N6,Na,NJ,N1,N4,N7,N8,J24,R]∧m.oms.length- i=ms_∧(i≤m.oms.length)∧(Blk N6 b6 92 [.bool true,.slice none 0 0,.slice a i c])∧(Row Na 92 3 a i c (cellsI ys))∧(∀K:Heaplet,NJ.le K→N.le K→ItsN K ((m.oms.take i).map HdM.it) ys)∧(∀h∈m.oms.take i,okF h.fi)) ?_ (.refl _) ⟨0,none,0,[],N6,nilH,nilH,rfl,rfl,rfl,Nat.zero_le _,B6,Row.nil _ _ _,fun K _ _=>ItsN_nil,fun h hh=>by simp at hh⟩ ?_))
  ·exact .cons (by first|exact bI rfl (by omega)|rfl) (.cons (by first|exact bI rfl (by omega)|rfl) (.cons (by first|exact bI rfl (by omega)|rfl) (.cons (by first|exact bI rfl (by omega)|rfl) (.cons (by first|exact bI rfl (by omega)|rfl) (.cons (by first|exact bI rfl (by omega)|rfl) (.cons (by first|exact bI rfl (by omega)|rfl) (.cons (by first|exact bI rfl (by omega)|rfl) .nil)))))))
  rintro _ _ _ ⟨i,a,c,ys,N6,Na,NJ,rfl,rfl,rfl,hi,B6,ra,hy,hfo⟩
  refine At.seq fun _ s_8=>At.region (op_lss (aC rfl) rfl rfl rfl (aA (aB (s_8 (At.seq fun _ s_9=>aN rfl (fun c37=>?_) (fun c37=>?_))))))
  ·have hlt:i<xs.length:=by omega
   obtain⟨⟨xh,xv⟩,hxi⟩: ∃x,xs[i]? =some x:=⟨_,List.getElem?_eq_getElem hlt⟩
   obtain⟨hxk,xa,xc,hxv,hxe⟩:=hxs _ (List.mem_of_getElem? hxi)
   simp only at hxv hxk hxe
   subst hxv
   have hgi:m.oms[i]? =some xh:=by rw [←hxm,List.getElem?_map,hxi];rfl
   have hxl2:=HdM.len hxk (.slice xa xh.ex.length xc)
   have hx1:(xh.cells (.slice xa xh.ex.length xc)).all (·.oneCell')=true:=HdM.one rfl
   have hxhd:=FHeaded_any hxk hxe
   refine At.skip (aB (s_9 (At.seq fun _ s_10=>At.block (At.seq fun _ s_11=>At.region (op_idxE (aC rfl) se79 rfl rfl hO' (show _=(((i:Nat)):Int)from by omega) (by omega) rfl ?_)))))
   refine op_loadAggE (ds:=xh.cells (.slice xa xh.ex.length xc)) (aC rfl) ag76 rfl hO' (by exact flat_at (fun x:HdM×Value=>x.1.cells x.2) (omC_cells hxs) hxi) (by exact hxl2) (by omega) (by first|exact aO|exact bK|exact mem2|exact mem3|exact mem4|exact mem5|exact mem6|exact mem7|exact mem8|exact mem9) rfl ?_
   refine aR (aV rfl) ze76 rfl (fun N10 b10 B10=>?_)
   change Blk N10 b10 _ z76 at B10
   refine aG (nxl rfl) sz76 rfl rfl rfl hxl2 hx1 B10 (by rw [hxl2];exact Nat.le_refl _) sel0 (fun N10 B10=>?_)
   rw [aW (by rw [hxl2];rfl)]at B10
   refine aA (aB (s_11 (At.seq fun _ s_12=>At.region (aJ (ds:=xh.cells (.slice xa xh.ex.length xc)) (aC rfl) ag76 rfl B10 (by exact tk_all hxl2) (by exact hxl2) aO rfl ?_))))
   refine aL (aV rfl) (.cons rfl .nil) (hxhd.liftB hNR) Try.func84 rfl rfl (by simp) rfl ?_
   rintro v42 L42 (⟨hok2,J42,x42,rfl,rfl,j42⟩|⟨hbad,rfl,rfl⟩)
   ·change At _ _ _ [J42,N10,N6,Na,NJ,N1,N4,N7,N8,J24,R] _
    refine aD (aC rfl) rfl rfl (aI (aC rfl) rfl rfl rfl (aI (aC rfl) rfl rfl rfl (aR (aV rfl) ze92 rfl (fun N11 b11 B11=>?_))))
    change Blk N11 b11 _ [.bool false,.slice none 0 0,.slice none 0 0]at B11
    refine aG (nxl rfl) sz92 rfl rfl rfl rfl rfl B11 (by simp) sel0 (fun N11 B11=>?_)
    simp only [setL,List.set]at B11
    refine aE (aC rfl) rfl rfl (aA (aB (s_12 (At.seq fun _ s_13=>At.seq fun _ s_14=>At.region (aD (aC rfl) rfl rfl (op_neq (aC rfl) rfl rfl rfl (aA (aB (s_14 (aN rfl (fun c46=>?_) (fun c46=>?_)))))))))))
    ·exact absurd rfl c46
    refine At.skip (aB (s_13 (At.region (aF (aC rfl) fl92_2 rfl rfl (aH (aC rfl) sc90 rfl B6 (by first|rfl) mem3 rfl ?_)))))
    refine aJ (ds:= [_,_,_]) (aC rfl) ag92 rfl B11 rfl rfl aO rfl (op_lit (aV rfl) Try.underlying90 ze92 sz92 (.cons rfl .nil) rfl rfl (by simp [Value.cells]) rfl rfl rfl (fun N51 a51 r51=>?_))
    simp only [flatV,List.flatMap_cons,List.flatMap_nil,Value.cells,List.append_nil,List.cons_append,List.nil_append]at r51
    have s51:=r51.rsl
    change Row N51 _ 3 a51 1 1 (cellsI [x42])at r51
    refine op_append (nxl rfl) Try.underlying90 Try.underlying90 te92 rfl rfl ra r51.rsl (by first|exact aO|exact bK|exact mem2|exact mem3|exact mem4|exact mem5|exact mem6|exact mem7|exact mem8|exact mem9|exact mem10|exact mem11|exact mem12) (cellsI_oneB _) (by omega) (by omega) bL rfl (fun N52 a52 p52 r52=>?_)
    have s52:=r52.rsl
    rw [←cellsI_app]at r52
    refine aF (aC rfl) fl92_2 rfl rfl (aG (nxl rfl) sz90 rfl rfl rfl rfl rfl B6 (by simp) bL (fun N6 B6=>?_))
    simp only [setL,List.set]at B6
    refine aA (bN (aB (s_10 (At.region (bW (aC rfl) rfl rfl (by omega) (by omega) rfl (aD (aC rfl) rfl rfl (aA (aB (At.perm sel12 (At.perm sel12 (At.perm sel12 (At.perm sel12 (At.perm sel12 (At.perm sel12 (At.perm sel11 (At.perm sel10 (At.perm sel10 (At.perm sel10 (At.perm sel10 (At.perm sel11 (At.perm sel12 ?_)))))))))))))))))))))
    refine a0 (fun W W1 W2=>At.sub (L':= [W,N6,N52,N1,N4,N7,N8,J24,R]) (.cons_cons _ (.cons_cons _ (.cons_cons _ (.cons _ (.cons _ (.cons _ (.cons_cons _ (.cons_cons _ (.cons_cons _ (.cons_cons _ (.cons_cons _ (.cons_cons _ (.slnil))))))))))))) (At.perm sel8 (At.perm sel8 (At.perm sel8 (At.perm sel8 (At.perm sel8 (At.perm sel8 (At.perm bP (At.perm sel8 (At.perm sel8 ?_))))))))))
    refine At.back ?_ (.refl _) ⟨i+1,a52,p52,ys++ [x42],N6,N52,W,rfl,rfl,rfl,by omega,B6,r52,by rw [take_next2 hgi,List.map_append];exact fun Q hJ hN=>(hy Q (Heaplet.le_trans W1 hJ) hN).snoc (j42 Q (Heaplet.le_trans W2 hJ) hN),by rw [take_next2 hgi];exact fun h hh=>(List.mem_append.1 hh).elim (hfo h) fun h2=>by rw [List.mem_singleton.1 h2];exact hok2⟩ ?_
    ·exact .cons (by first|exact bI rfl (by omega)|rfl) (.cons (by first|exact bI rfl (by omega)|rfl) (.cons (by first|exact bI rfl (by omega)|rfl) (.cons (by first|exact bI rfl (by omega)|rfl) (.cons (by first|exact bI rfl (by omega)|rfl) (.cons (by first|exact bI rfl (by omega)|rfl) (.cons (by first|exact bI rfl (by omega)|rfl) (.cons (by first|exact bI rfl (by omega)|rfl) .nil)))))))
    ·omega
   change At _ _ _ [N10,N6,Na,NJ,N1,N4,N7,N8,J24,R] _
   refine aD (aC rfl) rfl rfl (aI (aC rfl) rfl rfl rfl (aI (aC rfl) rfl rfl rfl (aR (aV rfl) ze92 rfl (fun N11 b11 B11=>?_))))
   change Blk N11 b11 _ [.bool false,.slice none 0 0,.slice none 0 0]at B11
   refine aG (nxl rfl) sz92 rfl rfl rfl rfl rfl B11 (by simp) sel0 (fun N11 B11=>?_)
   simp only [setL,List.set]at B11
   refine aE (aC rfl) rfl rfl (aA (aB (s_12 (At.seq fun _ s_15=>At.seq fun _ s_16=>At.region (aD (aC rfl) rfl rfl (op_neq (aC rfl) rfl rfl rfl (aA (aB (s_16 (aN rfl (fun c46=>?_) (fun c46=>?_)))))))))))
   rotate_left
   ·exact absurd (show ¬((1:Int)=0) by decide) c46
   refine At.seq fun _ s_17=>At.region (aD (aC rfl) rfl rfl (aE (aC rfl) rfl rfl (aE (aC rfl) rfl rfl (aA (aB (s_17 (At.ret (aQ (At.inRet (aQ (aQ (At.inRet (aQ ((At.sub (L':= [R]) (.cons _ (.cons _ (.cons _ (.cons _ (.cons _ (.cons _ (.cons _ (.cons _ (.cons _ (.cons _ (.cons_cons _ (.slnil)))))))))))) (aX (L1:= []) rfl (.tmp rfl (.tmp rfl .nil)) rfl (.refl _) (.refl _) ?_))))))))))))))))
   exact .inr ⟨wBlk_om (List.mem_of_getElem? hgi) hbad,rfl,rfl⟩
  obtain rfl:i=m.oms.length:=by omega
  rw [List.take_of_length_le (Nat.le_refl _)]at hy hfo
  refine At.exit (aS (aS (At.inHit (aB (s_6 (At.seq fun _ s_18=>At.seq fun _ s_19=>At.region (aF (aC rfl) fl82_1 rfl rfl (aH (aC rfl) sc61 rfl B1 (gk_t hH) mem3 rfl (bZ (aC rfl) se61 rfl rfl (aD (aC rfl) rfl rfl (aA (aB (s_19 (At.block (At.empty (At.empty (At.perm sel10 (At.perm sel10 (At.perm sel10 (At.perm sel9 (At.perm sel9 (At.perm sel9 (At.perm sel9 ?_)))))))))))))))))))))))
  refine At.perm sel9 (At.perm sel8 (At.perm sel9 (At.perm sel10 (At.loop (fun fr_ hp_ ms_=> ∃(i:Nat) (a2:Option Addr) (c2:Nat) (ys2:List IV) (its:List It) (N7 Nb NK:Heaplet),fr_= [(1,.pointer (some ⟨b1,0,none⟩)),(4,.pointer (some ⟨b4,0,none⟩)),(6,.pointer (some ⟨b6,0,none⟩)),(7,.pointer (some ⟨b7,0,none⟩)),(8,.pointer (some ⟨b8,0,none⟩)),(56,.slice ta m.txs.length tc),(57,.int .i64 (m.txs.length:Int)),(58,.int .i64 (i:Int))]∧hp_= [N7,Nb,NK,N6,Na,NJ,N1,N4,N8,J24,R]∧m.txs.length- i=ms_∧(i≤m.txs.length)∧(Blk N7 b7 92 [.bool true,.slice none 0 0,.slice a2 i c2])∧(Row Nb 92 3 a2 i c2 (cellsI ys2))∧(∀K:Heaplet,NK.le K→N.le K→ItsN K its ys2)∧(insAll (m.txs.take i)=some its)) ?_ (.refl _) ⟨0,none,0,[],[],N7,nilH,nilH,rfl,rfl,rfl,Nat.zero_le _,B7,Row.nil _ _ _,fun K _ _=>ItsN_nil,rfl⟩ ?_))))
  ·exact .cons (by first|exact bI rfl (by omega)|rfl) (.cons (by first|exact bI rfl (by omega)|rfl) (.cons (by first|exact bI rfl (by omega)|rfl) (.cons (by first|exact bI rfl (by omega)|rfl) (.cons (by first|exact bI rfl (by omega)|rfl) (.cons (by first|exact bI rfl (by omega)|rfl) (.cons (by first|exact bI rfl (by omega)|rfl) (.cons (by first|exact bI rfl (by omega)|rfl) .nil)))))))
  rintro _ _ _ ⟨i,a2,c2,ys2,its,N7,Nb,NK,rfl,rfl,rfl,hi,B7,rb,hy2,hin⟩
  refine At.seq fun _ s_20=>At.region (op_lss (aC rfl) rfl rfl rfl (aA (aB (s_20 (At.seq fun _ s_21=>aN rfl (fun c59=>?_) (fun c59=>?_))))))
  ·have hlt:i<m.txs.length:=by omega
   obtain⟨g,hgi⟩: ∃g,m.txs[i]? =some g:=⟨_,List.getElem?_eq_getElem hlt⟩
   obtain⟨pg,cg,hvi,hg⟩:=hBg.rsl i g hgi
   have hgl:=hz.tl g (List.mem_of_getElem? hgi)
   have hins:=FInside hg (by omega)
   refine At.skip (aB (s_21 (At.seq fun _ s_22=>At.block (At.seq fun _ s_23=>At.region (op_idx1 (aC rfl) se61 rfl rfl hT' (show _=(((i:Nat)):Int)from by omega) (by omega) rfl ?_)))))
   refine op_loadE (aC rfl) sc27 rfl hT' (by first|exact get8 (by omega)|exact get64 (by omega)|exact get32 (by omega)|exact hvi) (by first|exact aO|exact bK|exact mem2|exact mem3|exact mem4|exact mem5|exact mem6|exact mem7|exact mem8|exact mem9|exact mem10) rfl ?_
   refine aE (aC rfl) rfl rfl (aA (aB (s_23 (At.seq fun _ s_24=>At.region (aD (aC rfl) rfl rfl (aL (aV rfl) (.cons rfl .nil) (hins.liftB hNR) Try.func85 rfl rfl (by simp) rfl ?_))))))
   rintro v64 L64 (⟨t64,J64,x64,hin1,rfl,rfl,j64⟩|⟨hin1,rfl,rfl⟩)
   ·change At _ _ _ [J64,N7,Nb,NK,N6,Na,NJ,N1,N4,N8,J24,R] _
    refine aD (aC rfl) rfl rfl (aI (aC rfl) rfl rfl rfl (aI (aC rfl) rfl rfl rfl (aR (aV rfl) ze92 rfl (fun N15 b15 B15=>?_))))
    change Blk N15 b15 _ [.bool false,.slice none 0 0,.slice none 0 0]at B15
    refine aG (nxl rfl) sz92 rfl rfl rfl rfl rfl B15 (by simp) sel0 (fun N15 B15=>?_)
    simp only [setL,List.set]at B15
    refine aE (aC rfl) rfl rfl (aA (aB (s_24 (At.seq fun _ s_25=>At.seq fun _ s_26=>At.region (aD (aC rfl) rfl rfl (op_not (aC rfl) rfl rfl (aA (aB (s_26 (At.condF rfl (At.skip (aB (s_25 (At.region (aF (aC rfl) fl92_2 rfl rfl (aH (aC rfl) sc90 rfl B7 (by first|rfl) mem2 rfl ?_))))))))))))))))
    refine aJ (ds:= [_,_,_]) (aC rfl) ag92 rfl B15 rfl rfl aO rfl (op_lit (aV rfl) Try.underlying90 ze92 sz92 (.cons rfl .nil) rfl rfl (by simp [Value.cells]) rfl rfl rfl (fun N72 a72 r72=>?_))
    simp only [flatV,List.flatMap_cons,List.flatMap_nil,Value.cells,List.append_nil,List.cons_append,List.nil_append]at r72
    have s72:=r72.rsl
    change Row N72 _ 3 a72 1 1 (cellsI [x64])at r72
    refine op_append (nxl rfl) Try.underlying90 Try.underlying90 te92 rfl rfl rb r72.rsl (by first|exact aO|exact bK|exact mem2|exact mem3|exact mem4|exact mem5|exact mem6|exact mem7|exact mem8|exact mem9|exact mem10|exact mem11|exact mem12|exact mem13) (cellsI_oneB _) (by omega) (by omega) bJ rfl (fun N73 a73 p73 r73=>?_)
    have s73:=r73.rsl
    rw [←cellsI_app]at r73
    refine aF (aC rfl) fl92_2 rfl rfl (aG (nxl rfl) sz90 rfl rfl rfl rfl rfl B7 (by simp) bJ (fun N7 B7=>?_))
    simp only [setL,List.set]at B7
    refine aA (bN (aB (s_22 (At.region (bW (aC rfl) rfl rfl (by omega) (by omega) rfl (aD (aC rfl) rfl rfl (aA (aB (At.perm sel13 (At.perm sel13 (At.perm sel13 (At.perm sel13 (At.perm sel13 (At.perm sel13 (At.perm sel13 (At.perm sel13 (At.perm sel11 (At.perm sel11 (At.perm sel11 (At.perm sel11 (At.perm sel12 ?_)))))))))))))))))))))
    refine At.perm sel13 (a0 (fun W W1 W2=>At.sub (L':= [W,N7,N73,N6,Na,NJ,N1,N4,N8,J24,R]) (.cons_cons _ (.cons_cons _ (.cons_cons _ (.cons _ (.cons _ (.cons_cons _ (.cons_cons _ (.cons_cons _ (.cons_cons _ (.cons_cons _ (.cons_cons _ (.cons_cons _ (.cons_cons _ (.slnil)))))))))))))) (At.perm sel10 (At.perm sel10 (At.perm sel10 (At.perm sel10 (At.perm sel10 (At.perm sel10 (At.perm sel10 (At.perm sel10 (At.perm sel8 (At.perm sel10 (At.perm sel10 ?_)))))))))))))
    refine At.back ?_ (.refl _) ⟨i+1,a73,p73,ys2++ [x64],its++ [t64],N7,N73,W,rfl,rfl,rfl,by omega,B7,r73,fun Q hJ hN=>(hy2 Q (Heaplet.le_trans W1 hJ) hN).snoc (j64 Q (Heaplet.le_trans W2 hJ) hN),by rw [take_next2 hgi];exact insAll_snoc hin hin1⟩ ?_
    ·exact .cons (by first|exact bI rfl (by omega)|rfl) (.cons (by first|exact bI rfl (by omega)|rfl) (.cons (by first|exact bI rfl (by omega)|rfl) (.cons (by first|exact bI rfl (by omega)|rfl) (.cons (by first|exact bI rfl (by omega)|rfl) (.cons (by first|exact bI rfl (by omega)|rfl) (.cons (by first|exact bI rfl (by omega)|rfl) (.cons (by first|exact bI rfl (by omega)|rfl) .nil)))))))
    ·omega
   change At _ _ _ [N7,Nb,NK,N6,Na,NJ,N1,N4,N8,J24,R] _
   refine aD (aC rfl) rfl rfl (aI (aC rfl) rfl rfl rfl (aI (aC rfl) rfl rfl rfl (aR (aV rfl) ze92 rfl (fun N15 b15 B15=>?_))))
   change Blk N15 b15 _ [.bool false,.slice none 0 0,.slice none 0 0]at B15
   refine aG (nxl rfl) sz92 rfl rfl rfl rfl rfl B15 (by simp) sel0 (fun N15 B15=>?_)
   simp only [setL,List.set]at B15
   refine aE (aC rfl) rfl rfl (aA (aB (s_24 (At.seq fun _ s_27=>At.seq fun _ s_28=>At.region (aD (aC rfl) rfl rfl (op_not (aC rfl) rfl rfl (aA (aB (s_28 (At.condT rfl (At.seq fun _ s_29=>At.region (aE (aC rfl) rfl rfl (aE (aC rfl) rfl rfl (aA (aB (s_29 (At.ret (aQ (At.inRet (aQ (aQ (At.inRet (aQ ((At.sub (L':= [R]) (.cons _ (.cons _ (.cons _ (.cons _ (.cons _ (.cons _ (.cons _ (.cons _ (.cons _ (.cons _ (.cons _ (.cons_cons _ (.slnil))))))))))))) (aX (L1:= []) rfl (.tmp rfl (.tmp rfl .nil)) rfl (.refl _) (.refl _) ?_))))))))))))))))))))))))))
   exact .inr ⟨wBlk_tx (insAll_none (List.mem_of_getElem? hgi) hin1),rfl,rfl⟩
  obtain rfl:i=m.txs.length:=by omega
  rw [List.take_of_length_le (Nat.le_refl _)]at hin
  refine At.exit (aS (aS (At.inHit (aB (s_18 (At.seq fun _ s_30=>At.region (aJ (ds:= [_,_,_]) (aC rfl) ag92 rfl B4 rfl rfl mem7 rfl (aJ (ds:= [_,_,_]) (aC rfl) ag92 rfl B7 rfl rfl aO rfl (aJ (ds:= [_,_,_]) (aC rfl) ag92 rfl B6 rfl rfl mem3 rfl (op_lit (aV rfl) Try.underlying90 ze92 sz92 (.cons rfl (.cons rfl (.cons rfl .nil))) rfl rfl (by simp [Value.cells]) rfl rfl rfl (fun N79 a79 r79=>?_)))))))))))
  simp only [flatV,List.flatMap_cons,List.flatMap_nil,Value.cells,List.append_nil,List.cons_append,List.nil_append]at r79
  have s79:=r79.rsl
  change Row N79 _ 3 a79 3 3 (cellsI [x24,ivL a2 m.txs.length c2,ivL a m.oms.length c])at r79
  refine aL (aV rfl) (.cons rfl .nil) (FList_b) Try.func36 rfl rfl (by simp) rfl ?_
  rintro v80 L80 ⟨rfl,rfl⟩
  change At _ _ _ [N79,N7,Nb,NK,N6,Na,NJ,N1,N4,N8,J24,R] _
  refine aR (aV rfl) ze92 rfl (fun N17 b17 B17=>?_)
  change Blk N17 b17 _ [.bool false,.slice none 0 0,.slice none 0 0]at B17
  refine aG (nxl rfl) sz92 rfl rfl rfl rfl rfl B17 (by simp) sel0 (fun N17 B17=>?_)
  simp only [setL,List.set]at B17
  refine aA (aB (s_30 (At.seq fun _ s_31=>At.meet (fun fr_ hp_=> ∃(q:Option Addr) (qn qc:Nat) (zs:List IV) (N17 NZ Nc NL:Heaplet),fr_= [(17,.pointer (some ⟨b17,0,none⟩))]∧hp_= [N17,NZ,Nc,NL,Nb,NK,Na,NJ,J24,R]∧(Blk N17 b17 92 [.bool true,.slice none 0 0,.slice q qn qc])∧(Row NZ 92 3 q qn qc (cellsI zs))∧(∀K:Heaplet,Nc.le K→NL.le K→Nb.le K→NK.le K→Na.le K→NJ.le K→J24.le K→N.le K→ItsN K (blkParts m its) zs)) ?_ (fun K31_ jk_31=>?_))))
  rotate_left
  ·skip
   refine At.seq fun _ s_32=>At.region (aF (aC rfl) fl82_3 rfl rfl (aH (aC rfl) sc4 rfl B1 (gk_p hH) mem8 rfl (aA (aB (s_32 (At.condB rfl (fun c82=>?_) (fun c82=>?_)))))))
   ·refine At.seq fun _ s_33=>At.seq fun _ s_34=>At.region (aF (aC rfl) fl82_4 rfl rfl (aH (aC rfl) sc80 rfl B1 (gk_w hH) mem8 rfl (bZ (aC rfl) se80 rfl rfl (aD (aC rfl) rfl rfl (aA (aB (s_34 (At.block (At.empty (At.empty (At.sub (L':= [nilH,nilH,N17,N79,Nb,NK,Na,NJ,N8,J24,R]) (.cons_cons _ (.cons_cons _ (.cons_cons _ (.cons_cons _ (.cons _ (.cons_cons _ (.cons_cons _ (.cons _ (.cons_cons _ (.cons_cons _ (.cons _ (.cons _ (.cons_cons _ (.cons_cons _ (.cons_cons _ (.slnil)))))))))))))))) (At.perm sel10 (At.perm sel10 (At.perm sel9 (At.perm sel9 (At.perm sel9 (At.perm sel9 (At.perm sel9 (At.perm sel9 ?_)))))))))))))))))))
    refine At.perm sel8 (At.perm sel9 (At.perm sel10 (At.loop (fun fr_ hp_ ms_=> ∃(i:Nat) (a3:Option Addr) (c3:Nat) (ys3:List IV) (N8 Nc NL:Heaplet),fr_= [(17,.pointer (some ⟨b17,0,none⟩)),(8,.pointer (some ⟨b8,0,none⟩)),(84,.slice wa m.wds.length wc),(85,.int .i64 (m.wds.length:Int)),(86,.int .i64 (i:Int))]∧hp_= [N8,Nc,NL,N17,N79,Nb,NK,Na,NJ,J24,R]∧m.wds.length- i=ms_∧(i≤m.wds.length)∧(Blk N8 b8 92 [.bool true,.slice none 0 0,.slice a3 i c3])∧(Row Nc 92 3 a3 i c3 (cellsI ys3))∧(∀K:Heaplet,NL.le K→ItsN K ((m.wds.take i).map wdI) ys3)) ?_ (.refl _) ⟨0,none,0,[],N8,nilH,nilH,rfl,rfl,rfl,Nat.zero_le _,B8,Row.nil _ _ _,fun K _=>ItsN_nil⟩ ?_)))
    ·exact .cons (by first|exact bI rfl (by omega)|rfl) (.cons (by first|exact bI rfl (by omega)|rfl) (.cons (by first|exact bI rfl (by omega)|rfl) (.cons (by first|exact bI rfl (by omega)|rfl) (.cons (by first|exact bI rfl (by omega)|rfl) .nil))))
    rintro _ _ _ ⟨i,a3,c3,ys3,N8,Nc,NL,rfl,rfl,rfl,hi,B8,rc,hy3⟩
    refine At.seq fun _ s_35=>At.region (op_lss (aC rfl) rfl rfl rfl (aA (aB (s_35 (At.seq fun _ s_36=>aN rfl (fun c87=>?_) (fun c87=>?_))))))
    ·have hlt:i<m.wds.length:=by omega
     obtain⟨w,hgi⟩: ∃w,m.wds[i]? =some w:=⟨_,List.getElem?_eq_getElem hlt⟩
     have hwa:=hwd w (List.mem_of_getElem? hgi)
     have hwl:=wdC_len (i:=w.ix) (v:=w.va) (m:=w.am) hwa
     have hwc: ∀x∈m.wds,(WdM.cells x).length=23:=fun x hx=>wdC_len (hwd x hx)
     refine At.skip (aB (s_36 (At.seq fun _ s_37=>At.block (At.seq fun _ s_38=>At.region (op_idxE (aC rfl) se80 rfl rfl hW' (show _=(((i:Nat)):Int)from by omega) (by omega) rfl ?_)))))
     refine op_loadAggE (ds:=wdC w.ix w.va w.ad w.am) (aC rfl) ag48 rfl hW' (by exact flat_at WdM.cells hwc hgi) (by exact hwl) (by omega) (by first|exact aO|exact bK|exact mem2|exact mem3|exact mem4|exact mem5|exact mem6|exact mem7|exact mem8|exact mem9|exact mem10) rfl ?_
     refine aR (aV rfl) ze48 rfl (fun N19 b19 B19=>?_)
     change Blk N19 b19 _ [.int .u64 0,.int .u64 0,.int .u8 0,.int .u8 0,.int .u8 0,.int .u8 0,.int .u8 0,.int .u8 0,.int .u8 0,.int .u8 0,.int .u8 0,.int .u8 0,.int .u8 0,.int .u8 0,.int .u8 0,.int .u8 0,.int .u8 0,.int .u8 0,.int .u8 0,.int .u8 0,.int .u8 0,.int .u8 0,.int .u64 0]at B19
     refine aG (nxl rfl) sz48 rfl rfl rfl hwl wdC_one B19 (by rw [hwl];exact Nat.le_refl _) sel0 (fun N19 B19=>?_)
     rw [aW (by rw [hwl];rfl)]at B19
     refine aA (aB (s_38 (At.perm sel11 (At.perm bB (At.perm bB (At.perm sel11 (At.perm sel11 (At.perm sel11 (At.perm sel11 (At.perm sel11 (At.perm sel11 (At.perm sel11 (At.perm sel11 (At.perm sel11 (At.drawnS [N19,N8,R] [5,7] [] [0,1,2,3,4,5,6,7] (by kernel_rfl) (by kernel_rfl) (.cons _ (.cons _ (.cons _ (.cons _ (.cons _ (.cons _ (.cons _ (.cons _ (.cons _ (.refl _)))))))))) (aF (bM rfl rfl rfl) fl92_2 rfl rfl (aH (bM rfl rfl rfl) sc90 rfl B8 (by first|rfl) bK rfl ?_)))))))))))))))))
     refine aJ (ds:=wdC w.ix w.va w.ad w.am) (bM rfl rfl rfl) ag48 rfl B19 (by exact tk_all hwl) (by exact hwl) aO rfl ?_
     refine aL (Nx.agree (nxsm rfl rfl rfl)) (.cons rfl .nil) (FPaid_b hwa) Try.func54 rfl rfl (by simp) rfl ?_
     rintro v93 L93 ⟨J93,x93,rfl,rfl,j93⟩
     change At _ _ _ [J93,Nc,NL,N17,N79,Nb,NK,Na,NJ,J24,N19,N8,R] _
     change At _ ((93,.agg #[.bool x93.l,.slice x93.ab x93.nb x93.cb,.slice x93.ai x93.ni x93.ci])::_) _ _ _
     refine At.moreS (Lst:= [N19,N8,R]) (Lst':= [N19,N8,R]) (.refl _) (.cons _ (.cons _ (.cons _ (.cons _ (.cons _ (.cons _ (.cons _ (.cons _ (.cons _ (.cons _ (.refl _))))))))))) (op_lit (Nx.agree (nxsm rfl rfl rfl)) Try.underlying90 ze92 sz92 (.cons rfl .nil) rfl rfl (by simp [Value.cells]) rfl rfl rfl (fun N94 a94 r94=>?_))
     simp only [flatV,List.flatMap_cons,List.flatMap_nil,Value.cells,List.append_nil,List.cons_append,List.nil_append]at r94
     have s94:=r94.rsl
     refine At.moreS (Lst:= [N19,N8,R]) (Lst':= [N19,N8,R]) (.refl _) (.cons _ (.cons _ (.cons _ (.cons _ (.cons _ (.cons _ (.cons _ (.cons _ (.cons _ (.cons _ (.cons _ (.refl _)))))))))))) ?_
     change Row N94 _ 3 a94 1 1 (cellsI [x93])at r94
     refine op_append (nxss rfl rfl rfl rfl) Try.underlying90 Try.underlying90 te92 rfl rfl rc r94.rsl (by first|exact aO|exact bK|exact mem2|exact mem3|exact mem4|exact mem5|exact mem6|exact mem7|exact mem8|exact mem9) (cellsI_oneB _) (by omega) (by omega) bB rfl (fun N95 a95 p95 r95=>?_)
     have s95:=r95.rsl
     refine At.anyS (.refl _) ?_
     rw [←cellsI_app]at r95
     refine aF (bM rfl rfl rfl) fl92_2 rfl rfl (aG (nxsl rfl rfl rfl rfl) sz90 rfl rfl rfl rfl rfl B8 (by simp) sel12 (fun N8 B8=>?_))
     simp only [setL,List.set]at B8
     refine At.sNil (bN (aB (s_37 (At.region (bW (aC rfl) rfl rfl (by omega) (by omega) rfl (aD (aC rfl) rfl rfl (aA (aB (At.perm sel13 (At.perm sel13 (At.perm sel13 (At.perm sel13 (At.perm sel13 (At.perm sel13 (At.perm sel13 (At.perm sel13 (At.perm sel13 (At.perm sel11 (At.perm sel11 (At.perm sel11 (At.perm sel12 ?_)))))))))))))))))))))
     refine At.perm sel13 (a0 (fun W W1 W2=>At.sub (L':= [W,N8,N95,N17,N79,Nb,NK,Na,NJ,J24,R]) (.cons_cons _ (.cons_cons _ (.cons_cons _ (.cons _ (.cons_cons _ (.cons_cons _ (.cons_cons _ (.cons_cons _ (.cons_cons _ (.cons_cons _ (.cons_cons _ (.cons _ (.cons_cons _ (.slnil)))))))))))))) (At.perm sel10 (At.perm sel10 (At.perm sel10 (At.perm sel10 (At.perm sel10 (At.perm sel10 (At.perm sel10 (At.perm sel10 (At.perm sel8 (At.perm sel10 (At.perm sel10 ?_)))))))))))))
     refine At.back ?_ (.refl _) ⟨i+1,a95,p95,ys3++ [x93],N8,N95,W,rfl,rfl,rfl,by omega,B8,r95,by rw [take_next2 hgi,List.map_append];exact fun Q hJ=>(hy3 Q (Heaplet.le_trans W1 hJ)).snoc (j93.le (Heaplet.le_trans W2 hJ))⟩ ?_
     ·exact .cons (by first|exact bI rfl (by omega)|rfl) (.cons (by first|exact bI rfl (by omega)|rfl) (.cons (by first|exact bI rfl (by omega)|rfl) (.cons (by first|exact bI rfl (by omega)|rfl) (.cons (by first|exact bI rfl (by omega)|rfl) .nil))))
     ·omega
    obtain rfl:i=m.wds.length:=by omega
    rw [List.take_of_length_le (Nat.le_refl _)]at hy3
    refine At.exit (aS (aS (At.inHit (aB (s_33 (At.region (aF (aC rfl) fl92_2 rfl rfl (aH (aC rfl) sc90 rfl B17 (by first|rfl) mem3 rfl ?_))))))))
    refine aJ (ds:= [_,_,_]) (aC rfl) ag92 rfl B8 rfl rfl aO rfl (op_lit (aV rfl) Try.underlying90 ze92 sz92 (.cons rfl .nil) rfl rfl (by simp [Value.cells]) rfl rfl rfl (fun N101 a101 r101=>?_))
    simp only [flatV,List.flatMap_cons,List.flatMap_nil,Value.cells,List.append_nil,List.cons_append,List.nil_append]at r101
    have s101:=r101.rsl
    change Row N101 _ 3 a101 1 1 (cellsI [ivL a3 m.wds.length c3])at r101
    refine op_append (nxl rfl) Try.underlying90 Try.underlying90 te92 rfl rfl r79 r101.rsl (by first|exact aO|exact bK|exact mem2|exact mem3|exact mem4|exact mem5|exact mem6|exact mem7|exact mem8|exact mem9|exact mem10|exact mem11) (cellsI_oneB _) (by omega) (by omega) bL rfl (fun N102 a102 p102 r102=>?_)
    have s102:=r102.rsl
    rw [←cellsI_app]at r102
    refine aF (aC rfl) fl92_2 rfl rfl (aG (nxl rfl) sz90 rfl rfl rfl rfl rfl B17 (by simp) bL (fun N17 B17=>?_))
    simp only [setL,List.set]at B17
    refine aA (At.sub (L':= [N17,N102,Nc,NL,Nb,NK,Na,NJ,J24,R]) (.cons_cons _ (.cons_cons _ (.cons _ (.cons _ (.cons_cons _ (.cons_cons _ (.cons_cons _ (.cons_cons _ (.cons_cons _ (.cons_cons _ (.cons_cons _ (.cons_cons _ (.slnil))))))))))))) ?_)
    refine aB (jk_31 ?_ (.refl _) ⟨a102,3+1,p102,_,N17,N102,Nc,NL,rfl,rfl,B17,r102,fun K h1 h2 h3 h4 h5 h6 h7 h8=>by rw [blkParts,if_pos c82];exact bV (j24 K h7 h8) (bV (ItN_L (rb.rsl.le h3) (hy2 K h4 h8)) (bV (ItN_L (ra.rsl.le h5) (hy K h6 h8)) (bV (ItN_L (rc.rsl.le h1) (hy3 K h2)) ItsN_nil)))⟩)
    exact .cons (by first|exact bI rfl (by omega)|rfl) .nil
   refine At.skip (At.empty (At.empty (At.sub (L':= [nilH,nilH,N17,N79,Nb,NK,Na,NJ,J24,R]) (.cons_cons _ (.cons_cons _ (.cons_cons _ (.cons_cons _ (.cons _ (.cons_cons _ (.cons_cons _ (.cons _ (.cons_cons _ (.cons_cons _ (.cons _ (.cons _ (.cons _ (.cons_cons _ (.cons_cons _ (.slnil)))))))))))))))) (At.perm sel9 (At.perm sel9 (At.perm sel9 (At.perm sel9 (At.perm sel9 (At.perm sel9 (At.perm bP (At.perm sel7 (At.perm sel9 (At.perm sel9 ?_)))))))))))))
   refine aB (jk_31 ?_ (.refl _) ⟨a79,3,3,_,N17,N79,nilH,nilH,rfl,rfl,B17,r79,fun K h1 h2 h3 h4 h5 h6 h7 h8=>by rw [blkParts,if_neg (by rw [c82];decide)];exact bV (j24 K h7 h8) (bV (ItN_L (rb.rsl.le h3) (hy2 K h4 h8)) (bV (ItN_L (ra.rsl.le h5) (hy K h6 h8)) ItsN_nil))⟩)
   exact .cons (by first|exact bI rfl (by omega)|rfl) .nil
  rintro _ _ ⟨q,qn,qc,zs,N17,NZ,Nc,NL,rfl,rfl,B17,rz,hZ⟩
  refine s_31 (At.seq fun _ s_39=>At.region (aJ (ds:= [_,_,_]) (aC rfl) ag92 rfl B17 rfl rfl aO rfl (aL (aV rfl) (.cons rfl .nil) (Fn.overJ (Ns:= [NZ,Nc,NL,Nb,NK,Na,NJ,J24,R]) fun K hK=>Encode_f (t:=blkIt m its) (x:=ivL q qn qc) (ItN_L (rz.rsl.le (hK _ (by simp))) (hZ K (hK _ (by simp)) (hK _ (by simp)) (hK _ (by simp)) (hK _ (by simp)) (hK _ (by simp)) (hK _ (by simp)) (hK _ (by simp)) (Heaplet.le_trans hNR (hK _ (by simp))))) (hl its hin)) Try.func86 rfl rfl (by simp) rfl ?_)))
  rintro v106 L106 (⟨M106,p106,c106,rfl,rfl,r106,hdp⟩|⟨rfl,rfl,hdp⟩)
  ·change At _ _ _ [M106,N17,NZ,Nc,NL,Nb,NK,Na,NJ,J24,R] _
   refine aD (aC rfl) rfl rfl (aI (aC rfl) rfl rfl rfl (aI (aC rfl) rfl rfl rfl (aE (aC rfl) rfl rfl (aE (aC rfl) rfl rfl (aA (aB (s_39 (At.seq fun _ s_40=>At.seq fun _ s_41=>At.region (aD (aC rfl) rfl rfl (op_neq (aC rfl) rfl rfl rfl (aA (aB (s_41 (aN rfl (fun c110=>?_) (fun c110=>?_)))))))))))))))
   ·exact absurd rfl c110
   refine At.skip (aB (s_40 (At.seq fun _ s_42=>At.region (aD (aC rfl) rfl rfl (aE (aC rfl) rfl rfl (aE (aC rfl) rfl rfl (aA (aB (s_42 (At.ret ((At.sub (L':= [M106,R]) (.cons_cons _ (.cons _ (.cons _ (.cons _ (.cons _ (.cons _ (.cons _ (.cons _ (.cons _ (.cons _ (.cons_cons _ (.slnil)))))))))))) (aX (L1:= [M106]) rfl (.tmp rfl (.tmp rfl .nil)) rfl (.refl _) (.refl _) ?_)))))))))))))
   exact .inl ⟨_,M106,p106,c106,wBlk_ok hok hfo hin (by omega),rfl,rfl,r106⟩
  change At _ _ _ [N17,NZ,Nc,NL,Nb,NK,Na,NJ,J24,R] _
  refine aD (aC rfl) rfl rfl (aI (aC rfl) rfl rfl rfl (aI (aC rfl) rfl rfl rfl (aE (aC rfl) rfl rfl (aE (aC rfl) rfl rfl (aA (aB (s_39 (At.seq fun _ s_43=>At.seq fun _ s_44=>At.region (aD (aC rfl) rfl rfl (op_neq (aC rfl) rfl rfl rfl (aA (aB (s_44 (aN rfl (fun c110=>?_) (fun c110=>?_)))))))))))))))
  rotate_left
  ·exact absurd (show ¬((7:Int)=0) by decide) c110
  refine At.seq fun _ s_45=>At.region (aE (aC rfl) rfl rfl (aE (aC rfl) rfl rfl (aA (aB (s_45 (At.ret (aQ ((At.sub (L':= [R]) (.cons _ (.cons _ (.cons _ (.cons _ (.cons _ (.cons _ (.cons _ (.cons _ (.cons _ (.cons_cons _ (.slnil))))))))))) (aX (L1:= []) rfl (.tmp rfl (.tmp rfl .nil)) rfl (.refl _) (.refl _) ?_))))))))))
  exact .inr ⟨wBlk_dp hin (by omega),rfl,rfl⟩
 change At _ _ _ [N1,R] _
 refine aD (aC rfl) rfl rfl (aI (aC rfl) rfl rfl rfl (aI (aC rfl) rfl rfl rfl (aR (aV rfl) ze92 rfl (fun N4 b4 B4=>?_))))
 change Blk N4 b4 _ [.bool false,.slice none 0 0,.slice none 0 0]at B4
 refine aG (nxl rfl) sz92 rfl rfl rfl rfl rfl B4 (by simp) sel0 (fun N4 B4=>?_)
 simp only [setL,List.set]at B4
 refine aE (aC rfl) rfl rfl (aA (aB (s_2 (At.seq fun _ s_46=>At.seq fun _ s_47=>At.region (aD (aC rfl) rfl rfl (op_neq (aC rfl) rfl rfl rfl (aA (aB (s_47 (aN rfl (fun c28=>?_) (fun c28=>?_)))))))))))
 rotate_left
 ·exact absurd (show ¬((1:Int)=0) by decide) c28
 refine At.seq fun _ s_48=>At.region (aD (aC rfl) rfl rfl (aE (aC rfl) rfl rfl (aE (aC rfl) rfl rfl (aA (aB (s_48 (At.ret (aQ ((At.sub (L':= [R]) (.cons _ (.cons _ (.cons_cons _ (.slnil)))) (aX (L1:= []) rfl (.tmp rfl (.tmp rfl .nil)) rfl (.refl _) (.refl _) ?_)))))))))))
 exact .inr ⟨wBlk_hd hbad,rfl,rfl⟩
end
end Go.Proofs.Ytljacjjeinmfnaa
