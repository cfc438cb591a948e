/- Several texts in one: see the remarks ahead of each part. No condition but those told there. -/
import Derived.Test.YtalmjkcapecpiaaGreatX1
import Derived.Test.YtalmjkcapecpiaaGreatX16
import Derived.Test.YtalmjkcapecpiaaGreatX15
import Derived.Test.YtalmjkcapecpiaaGreatX11
set_option linter.unusedSimpArgs false
set_option linter.unusedVariables false
namespace Go.Proofs.YtalmjkcapecpiaaGreat
open Go Go.RowKit
set_option maxRecDepth 100000
section
variable {N K : Heaplet} {blk mb c : Nat} {D : DataW Value}
theorem FKeys:Fn Tryz.prog 110 #[.map (some mb)] [] [] (fun v L=> ∃N b,v=.func (.func 123) #[] #[.pointer (some ⟨b,0,none⟩)]∧L= [N]∧Blk N b 153 [.map (some mb)]):=by
 refine Fn.enter (vs:= [.map (some mb)]) Tryz.func110 U U U ?_
 intro E R hR
 change At _ _ E [R] _
 refine aH fun _ s_1=>aB (cU bT U U U (fun N1 b1 B1=>bV U U (aI (s_1 (aH fun _ s_2=>aB (op_mkF aN .nil (.cons U .nil) U (bV U U (aI (s_2 (cK ((cF (L1:= [N1]) U (.tmp U .nil) (.refl _) aZ ?_))))))))))))
 exact⟨N1,b1,rfl,rfl,B1⟩
theorem kecM (R0:List PR):(u8s (rootM R0)).length=32:=kec8 _
theorem pairs_snoc {J:Heaplet} {R0:List PR} {ks:List (List UInt8)} {k:List UInt8} {ys:List PV} {a va:Option Addr} {cp vn vc:Nat} (h:PsN J (prs (byKeys R0 ks)) ys) (hr:RSl J 1 a (2*k.length) cp (u8s (nibs k))) (hvn:vn=((getR R0 k).getD []).length) (hv:RSl J 1 va vn vc (u8s ((getR R0 k).getD []))):PsN J (prs (byKeys R0 (ks++ [k]))) (ys++ [⟨a,2*k.length,cp,va,vn,vc⟩]):=by
 have e:prs (byKeys R0 (ks++ [k]))=prs (byKeys R0 ks)++ [(nibs k,(getR R0 k).getD [])]:=by simp [prs,byKeys]
 rw [e]
 exact h.snoc ⟨(nibs_length k).symm,hr,hvn,hv⟩
def keysS (D:DataW Value):List (List UInt8):=(strKeys D).mergeSort (fun x y=>decide (x≤y))
theorem FSorted (B:Blk N blk 153 [.map (some mb)]) (hM:MapV Tryz.prog 9 K mb c D) (hs:Maps.size D≤1000000):Fn Tryz.prog 109 #[.func (.func 123) #[] #[.pointer (some ⟨blk,0,none⟩)]] [] [N,K] (fun v L=> ∃M a cp,v=.slice a ((keysS D).map str).length cp∧L= [M]∧Row M 9 1 a ((keysS D).map str).length cp ((keysS D).map str)):=by
 refine Fn.of_ownb (e:=9) (xs:=(keysS D).map str) fun w hr=>?_
 have hcell:w.cell? ⟨blk,0,none⟩=some (.map (some mb)):=by
  have h1:=hr N (by simp) _ _ B
  have h2:w.heap[blk]? =some (.cells #[.map (some mb)] 153 (0,0)):=h1
  simp [World.cell?,h2]
 have hlt:blk<w.heap.size:=by
  have h1:=hr N (by simp) _ _ B
  exact(Array.getElem?_eq_some_iff.1 h1).1
 obtain⟨es,clock,hNb,hown⟩:=hM
 have hown:=hown w (hr K (by simp) _ _ hNb)
 have hseq:SeqGives Fence.wide 2 Tryz.prog 123 #[.pointer (some ⟨blk,0,none⟩)] encStr (fun ss=>ss.Perm (strKeys D)) (Maps.size D) w:=
  AnyZ.keys_gives (ρ:=Tryz.keys110_ren) { Tryz.keys110 with } Fence.wide _ trivial rfl (by omega) blk mb c D w hlt hcell hown
 have hS:=AnyZ.sorted_in Tryz.sorted109 Fence.wide 5 trivial trivial trivial trivial rfl (by omega) (Tryz.sorts109 _) (enters_of Tryz.func122 (by kernel_rfl) rfl) 123 #[.pointer (some ⟨blk,0,none⟩)] trivial (enters_of Tryz.func123 (by kernel_rfl) rfl) _ _ (by unfold maxLen;omega) (by omega) _ hseq
 refine(callsIn_wide.1 hS).mono ?_
 rintro e w' ⟨v,ss,rfl,hp,hrow,_,hb⟩
 have es2:(ss.mergeSort (fun x y=>decide (x≤y)))=keysS D:=mergeSort_of_perm hp
 rw [es2]at hrow
 have hl:ss.length=((keysS D).map str).length:=by rw [List.length_map,keysS,List.length_mergeSort];exact hp.length_eq
 rw [hl]at hrow
 obtain⟨ao,cap,rfl⟩:=owns_form hrow
 exact⟨_,rfl,⟨ao,cap,rfl,hrow⟩,hb⟩
theorem keysS_perm {w:World} {R0:List PR} (hown:w.ownsMap Tryz.prog 9 heldV mb c D) (hI:MapIs D K R0):(keysS D).Perm (R0.map Prod.fst):=by
 obtain⟨es,hD,hpw,_⟩:=hown.entries (Maps.string_keyed Tryz.underlying9)
 obtain⟨es',hD',hko⟩:=hown.keysOf
 obtain rfl:es=es':=by rw [hD]at hD';simpa using hD'
 have hh:=hI.has
 have hdis:=hI.dis
 subst hD
 have h1:=perm_strKeys (ss:=R0.map Prod.fst) hpw (fun p hp=>by obtain⟨v,hv⟩:=hko p hp;obtain⟨x,_,hx,_⟩:=Maps.keyOf_str Tryz.underlying9 hv;exact⟨x,hx⟩) hdis fun x=>by
  rw [hh x,has_iff,List.mem_map]
  constructor
  ·rintro⟨p,hp,rfl⟩;exact⟨p.2,hp⟩
  ·rintro⟨v,hv⟩;exact⟨(x,v),hv,rfl⟩
 exact(List.mergeSort_perm _ _).trans h1.symm
def PairsO (Nt:Heaplet) (R0:List PR) (v:Value) (L:List Heaplet):Prop:= ∃M a cp, ∃xs:List PV, ∃S:List PR,v=.slice a xs.length cp∧L= [M]∧S.Perm R0∧PsL [M,Nt] 81 (prs S) xs a xs.length cp
set_option maxHeartbeats 2000000 in
theorem FPairs0 {Nt:Heaplet} {bt:Nat} {R0:List PR} (Bt:Blk Nt bt 155 [.map (some mb)]) (hM:MapV Tryz.prog 9 Nt mb c D) (hI:MapIs D Nt R0) (hG:Good R0) (hkp:(keysS D).Perm (R0.map Prod.fst)) (hc:R0.length≤1000000):Fn Tryz.prog 86 #[.pointer (some ⟨bt,0,none⟩)] [] [Nt] (PairsO Nt R0):=by
 obtain⟨ks,hks⟩: ∃ks,keysS D=ks:=⟨_,rfl⟩
 have hkl:ks.length=R0.length:=by rw [←hks,hkp.length_eq,List.length_map]
 have hsz:=hI.size
 have hsort:Ris (byKeys R0 ks):=byKeys_ris (by rw [←hks];exact keys_sorted) (by rw [←hks];exact hkp.nodup_iff.2 hI.dis)
 have hperm:(byKeys R0 ks).Perm R0:=byKeys_perm hI.dis (by rw [←hks];exact hkp)
 have hkk: ∀k∈ks,k.length≤40:=fun k hk=>by
  rw [←hks]at hk
  obtain⟨p,hp,rfl⟩:=List.mem_map.1 (hkp.mem_iff.1 hk)
  exact hG.key p hp
 refine Fn.enter (vs:= [.pointer (some ⟨bt,0,none⟩)]) Tryz.func86 U U U ?_
 intro E R hR
 have hle:=hR Nt (by simp)
 have BR:=Bt.le hle
 have hM:=hM.le hle
 change At _ _ E [R] _
 refine aH fun _ s_1=>aB (bV U U (aI (s_1 (aH fun _ s_2=>aB (bV U U (aI (s_2 (aH fun _ s_3=>aH fun _ s_4=>aB (bC U U (bH aN U U (aJ aN fl155_0 U U (aU aN sc153 U BR U cO U ?_))))))))))))
 refine bG bT (.cons U .nil) (FKeys) Tryz.func110 U U (by simp) U ?_
 rintro _ _ ⟨N10,b10,rfl,rfl,B10⟩
 show At _ _ _ [N10,R] _
 refine bG bT (.cons U .nil) (FSorted B10 hM (by omega)) Tryz.func109 U U (by simp) U ?_
 rintro _ _ ⟨N11,a11,c11,rfl,rfl,r11⟩
 show At _ _ _ [N11,N10,R] _
 rw [hks]at r11⊢;have s11:=r11.rsl;have hn:(ks.map str).length=R0.length:=by rw [List.length_map,hkl]
 refine dB aN se167 U U (bC U U (aI (s_4 (bX ?_))))
 obtain⟨n,hnn⟩: ∃n,(ks.map str).length=n:=⟨_,rfl⟩
 rw [hnn]at s11 hn⊢
 have hkn:ks.length=n:=by rw [←hnn,List.length_map]
 have hcp:=s11.cap63
 refine At.empty (At.empty (dropAt3 (bI (bI (bF (bI (At.loop (fun fr_ hp_ ms_=> ∃(i m:Nat) (a:Option Addr) (cp:Nat) (ys:List PV) (Na NJ:Heaplet),fr_= [(0,.pointer (some ⟨bt,0,none⟩)),(3,.slice a m cp),(11,.slice a11 n c11),(12,.int .i64 (n:Int)),(13,.int .i64 (i:Int))]∧hp_= [Na,NJ,N11,R]∧n- i=ms_∧(i≤n)∧(m=i)∧(Row Na 173 2 a m cp (cellsP ys))∧(∀J:Heaplet,NJ.le J→Nt.le J→PsN J (prs (byKeys R0 (ks.take i))) ys)) ?_ aZ ⟨0,0,none,0,[],nilH,nilH,rfl,rfl,rfl,Nat.zero_le _,rfl,Row.nil _ _ _,fun J _ _=>PsN.nil _⟩ ?_)))))))
 ·repeat first|apply cW|exact .nil|exact lkI rfl (by omega)|rfl
 rintro _ _ _ ⟨i,m,a,cp,ys,Na,NJ,rfl,rfl,rfl,hi,hmi,ra,hy⟩
 refine aH fun _ s_5=>aB (op_lss aN U U U (aI (s_5 (aH fun _ s_6=>cD U (fun c14=>?_) (fun c14=>?_)))))
 ·obtain⟨k,hki⟩: ∃k,ks[i]? =some k:=⟨_,List.getElem?_eq_getElem (by omega)⟩
  have hld:(ks.map str)[i]? =some (str k):=by rw [List.getElem?_map,hki];rfl
  have hk40:=hkk k (List.mem_of_getElem? hki)
  have hkey:keyOf Tryz.prog 9 (str k)=some (.string k):=keyOf_strV Tryz.underlying9 (by unfold maxLen;omega)
  obtain⟨va,vn,vc,hat,hvn,hvr⟩:=hI.look k
  refine cG (aS (s_6 (aH fun _ s_7=>bX (aH fun _ s_8=>aB (op_idx1 aN se167 U U s11 (show _=(((i:Nat)):Int)from by omega) (by omega) U ?_)))))
  refine op_loadE aN sc9 U s11 (by first|exact get8 (by omega)|exact get64 (by omega)|exact get32 (by omega)|exact hld) (by simp) U ?_
  refine bV U U (aI (s_8 (bF (bI (bI (bI (At.planS [R,N11] (.take 0 (.take 1 (.take 4 (.take 5 (.take 6 (.take 7 (.take 8 (.fork 2 false (.fork 3 false (.fork 9 false (.take 10 (.fork 11 false (.fork 12 true (.take 13 .done) .nofork) .nofork)) .nofork) (.fork 9 false (.fork 3 false (.take 10 (.fork 11 false (.fork 12 true (.take 13 .done) .nofork) .nofork)) .nofork) .nofork)) (.fork 9 false (.fork 2 false (.fork 3 false (.take 10 (.fork 11 false (.fork 12 true (.take 13 .done) .nofork) .nofork)) .nofork) .nofork) .nofork))))))))) (by kernel_rfl) (by kernel_rfl) (.cons _ (.cons _ (.refl _))) (aR (nxpf U U) U U (aR (nxpf U U) U U (aR (nxpf U U) U U (bH (nxpf U U) U U (aJ (nxpf U U) fl155_0 U U (aU (nxpf U U) sc153 U BR U cO U ?_)))))))))))))
  refine aR (nxpf U U) U U (At.fork ?_ ?_)
  rotate_left
  ·refine At.fork ?_ ?_
   rotate_left
   ·exact At.pNo
   refine op_lookupV1 (Nx.agree (nxpa U U)) (Maps.string_keyed Tryz.underlying9) Tryz.underlying153 (fun _=>by first|rfl|kernel_rfl) U U hM hkey (hat) (by simp) U ?_
   refine At.andS (.cons _ (.cons _ (.refl _))) (At.fork ?_ ?_)
   rotate_left
   ·exact At.pNo
   refine op_strB (bs:=k) (Nx.agree (nxpa U U)) Tryz.underlying9 Tryz.underlying37 Tryz.underlying5 U (by omega) U (fun N19 b19 p19 m19=>?_)
   have s19:=m19.rsl
   refine At.andS (.cons _ (.cons _ (.cons _ (.refl _)))) (At.fork ?_ ?_)
   rotate_left
   ·exact At.pNo
   refine bG (Nx.agree (nxpa U U)) (.cons U .nil) (FNibs s19 (by omega)) Tryz.func111 U U (by simp) U ?_
   rintro _ _ ⟨M20,a20,c20,rfl,rfl,r20⟩
   show At _ _ _ [M20,N19,Na,NJ,R,N11] _
   refine At.andS (.cons _ (.cons _ (.cons _ (.cons _ (.refl _))))) (op_build (out:= [_,_]) (nxpf U U) ze173 pl173 (.cons U (.cons U .nil)) U U (At.fork ?_ ?_))
   rotate_left
   ·exact At.pNo
   refine op_lit (Nx.agree (nxpa U U)) Tryz.underlying142 ze173 sz173 (.cons U .nil) U U (by simp [Value.cells]) U U U (fun N28 a28 r28=>?_)
   simp only [flatV,List.flatMap_cons,List.flatMap_nil,Value.cells,List.append_nil,List.cons_append,List.nil_append]at r28
   have s28:=r28.rsl
   refine At.andS (.cons _ (.cons _ (.cons _ (.cons _ (.cons _ (.refl _)))))) (At.fork ?_ ?_)
   rotate_left
   ·exact At.pNo
   change Row N28 _ 2 a28 1 1 (cellsP [⟨a20,2*k.length,c20,va,vn,vc⟩])at r28
   have s28:=r28.rsl
   refine op_append (nxpa U U) Tryz.underlying142 Tryz.underlying142 te173 U U ra s28 (by simp) (cellsP_one _) (by omega) (by omega) sel3 U (fun N29 a29 p29 r29=>?_)
   have s29:=r29.rsl
   refine At.andS (.cons _ (.cons _ (.cons _ (.cons _ (.cons _ (.refl _)))))) ?_
   rw [←cellsP_app]at r29
   refine cZ (nxpf U U) U U (At.pDone (cJ (aS (s_7 (aB (dD aN U U (by omega) (by omega) U (bC U U (aI (aY (aY (bS (bA (bA (bS (aY (cV (fun J J1 J2=>dropAt3 (dropAt2 (bF (bI (bF (bI ?_))))))))))))))))))))))
   refine At.back ?_ aZ ⟨i+1,m+1,a29,p29,ys++ [⟨a20,2*k.length,c20,va,vn,vc⟩],N29,J,rfl,rfl,rfl,by omega,by omega,r29,fun J' h1 h2=>by rw [take_next1 hki];exact pairs_snoc (hy J' (Heaplet.le_trans J1 h1) h2) (r20.rsl.le (Heaplet.le_trans J2 h1)) hvn (hvr.le h2)⟩ ?_
   ·repeat first|apply cW|exact .nil|exact lkI rfl (by omega)|rfl
   ·omega
  refine op_strB (bs:=k) (Nx.agree (nxpa U U)) Tryz.underlying9 Tryz.underlying37 Tryz.underlying5 U (by omega) U (fun N19 b19 p19 m19=>?_)
  have s19:=m19.rsl
  refine At.andS (.cons _ (.cons _ (.cons _ (.refl _)))) (At.fork ?_ ?_)
  rotate_left
  ·refine At.fork ?_ ?_
   rotate_left
   ·exact At.pNo
   refine op_lookupV1 (Nx.agree (nxpa U U)) (Maps.string_keyed Tryz.underlying9) Tryz.underlying153 (fun _=>by first|rfl|kernel_rfl) U U hM hkey (hat) (by simp) U ?_
   refine At.andS (.cons _ (.cons _ (.cons _ (.refl _)))) (At.fork ?_ ?_)
   rotate_left
   ·exact At.pNo
   refine bG (Nx.agree (nxpa U U)) (.cons U .nil) (FNibs s19 (by omega)) Tryz.func111 U U (by simp) U ?_
   rintro _ _ ⟨M20,a20,c20,rfl,rfl,r20⟩
   show At _ _ _ [M20,N19,Na,NJ,R,N11] _
   refine At.andS (.cons _ (.cons _ (.cons _ (.cons _ (.refl _))))) (op_build (out:= [_,_]) (nxpf U U) ze173 pl173 (.cons U (.cons U .nil)) U U (At.fork ?_ ?_))
   rotate_left
   ·exact At.pNo
   refine op_lit (Nx.agree (nxpa U U)) Tryz.underlying142 ze173 sz173 (.cons U .nil) U U (by simp [Value.cells]) U U U (fun N28 a28 r28=>?_)
   simp only [flatV,List.flatMap_cons,List.flatMap_nil,Value.cells,List.append_nil,List.cons_append,List.nil_append]at r28
   have s28:=r28.rsl
   refine At.andS (.cons _ (.cons _ (.cons _ (.cons _ (.cons _ (.refl _)))))) (At.fork ?_ ?_)
   rotate_left
   ·exact At.pNo
   change Row N28 _ 2 a28 1 1 (cellsP [⟨a20,2*k.length,c20,va,vn,vc⟩])at r28
   have s28:=r28.rsl
   refine op_append (nxpa U U) Tryz.underlying142 Tryz.underlying142 te173 U U ra s28 (by simp) (cellsP_one _) (by omega) (by omega) sel3 U (fun N29 a29 p29 r29=>?_)
   have s29:=r29.rsl
   refine At.andS (.cons _ (.cons _ (.cons _ (.cons _ (.cons _ (.refl _)))))) ?_
   rw [←cellsP_app]at r29
   refine cZ (nxpf U U) U U (At.pDone (cJ (aS (s_7 (aB (dD aN U U (by omega) (by omega) U (bC U U (aI (aY (aY (bS (bA (bA (bS (aY (cV (fun J J1 J2=>dropAt3 (dropAt2 (bF (bI (bF (bI ?_))))))))))))))))))))))
   refine At.back ?_ aZ ⟨i+1,m+1,a29,p29,ys++ [⟨a20,2*k.length,c20,va,vn,vc⟩],N29,J,rfl,rfl,rfl,by omega,by omega,r29,fun J' h1 h2=>by rw [take_next1 hki];exact pairs_snoc (hy J' (Heaplet.le_trans J1 h1) h2) (r20.rsl.le (Heaplet.le_trans J2 h1)) hvn (hvr.le h2)⟩ ?_
   ·repeat first|apply cW|exact .nil|exact lkI rfl (by omega)|rfl
   ·omega
  refine bG (Nx.agree (nxpa U U)) (.cons U .nil) (FNibs s19 (by omega)) Tryz.func111 U U (by simp) U ?_
  rintro _ _ ⟨M20,a20,c20,rfl,rfl,r20⟩
  show At _ _ _ [M20,N19,Na,NJ,R,N11] _
  refine At.andS (.cons _ (.cons _ (.cons _ (.cons _ (.refl _))))) (At.fork ?_ ?_)
  rotate_left
  ·exact At.pNo
  refine op_lookupV1 (Nx.agree (nxpa U U)) (Maps.string_keyed Tryz.underlying9) Tryz.underlying153 (fun _=>by first|rfl|kernel_rfl) U U hM hkey (hat) (by simp) U ?_
  refine At.andS (.cons _ (.cons _ (.cons _ (.cons _ (.refl _))))) (op_build (out:= [_,_]) (nxpf U U) ze173 pl173 (.cons U (.cons U .nil)) U U (At.fork ?_ ?_))
  rotate_left
  ·exact At.pNo
  refine op_lit (Nx.agree (nxpa U U)) Tryz.underlying142 ze173 sz173 (.cons U .nil) U U (by simp [Value.cells]) U U U (fun N28 a28 r28=>?_)
  simp only [flatV,List.flatMap_cons,List.flatMap_nil,Value.cells,List.append_nil,List.cons_append,List.nil_append]at r28
  have s28:=r28.rsl
  refine At.andS (.cons _ (.cons _ (.cons _ (.cons _ (.cons _ (.refl _)))))) (At.fork ?_ ?_)
  rotate_left
  ·exact At.pNo
  change Row N28 _ 2 a28 1 1 (cellsP [⟨a20,2*k.length,c20,va,vn,vc⟩])at r28
  have s28:=r28.rsl
  refine op_append (nxpa U U) Tryz.underlying142 Tryz.underlying142 te173 U U ra s28 (by simp) (cellsP_one _) (by omega) (by omega) sel3 U (fun N29 a29 p29 r29=>?_)
  have s29:=r29.rsl
  refine At.andS (.cons _ (.cons _ (.cons _ (.cons _ (.cons _ (.refl _)))))) ?_
  rw [←cellsP_app]at r29
  refine cZ (nxpf U U) U U (At.pDone (cJ (aS (s_7 (aB (dD aN U U (by omega) (by omega) U (bC U U (aI (aY (aY (bS (bA (bA (bS (aY (cV (fun J J1 J2=>dropAt3 (dropAt2 (bF (bI (bF (bI ?_))))))))))))))))))))))
  refine At.back ?_ aZ ⟨i+1,m+1,a29,p29,ys++ [⟨a20,2*k.length,c20,va,vn,vc⟩],N29,J,rfl,rfl,rfl,by omega,by omega,r29,fun J' h1 h2=>by rw [take_next1 hki];exact pairs_snoc (hy J' (Heaplet.le_trans J1 h1) h2) (r20.rsl.le (Heaplet.le_trans J2 h1)) hvn (hvr.le h2)⟩ ?_
  ·repeat first|apply cW|exact .nil|exact lkI rfl (by omega)|rfl
  ·omega
 refine At.exit (bD (bD (dE (aS (s_3 (aH fun _ s_9=>aB (bC U U (bV U U (aI (s_9 (cK ((cV (fun Q Q1 Q2=>cT (cF (L1:= [Q]) U (.tmp U .nil) (.refl _) aZ ?_)))))))))))))))
 have hin:i=n:=by omega
 rw [List.take_of_length_le (by omega)]at hy
 have hyl:m=ys.length:=by have h3:=ra.1;rw [cellsP_len]at h3;omega
 rw [hyl]at ra⊢
 refine⟨Q,a,cp,ys,_,rfl,rfl,hperm,fun J hJ=>?_⟩
 have h1:=hJ Q (by simp)
 exact⟨ra.rsl.le (Heaplet.le_trans Q1 h1),hy J (Heaplet.le_trans Q2 h1) (hJ Nt (by simp)),hsort.prs,(hG.perm hperm.symm).fit,by omega⟩
theorem FPairs {Nt:Heaplet} {bt:Nat} {R0:List PR} (h:TrieN Nt bt c R0) (hc:R0.length≤1000000):Fn Tryz.prog 86 #[.pointer (some ⟨bt,0,none⟩)] [] [Nt] (PairsO Nt R0):=fun E w F hw hr=>by
 obtain⟨mb,D,Bt,hM,hI,hG⟩:=h
 have hle:Nt.le (whole w):=Heaplet.le_trans (hr Nt (by simp)) (hw.sub F (by simp))
 have hM2:=hM
 obtain⟨es,clock,hNb,hown⟩:=hM2
 exact FPairs0 Bt hM hI hG (keysS_perm (hown w (hle _ _ hNb)) hI) hc E w F hw hr
theorem FRoot {Nt:Heaplet} {bt:Nat} {R0:List PR} (h:TrieN Nt bt c R0) (hc:R0.length≤1000000):Fn Tryz.prog 48 #[.pointer (some ⟨bt,0,none⟩)] [] [Nt] (fun v L=>v=.agg (u8s (rootM R0)).toArray∧L= []):=by
 obtain⟨mb,D,Bt,hM,hI,hG⟩:=id h
 refine Fn.enter (vs:= [.pointer (some ⟨bt,0,none⟩)]) Tryz.func48 U U U ?_
 intro E R hR
 have hle:=hR Nt (by simp)
 change At _ _ E [R] _
 refine aH fun _ s_1=>aB (bZ bT ze45 U (fun N2 b2 B2=>?_))
 change Blk N2 b2 _ [.int .u8 0,.int .u8 0,.int .u8 0,.int .u8 0,.int .u8 0,.int .u8 0,.int .u8 0,.int .u8 0,.int .u8 0,.int .u8 0,.int .u8 0,.int .u8 0,.int .u8 0,.int .u8 0,.int .u8 0,.int .u8 0,.int .u8 0,.int .u8 0,.int .u8 0,.int .u8 0,.int .u8 0,.int .u8 0,.int .u8 0,.int .u8 0,.int .u8 0,.int .u8 0,.int .u8 0,.int .u8 0,.int .u8 0,.int .u8 0,.int .u8 0,.int .u8 0]at B2
 refine aI (s_1 (aH fun _ s_2=>aB (bC U U (bG bT (.cons U .nil) (FPairs (h.le hle) hc) Tryz.func86 U U (by simp) U ?_))))
 rintro _ _ ⟨M4,a4,c4,xs,S,rfl,rfl,hp,hL⟩
 show At _ _ _ [M4,N2,R] _
 have hroot:rootM R0=kec (nodeF 81 (prs S)).form:=by rw [root_perm hG.dis hp.symm,rootM]
 have hsm:=node_small 81 (hG.perm hp.symm).fit.sml
 refine bG bT (.cons U .nil) (FForm hL) Tryz.func87 U U (by simp) U ?_
 rintro _ _ ⟨M5,a5,c5,rfl,rfl,r5⟩
 show At _ _ _ [M5,M4,N2,R] _
 refine bG bT (.cons U .nil) (FKeccak_f r5.rsl (by omega)) Tryz.func80 U U (by simp) U ?_
 rintro _ _ ⟨rfl,rfl⟩
 show At _ _ _ [M5,M4,N2,R] _
 rw [←hroot]
 refine bP nxQ sz45 U U U (kecM _) (all8x2 _) B2 (by rw [kecM];exact Nat.le_refl 32) sel2 (fun N2 B2=>?_)
 rw [setL_whole (by rw [kecM];rfl)]at B2
 refine aI (s_2 (cK ((dropAt2 (cT ?_)))))
 refine cF (L1:= []) U (.cell U (res_agg (ds:=u8s (rootM R0)) ag45 B2 (by rw [List.drop_zero,List.take_of_length_le (by rw [kecM];exact Nat.le_refl 32)]) (kecM _) cO) .nil) (.cons _ (.refl _)) aZ ?_
 exact⟨rfl,rfl⟩
end
theorem AccO.at {K:Heaplet} {c xp mb:Nat} {ca:Option Addr} {cc:Nat} {D:DataW Value} {x:AcS} (o:AccO K K K c xp mb ca cc D x) {k:Nat} (hk:k∈srtW x.st):k<WW∧ ∃v,v<WW∧D.atKey (keyW k) (.held (wordV 0))=.held (wordV v)∧(getA k x.st).getD 0=v:=by
 obtain⟨v,hv⟩:=srtW_mem.1 hk
 have hm:=getA_mem hv
 have hok:okWd k:=o.A.key (k,v) hm
 refine⟨hok,v,o.st (k,v) hm,?_,by rw [hv,Option.getD_some]⟩
 rw [o.A.look hok,hv]
theorem blk8T {N:Heaplet} {b:Nat} {e:TypeId} {L:List UInt8} {k:Nat} (h:Blk N b e (u8s L)) (hk:L.length=k) (hm:k≤9223372036854775807):RSl N 1 (some ⟨b,0,none⟩) k k (u8s L):=blk8S h hk hm
theorem bytesN_len32 (x:Nat):(bytesN 32 x).length=32:=length_bytesN 32 x
set_option maxHeartbeats 1000000 in
theorem FAcRoot {K:Heaplet} {c xp:Nat} {x:AcS} (h:AccV K c xp x) (hc:c≤1000000):Fn Tryz.prog 81 #[.pointer (some ⟨xp,0,none⟩)] [] [K] (fun v L=>v=.agg (u8s (stRoot (stC x.st))).toArray∧L= []):=by
 obtain⟨mb,ca,cc,D,o⟩:=id h
 have hB:=o.B
 unfold acK at hB
 obtain⟨ks,hks⟩: ∃ks,srtW x.st=ks:=⟨_,rfl⟩
 have hst:=stC_len (st:=x.st)
 have hkl:=srtW_len (st:=x.st)
 have hsz:x.st.length≤c:=by rw [←o.A.size];exact o.M.size_leS
 have hat: ∀k∈ks,_:=fun k hk=>o.at (k:=k) (by rw [hks];exact hk)
 have hsc: ∀(i k:Nat),ks[i]? =some k→(stC x.st)[i]? =some (k,(getA k x.st).getD 0):=fun i k hk=>stC_at (by rw [hks];exact hk)
 rw [hks]at hkl
 obtain⟨z,hz⟩: ∃z,stRoot (stC x.st)=z:=⟨_,rfl⟩
 have hzl:z.length=32:=by rw [←hz];exact stRoot_len _
 have hzu:(u8s z).length=32:=by rw [cY,hzl]
 refine Fn.enter (vs:= [.pointer (some ⟨xp,0,none⟩)]) Tryz.func81 U U U ?_
 intro E R hR
 have hle:=hR K (by simp)
 have BR:=hB.le hle
 have hM:=o.M.le hle
 change At _ _ E [R] _
 refine aH fun _ s_1=>aB (bZ bT ze45 U (fun N2 b2 B2=>?_))
 change Blk N2 b2 _ [.int .u8 0,.int .u8 0,.int .u8 0,.int .u8 0,.int .u8 0,.int .u8 0,.int .u8 0,.int .u8 0,.int .u8 0,.int .u8 0,.int .u8 0,.int .u8 0,.int .u8 0,.int .u8 0,.int .u8 0,.int .u8 0,.int .u8 0,.int .u8 0,.int .u8 0,.int .u8 0,.int .u8 0,.int .u8 0,.int .u8 0,.int .u8 0,.int .u8 0,.int .u8 0,.int .u8 0,.int .u8 0,.int .u8 0,.int .u8 0,.int .u8 0,.int .u8 0]at B2
 refine aI (s_1 (aH fun _ s_2=>aB (bG bT .nil (FNew) Tryz.func79 U U (by simp) U ?_)))
 rintro _ _ ⟨N11,b11,rfl,rfl,hT0⟩
 show At _ _ _ [N11,N2,R] _
 refine bV U U (aI (s_2 (aH fun _ s_3=>aH fun _ s_4=>aB (bC U U (bG bT (.cons U .nil) (FPlaces (h.le hle) hc) Tryz.func46 U U (by simp) U ?_)))))
 rintro _ _ ⟨N13,a13,c13,rfl,rfl,r13⟩
 show At _ _ _ [N13,N11,N2,R] _
 rw [hks]at r13⊢;have s13:=r13.rsl
 refine dB aN se97 U U (bC U U (aI (s_4 (bX ?_))))
 obtain⟨n,hnn⟩: ∃n,ks.length=n:=⟨_,rfl⟩
 rw [hnn]at s13 hkl⊢
 have hcp:=s13.cap63
 refine bI (bI (bF (bI (At.loop (fun fr_ hp_ ms_=> ∃(i:Nat) (NT:Heaplet),fr_= [(0,.pointer (some ⟨xp,0,none⟩)),(2,.pointer (some ⟨b2,0,none⟩)),(3,.pointer (some ⟨b11,0,none⟩)),(13,.slice a13 n c13),(14,.int .i64 (n:Int)),(15,.int .i64 (i:Int))]∧hp_= [NT,N13,N2,R]∧n- i=ms_∧(i≤n)∧(TrieN NT b11 i (stR ((stC x.st).take i)))) ?_ aZ ⟨0,N11,rfl,rfl,rfl,Nat.zero_le _,hT0⟩ ?_))))
 ·repeat first|apply cW|exact .nil|exact lkI rfl (by omega)|rfl
 rintro _ _ _ ⟨i,NT,rfl,rfl,rfl,hi,hT⟩
 refine aH fun _ s_5=>aB (op_lss aN U U U (aI (s_5 (aH fun _ s_6=>cD U (fun c16=>?_) (fun c16=>?_)))))
 ·obtain⟨k,hki⟩: ∃k,ks[i]? =some k:=⟨_,List.getElem?_eq_getElem (by omega)⟩
  obtain⟨hkw,v,hvw,hlk,hgv⟩:=hat k (List.mem_of_getElem? hki)
  have hsi:=hsc i k hki
  rw [hgv]at hsi
  obtain⟨bs,hbs⟩: ∃bs,bytesN 32 k=bs:=⟨_,rfl⟩
  have hb32:bs.length=32:=by rw [←hbs];exact bytesN_len32 k
  have hbu:(u8s bs).length=32:=by rw [cY,hb32]
  obtain⟨q,hq⟩: ∃q,kec bs=q:=⟨_,rfl⟩
  have hk32:q.length=32:=by rw [←hq];exact kecL bs
  have hku:(u8s q).length=32:=by rw [cY,hk32]
  obtain⟨pf,hpf⟩: ∃pf,stPair (k,v)=pf:=⟨_,rfl⟩
  have hpl:pf.length≤41:=by rw [←hpf];exact stPair_len hvw
  obtain⟨it,hit⟩: ∃it,itS (bytesOf v)=it:=⟨_,rfl⟩
  have hif:it.form=pf:=by rw [←hit, ←hpf];rfl
  have hid:it.depth≤1024:=by rw [←hit,depthSS];decide
  have hT3: ∀ {NT2:Heaplet},TrieN NT2 b11 (i+1) (putM q pf (stR ((stC x.st).take i)))→TrieN NT2 b11 (i+1) (stR ((stC x.st).take (i+1))):=fun h=>by
   rw [take_nextS hsi,stR_snoc]
   show TrieN _ _ _ (putM (kec (bytesN 32 k)) (stPair (k,v)) _)
   rw [hbs,hq,hpf];exact h
  obtain⟨u,hu⟩: ∃u,bytesOf v=u:=⟨_,rfl⟩
  have hFO:Fn Tryz.prog 83 #[.agg (u64s (wl v)).toArray] [] [] (NumI v):=FOf_b hvw
  have hvl:=bQ v
  refine cG (aS (s_6 (aH fun _ s_7=>bX (aH fun _ s_8=>aB (op_idxE aN se97 U U s13 (show _=(((i:Nat)):Int)from by omega) (by omega) U ?_)))))
  refine op_loadAggE (ds:=u64s (wl k)) aN ag36 U s13 (by exact flat_atS (fun k=>u64s (wl k)) (fun y _=>bQ y) hki) (by exact bQ k) (by omega) (by simp) U ?_
  refine bZ bT ze36 U (fun N5 b5 B5=>?_)
  change Blk N5 b5 _ [.int .u64 0,.int .u64 0,.int .u64 0,.int .u64 0]at B5
  refine bP nxQ sz36 U U U (bQ k) (one_wl k) B5 (by rw [bQ];decide) sel0 (fun N5 B5=>?_)
  rw [setL_full (by rw [bQ];rfl)]at B5
  refine aI (s_8 (aH fun _ s_9=>bA (cH (bA (bA (bA (At.planS [N5,R] (.take 0 (.take 1 (.take 2 (.take 3 (.take 4 (.take 6 (.fork 5 false (.fork 7 false (.fork 8 false (.fork 9 false (.fork 10 true (.fork 11 true .done .nofork) .nofork) .nofork) (.fork 9 false (.fork 8 false (.fork 10 true (.fork 11 true .done .nofork) .nofork) .nofork) .nofork)) (.fork 8 false (.fork 7 false (.fork 9 false (.fork 10 true (.fork 11 true .done .nofork) .nofork) .nofork) (.fork 9 false (.fork 7 false (.fork 10 true (.fork 11 true .done .nofork) .nofork) .nofork) .nofork)) (.fork 9 false (.fork 7 false (.fork 8 false (.fork 10 true (.fork 11 true .done .nofork) .nofork) .nofork) (.fork 8 false (.fork 7 false (.fork 10 true (.fork 11 true .done .nofork) .nofork) .nofork) .nofork)) .nofork))) (.fork 7 false (.fork 5 false (.fork 8 false (.fork 9 false (.fork 10 true (.fork 11 true .done .nofork) .nofork) .nofork) (.fork 9 false (.fork 8 false (.fork 10 true (.fork 11 true .done .nofork) .nofork) .nofork) .nofork)) (.fork 8 false (.fork 5 false (.fork 9 false (.fork 10 true (.fork 11 true .done .nofork) .nofork) .nofork) (.fork 9 false (.fork 5 false (.fork 10 true (.fork 11 true .done .nofork) .nofork) .nofork) .nofork)) (.fork 9 false (.fork 5 false (.fork 8 false (.fork 10 true (.fork 11 true .done .nofork) .nofork) .nofork) (.fork 8 false (.fork 5 false (.fork 10 true (.fork 11 true .done .nofork) .nofork) .nofork) .nofork)) .nofork))) (.fork 8 false (.fork 5 false (.fork 7 false (.fork 9 false (.fork 10 true (.fork 11 true .done .nofork) .nofork) .nofork) (.fork 9 false (.fork 7 false (.fork 10 true (.fork 11 true .done .nofork) .nofork) .nofork) .nofork)) (.fork 7 false (.fork 5 false (.fork 9 false (.fork 10 true (.fork 11 true .done .nofork) .nofork) .nofork) (.fork 9 false (.fork 5 false (.fork 10 true (.fork 11 true .done .nofork) .nofork) .nofork) .nofork)) (.fork 9 false (.fork 5 false (.fork 7 false (.fork 10 true (.fork 11 true .done .nofork) .nofork) .nofork) (.fork 7 false (.fork 5 false (.fork 10 true (.fork 11 true .done .nofork) .nofork) .nofork) .nofork)) .nofork))) (.fork 9 false (.fork 5 false (.fork 7 false (.fork 8 false (.fork 10 true (.fork 11 true .done .nofork) .nofork) .nofork) (.fork 8 false (.fork 7 false (.fork 10 true (.fork 11 true .done .nofork) .nofork) .nofork) .nofork)) (.fork 7 false (.fork 5 false (.fork 8 false (.fork 10 true (.fork 11 true .done .nofork) .nofork) .nofork) (.fork 8 false (.fork 5 false (.fork 10 true (.fork 11 true .done .nofork) .nofork) .nofork) .nofork)) (.fork 8 false (.fork 5 false (.fork 7 false (.fork 10 true (.fork 11 true .done .nofork) .nofork) .nofork) (.fork 7 false (.fork 5 false (.fork 10 true (.fork 11 true .done .nofork) .nofork) .nofork) .nofork)) .nofork))) .nofork)))))))))) (by kernel_rfl) (by kernel_rfl) (.cons _ (.cons _ (.cons _ (.refl _)))) (aR (nxpf U U) U U (bH (nxpf U U) U U (aJ (nxpf U U) fl71_3 U U (aU (nxpf U U) sc69 U BR U dG U ?_)))))))))))
  refine aK (ds:=u64s (wl k)) (nxpf U U) ag36 U B5 (by exact bJ (bQ k)) (by exact bQ k) cO U ?_
  refine aK (ds:=u64s (wl k)) (nxpf U U) ag36 U B5 (by exact bJ (bQ k)) (by exact bQ k) cO U ?_
  refine At.net [(5,24,.agg (u64s (wl v)).toArray),(7,26,.agg (u8s bs).toArray)] [(8,6,36,[.int .u64 0,.int .u64 0,.int .u64 0,.int .u64 0]),(9,7,44,[.int .u8 0,.int .u8 0,.int .u8 0,.int .u8 0,.int .u8 0,.int .u8 0,.int .u8 0,.int .u8 0,.int .u8 0,.int .u8 0,.int .u8 0,.int .u8 0,.int .u8 0,.int .u8 0,.int .u8 0,.int .u8 0,.int .u8 0,.int .u8 0,.int .u8 0,.int .u8 0,.int .u8 0,.int .u8 0,.int .u8 0,.int .u8 0,.int .u8 0,.int .u8 0,.int .u8 0,.int .u8 0,.int .u8 0,.int .u8 0,.int .u8 0,.int .u8 0])] (.fork 10 true (.fork 11 true .done .nofork) .nofork) (by kernel_rfl) (.cons _ (.cons _ (.cons _ (.refl _)))) (by kernel_rfl) (by kernel_rfl) rfl (nvC (netLook rfl kd36 Tryz.underlying69 (fun _=>by first|rfl|kernel_rfl) rfl rfl (hM) (keyW_spec k) (hlk) (by simp) rfl) (nvC (netCall rfl (.cons rfl .nil) (WBytes_w hkw) Tryz.func105 rfl rfl (by simp) rfl (by rintro v L ⟨rfl,rfl⟩;exact⟨by rw [hbs],rfl⟩)) nvN)) (naC ⟨_,_,_,_,rfl,ze36,rfl,rfl⟩ (naC ⟨_,_,_,_,rfl,ze44,rfl,rfl⟩ naN)) ?_
  intro N6 b6 B6
  intro N7 b7 B7
  change Blk N6 b6 _ [.int .u64 0,.int .u64 0,.int .u64 0,.int .u64 0]at B6
  change Blk N7 b7 _ [.int .u8 0,.int .u8 0,.int .u8 0,.int .u8 0,.int .u8 0,.int .u8 0,.int .u8 0,.int .u8 0,.int .u8 0,.int .u8 0,.int .u8 0,.int .u8 0,.int .u8 0,.int .u8 0,.int .u8 0,.int .u8 0,.int .u8 0,.int .u8 0,.int .u8 0,.int .u8 0,.int .u8 0,.int .u8 0,.int .u8 0,.int .u8 0,.int .u8 0,.int .u8 0,.int .u8 0,.int .u8 0,.int .u8 0,.int .u8 0,.int .u8 0,.int .u8 0]at B7
  change At _ ((7,.pointer (some ⟨b7,0,none⟩))::(6,.pointer (some ⟨b6,0,none⟩))::(24,.agg (u64s (wl v)).toArray)::(26,.agg (u8s bs).toArray)::_) _ [N7,N6,NT,N13,N2,N5,R] _
  refine At.fork ?_ ?_
  rotate_left
  ·exact At.pNo
  refine bP (nxpa U U) sz36 U U U hvl (one_wl v) B6 (by rw [hvl];decide) sel1 (fun N6 B6=>?_)
  rw [setL_full (by rw [hvl];rfl)]at B6
  refine At.andS (.cons _ (.cons _ (.cons _ (.cons _ (.cons _ (.refl _)))))) (At.fork ?_ ?_)
  rotate_left
  ·exact At.pNo
  refine bP (nxpl U U) sz44 U U U hbu len_A1 B7 (by rw [hbu];decide) sel1 (fun N7 B7=>?_)
  rw [setL_full (by rw [hbu];rfl)]at B7
  refine At.pDone (aS (s_9 (aH fun _ s_10=>?_)))
  have s7:=blk8T B7 hb32 (by decide)
  refine aB (op_sliceA aN ae44 U .none .none .none (by omega) (by omega) (by omega) (by simp) U (bG bT (.cons U .nil) (FKeccak_f s7 (by decide)) Tryz.func80 U U (by simp) U ?_))
  rintro _ _ ⟨rfl,rfl⟩
  show At _ _ _ [N7,N6,NT,N13,N2,N5,R] _
  rw [hq]
  refine bZ bT ze44 U (fun N8 b8 B8=>?_)
  change Blk N8 b8 _ [.int .u8 0,.int .u8 0,.int .u8 0,.int .u8 0,.int .u8 0,.int .u8 0,.int .u8 0,.int .u8 0,.int .u8 0,.int .u8 0,.int .u8 0,.int .u8 0,.int .u8 0,.int .u8 0,.int .u8 0,.int .u8 0,.int .u8 0,.int .u8 0,.int .u8 0,.int .u8 0,.int .u8 0,.int .u8 0,.int .u8 0,.int .u8 0,.int .u8 0,.int .u8 0,.int .u8 0,.int .u8 0,.int .u8 0,.int .u8 0,.int .u8 0,.int .u8 0]at B8
  refine bP nxQ sz44 U U U hku len_A1 B8 (by rw [hku];decide) sel0 (fun N8 B8=>?_)
  rw [setL_full (by rw [hku];rfl)]at B8
  refine aI (s_10 (aH fun _ s_11=>?_))
  have s8:=blk8T B8 hk32 (by decide)
  refine aB (aK (ds:=u64s (wl v)) aN ag36 U B6 (by exact bJ hvl) (by exact hvl) mem2 U ?_)
  refine bG bT (.cons U .nil) (hFO) Tryz.func83 U U (by simp) U ?_
  rintro _ _ ⟨M31,p31,k31,rfl,rfl,r31⟩
  show At _ _ _ [M31,N8,N7,N6,NT,N13,N2,N5,R] _
  refine bG bT (.cons U .nil) (Encode_ok (t:=it) (x:=ivS p31 (bytesOf v).length k31) (by rw [←hit];exact ItN_S r31) (by rw [hif];exact Nat.le_trans hpl (by decide)) hid) Tryz.func82 U U (by simp) U ?_
  rintro _ _ ⟨M32,a32,c32,rfl,rfl,r32⟩
  show At _ _ _ [M32,M31,N8,N7,N6,NT,N13,N2,N5,R] _
  rw [hif]at r32⊢
  refine bC U U (bW aN U U U (bW aN U U U (bV U U (bV U U (aI (s_11 (aB (bC U U (op_sliceA aN ae44 U .none .none .none (by omega) (by omega) (by omega) (by simp) U (bC U U (bR (bR (bR (bR (a6 (a6 (a6 (a6 (a6 (bR (cR nxQ (.cons U (.cons U (.cons U .nil))) (FPut hT (k:=q) (v:=pf) s8 r32.rsl (by decide) (Nat.le_trans hpl (by decide)) (by omega)) (F:= [M32,M31,N8,N7,N6,N13,N2,N5,R]) Tryz.func85 U U aZ (by simp) U ?_)))))))))))))))))))))
  rintro _ _ ⟨NT2,rfl,rfl,hT2⟩
  show At _ _ _ [NT2,M32,M31,N8,N7,N6,N13,N2,N5,R] _
  refine cE (cJ (aS (s_7 (aB (dD aN U U (by omega) (by omega) U (bC U U (aI (dropAt8 (dropAt5 (dropAt4 (dropAt3 (dropAt2 (cT (At.back ?_ aZ ⟨i+1,NT2,rfl,rfl,rfl,by omega,hT3 hT2⟩ ?_))))))))))))))
  ·repeat first|apply cW|exact .nil|exact lkI rfl (by omega)|rfl
  ·omega
 refine At.exit (bD (bD (dE (aS (s_3 (aH fun _ s_12=>?_))))))
 have hin:i=n:=by omega
 rw [hin,List.take_of_length_le (by omega)]at hT
 have hrl:=stR_len _ (stC x.st) rfl
 refine aB (bC U U (bG bT (.cons U .nil) (FRoot hT (by omega)) Tryz.func48 U U (by simp) U ?_))
 rintro _ _ ⟨rfl,rfl⟩
 show At _ _ _ [NT,N13,N2,R] _
 rw [show rootM (stR (stC x.st))=z from hz]
 refine bP nxQ sz45 U U U hzu len_A1 B2 (by rw [hzu];decide) sel2 (fun N2 B2=>?_)
 rw [setL_full (by rw [hzu];rfl)]at B2
 refine aI (s_12 (cK ((dropAt2 (cT (cF (L1:= []) U (.cell U (res_agg (ds:=u8s z) ag45 B2 (bJ hzu) hzu cO) .nil) (.cons _ (.refl _)) aZ ?_))))))
 exact⟨by rw [hz],rfl⟩
theorem StV.at {K:Heaplet} {sp ma c:Nat} {DF:DataW Value} {l:AcR} {cs:List Value} {M:AcL} (h:StV K sp ma c DF l cs) (hm:MdEq l M) {k:List UInt8} (hk:k∈srtB M):okAd k∧ ∃xp x,getA k M=some x∧DF.atKey (keyA k) (.held (.pointer none))=.held (.pointer (some ⟨xp,0,none⟩))∧AccV K c xp x:=by
 obtain⟨x,hx⟩:=srtB_mem.1 hk
 have e:=hm k
 rw [hx]at e
 cases hg:getA k l with
 |none=>rw [hg]at e;cases e
 |some v=>
  rw [hg]at e
  have ev:v.2=x:=Option.some.inj e
  have hok:okAd k:=h.A.key (k,v) (getA_mem hg)
  refine⟨hok,v.1,x,hx,?_,by rw [←ev];exact h.N k v hg⟩
  rw [ptr_look h.A hok,hg];rfl
theorem AccV.code {K:Heaplet} {c xp:Nat} {x:AcS} (h:AccV K c xp x):x.ba<WW:=by
 obtain⟨mb,ca,cc,D,o⟩:=h
 exact o.ba
set_option maxHeartbeats 1000000 in
theorem FTree {K:Heaplet} {sp ma c:Nat} {DF:DataW Value} {l:AcR} {cs:List Value} {M:AcL} (h:StV K sp ma c DF l cs) (hm:MdEq l M) (hg:DisA M) (hc:c≤1000000):Fn Tryz.prog 47 #[.pointer (some ⟨sp,0,none⟩)] [] [K] (fun v L=> ∃N bt c',v=.pointer (some ⟨bt,0,none⟩)∧L= [N]∧TrieN N bt c' (acR (acC M))):=by
 obtain⟨ks,hks⟩: ∃ks,srtB M=ks:=⟨_,rfl⟩
 have hat: ∀k∈ks,_:=fun k hk=>h.at hm (k:=k) (by rw [hks];exact hk)
 have hsc: ∀(i:Nat) (k:List UInt8),ks[i]? =some k→(acC M)[i]? =some (((getA k M).getD AcS.z).told k):=fun i k hk=>acC_at (by rw [hks];exact hk)
 have hcl:=acC_len (l:=M)
 have hll:=hm.len h.A.dis hg
 have hsz:l.length≤c:=by rw [←h.A.size];exact h.F.size_leS
 rw [hks]at hcl hll
 have hln: ∀y∈ks,(u8s y).length=20:=fun y hy=>len_A (hat y hy).1
 refine Fn.enter (vs:= [.pointer (some ⟨sp,0,none⟩)]) Tryz.func47 U U U ?_
 intro E R hR
 have hle:=hR K (by simp)
 have hV:=h.le hle
 have BR:=hV.B
 have hF:=hV.F
 change At _ _ E [R] _
 refine aH fun _ s_1=>aB (bV U U (aI (s_1 (aH fun _ s_2=>aB (bG bT .nil (FNew) Tryz.func79 U U (by simp) U ?_)))))
 rintro _ _ ⟨N12,b12,rfl,rfl,hT0⟩
 show At _ _ _ [N12,R] _
 refine bV U U (aI (s_2 (aH fun _ s_3=>aH fun _ s_4=>aB (bC U U (bG bT (.cons U .nil) (FAddresses hV hm hg hc) Tryz.func45 U U (by simp) U ?_)))))
 rintro _ _ ⟨N14,a14,c14,rfl,rfl,r14⟩
 show At _ _ _ [N14,N12,R] _
 rw [hks]at r14⊢;have s14:=r14.rsl
 refine dB aN se95 U U (bC U U (aI (s_4 (bX ?_))))
 obtain⟨n,hnn⟩: ∃n,ks.length=n:=⟨_,rfl⟩
 rw [hnn]at s14 hcl hll⊢
 have hcp:=s14.cap63
 refine bF (cH (bF (At.loop (fun fr_ hp_ ms_=> ∃(i:Nat) (NT:Heaplet),fr_= [(0,.pointer (some ⟨sp,0,none⟩)),(3,.pointer (some ⟨b12,0,none⟩)),(14,.slice a14 n c14),(15,.int .i64 (n:Int)),(16,.int .i64 (i:Int))]∧hp_= [NT,N14,R]∧n- i=ms_∧(i≤n)∧(TrieN NT b12 i (acR ((acC M).take i)))) ?_ aZ ⟨0,N12,rfl,rfl,rfl,Nat.zero_le _,hT0⟩ ?_)))
 ·repeat first|apply cW|exact .nil|exact lkI rfl (by omega)|rfl
 rintro _ _ _ ⟨i,NT,rfl,rfl,rfl,hi,hT⟩
 refine aH fun _ s_5=>aB (op_lss aN U U U (aI (s_5 (aH fun _ s_6=>cD U (fun c17=>?_) (fun c17=>?_)))))
 ·obtain⟨k,hki⟩: ∃k,ks[i]? =some k:=⟨_,List.getElem?_eq_getElem (by omega)⟩
  obtain⟨hkA,xp,x,hx,hlk,hav⟩:=hat k (List.mem_of_getElem? hki)
  have hsi:=hsc i k hki
  rw [hx,Option.getD_some]at hsi
  have hkl:=len_A hkA
  have hk20:k.length=20:=hkA
  have haR:=hav.le hle
  obtain⟨mb,ca,cc,D,o⟩:=id haR
  have BX:=o.B
  unfold acK at BX
  obtain⟨q,hq⟩: ∃q,kec k=q:=⟨_,rfl⟩
  have hk32:q.length=32:=by rw [←hq];exact kecL k
  have hku:(u8s q).length=32:=by rw [cY,hk32]
  obtain⟨z,hz⟩: ∃z,stRoot (stC x.st)=z:=⟨_,rfl⟩
  have hzl:z.length=32:=by rw [←hz];exact stRoot_len _
  have hzu:(u8s z).length=32:=by rw [cY,hzl]
  obtain⟨y,hy⟩: ∃y,kec x.co=y:=⟨_,rfl⟩
  have hq32:y.length=32:=by rw [←hy];exact kecL _
  have hqu:(u8s y).length=32:=by rw [cY,hq32]
  obtain⟨pf,hpf⟩: ∃pf,(acIt (x.told k)).form=pf:=⟨_,rfl⟩
  have hfl:pf.length≤209:=by rw [←hpf];exact acIt_len (w:=x.told k) o.ba
  obtain⟨it,hit⟩: ∃it,acIt (x.told k)=it:=⟨_,rfl⟩
  have hif:it.form=pf:=by rw [←hit,hpf]
  have hid:it.depth≤1024:=by rw [←hit];exact acIt_depth _
  have hie:it=itL [itS (bytesOf x.no.toNat),itS (bytesOf x.ba),itS z,itS y]:=by rw [←hit, ←hz, ←hy];rfl
  have hT3: ∀ {NT2:Heaplet},TrieN NT2 b12 (i+1) (putM q pf (acR ((acC M).take i)))→TrieN NT2 b12 (i+1) (acR ((acC M).take (i+1))):=fun h=>by
   rw [take_nextS hsi,acR_snoc]
   show TrieN _ _ _ (putM (kec k) (acIt (x.told k)).form _)
   rw [hq,hpf];exact h
  have hFO:Fn Tryz.prog 83 #[.agg (u64s (wl x.ba)).toArray] [] [] (NumI x.ba):=FOf_b o.ba
  have hC:=o.C
  have hCl:=o.ln
  refine cG (aS (s_6 (aH fun _ s_7=>bX (aH fun _ s_8=>aB (op_idxE aN se95 U U s14 (show _=(((i:Nat)):Int)from by omega) (by omega) U ?_)))))
  refine op_loadAggE (ds:=u8s k) aN ag33 U s14 (by exact flat_atS u8s hln hki) (by exact hkl) (by omega) (by simp) U ?_
  refine bZ bT ze33 U (fun N5 b5 B5=>?_)
  change Blk N5 b5 _ [.int .u8 0,.int .u8 0,.int .u8 0,.int .u8 0,.int .u8 0,.int .u8 0,.int .u8 0,.int .u8 0,.int .u8 0,.int .u8 0,.int .u8 0,.int .u8 0,.int .u8 0,.int .u8 0,.int .u8 0,.int .u8 0,.int .u8 0,.int .u8 0,.int .u8 0,.int .u8 0]at B5
  refine bP nxQ sz33 U U U hkl len_A1 B5 (by rw [hkl];decide) sel0 (fun N5 B5=>?_)
  rw [setL_full (by rw [hkl];rfl)]at B5
  refine aI (s_8 (aH fun _ s_9=>bI (cH (bI (bI (cS [N5,R] [5] [] [0,1,2,3,4,5,6] (by kernel_rfl) (by kernel_rfl) (.cons _ (.cons _ (.refl _))) (aR (bB U U U) U U (bH (bB U U U) U U (aJ (bB U U U) fl85_0 U U (aU (bB U U U) sc74 U BR U dG U ?_))))))))))
  refine aK (ds:=u8s k) (bB U U U) ag33 U B5 (by exact bJ hkl) (by exact hkl) cO U ?_
  refine op_lookupV1 (Nx.agree (nxss U U U U)) kd33 Tryz.underlying74 (fun _=>by first|rfl|kernel_rfl) U U hF (keyA_spec hkA) (hlk) (by simp) U ?_
  refine At.anyS (.refl _) (cZ (bB U U U) U U (dH (aS (s_9 (aH fun _ s_10=>?_)))))
  have s5:=blk8T B5 hk20 (by decide)
  refine At.planS [N5,R] (.take 0 (.take 2 (.take 4 (.take 5 (.take 6 (.take 7 (.fork 1 false (.fork 3 false (.fork 8 true (.fork 9 false (.fork 10 false (.fork 11 false (.fork 12 true (.fork 13 true (.fork 14 true .done .nofork) .nofork) .nofork) .nofork) (.fork 11 false (.fork 10 false (.fork 12 true (.fork 13 true (.fork 14 true .done .nofork) .nofork) .nofork) .nofork) .nofork)) (.fork 10 false (.fork 9 false (.fork 11 false (.fork 12 true (.fork 13 true (.fork 14 true .done .nofork) .nofork) .nofork) .nofork) (.fork 11 false (.fork 9 false (.fork 12 true (.fork 13 true (.fork 14 true .done .nofork) .nofork) .nofork) .nofork) .nofork)) (.fork 11 false (.fork 9 false (.fork 10 false (.fork 12 true (.fork 13 true (.fork 14 true .done .nofork) .nofork) .nofork) .nofork) (.fork 10 false (.fork 9 false (.fork 12 true (.fork 13 true (.fork 14 true .done .nofork) .nofork) .nofork) .nofork) .nofork)) .nofork))) (.fork 9 false (.fork 8 false (.fork 10 false (.fork 11 false (.fork 12 true (.fork 13 true (.fork 14 true .done .nofork) .nofork) .nofork) .nofork) (.fork 11 false (.fork 10 false (.fork 12 true (.fork 13 true (.fork 14 true .done .nofork) .nofork) .nofork) .nofork) .nofork)) (.fork 10 false (.fork 8 false (.fork 11 false (.fork 12 true (.fork 13 true (.fork 14 true .done .nofork) .nofork) .nofork) .nofork) (.fork 11 false (.fork 8 false (.fork 12 true (.fork 13 true (.fork 14 true .done .nofork) .nofork) .nofork) .nofork) .nofork)) (.fork 11 false (.fork 8 false (.fork 10 false (.fork 12 true (.fork 13 true (.fork 14 true .done .nofork) .nofork) .nofork) .nofork) (.fork 10 false (.fork 8 false (.fork 12 true (.fork 13 true (.fork 14 true .done .nofork) .nofork) .nofork) .nofork) .nofork)) .nofork))) (.fork 10 false (.fork 8 false (.fork 9 false (.fork 11 false (.fork 12 true (.fork 13 true (.fork 14 true .done .nofork) .nofork) .nofork) .nofork) (.fork 11 false (.fork 9 false (.fork 12 true (.fork 13 true (.fork 14 true .done .nofork) .nofork) .nofork) .nofork) .nofork)) (.fork 9 false (.fork 8 false (.fork 11 false (.fork 12 true (.fork 13 true (.fork 14 true .done .nofork) .nofork) .nofork) .nofork) (.fork 11 false (.fork 8 false (.fork 12 true (.fork 13 true (.fork 14 true .done .nofork) .nofork) .nofork) .nofork) .nofork)) (.fork 11 false (.fork 8 false (.fork 9 false (.fork 12 true (.fork 13 true (.fork 14 true .done .nofork) .nofork) .nofork) .nofork) (.fork 9 false (.fork 8 false (.fork 12 true (.fork 13 true (.fork 14 true .done .nofork) .nofork) .nofork) .nofork) .nofork)) .nofork))) (.fork 11 false (.fork 8 false (.fork 9 false (.fork 10 false (.fork 12 true (.fork 13 true (.fork 14 true .done .nofork) .nofork) .nofork) .nofork) (.fork 10 false (.fork 9 false (.fork 12 true (.fork 13 true (.fork 14 true .done .nofork) .nofork) .nofork) .nofork) .nofork)) (.fork 9 false (.fork 8 false (.fork 10 false (.fork 12 true (.fork 13 true (.fork 14 true .done .nofork) .nofork) .nofork) .nofork) (.fork 10 false (.fork 8 false (.fork 12 true (.fork 13 true (.fork 14 true .done .nofork) .nofork) .nofork) .nofork) .nofork)) (.fork 10 false (.fork 8 false (.fork 9 false (.fork 12 true (.fork 13 true (.fork 14 true .done .nofork) .nofork) .nofork) .nofork) (.fork 9 false (.fork 8 false (.fork 12 true (.fork 13 true (.fork 14 true .done .nofork) .nofork) .nofork) .nofork) .nofork)) .nofork))) .nofork)))) (.fork 9 false (.fork 3 false (.fork 8 false (.fork 10 false (.fork 11 false (.fork 12 true (.fork 13 true (.fork 14 true .done .nofork) .nofork) .nofork) .nofork) (.fork 11 false (.fork 10 false (.fork 12 true (.fork 13 true (.fork 14 true .done .nofork) .nofork) .nofork) .nofork) .nofork)) (.fork 10 false (.fork 8 false (.fork 11 false (.fork 12 true (.fork 13 true (.fork 14 true .done .nofork) .nofork) .nofork) .nofork) (.fork 11 false (.fork 8 false (.fork 12 true (.fork 13 true (.fork 14 true .done .nofork) .nofork) .nofork) .nofork) .nofork)) (.fork 11 false (.fork 8 false (.fork 10 false (.fork 12 true (.fork 13 true (.fork 14 true .done .nofork) .nofork) .nofork) .nofork) (.fork 10 false (.fork 8 false (.fork 12 true (.fork 13 true (.fork 14 true .done .nofork) .nofork) .nofork) .nofork) .nofork)) .nofork))) (.fork 10 false (.fork 3 false (.fork 8 false (.fork 11 false (.fork 12 true (.fork 13 true (.fork 14 true .done .nofork) .nofork) .nofork) .nofork) (.fork 11 false (.fork 8 false (.fork 12 true (.fork 13 true (.fork 14 true .done .nofork) .nofork) .nofork) .nofork) .nofork)) (.fork 11 false (.fork 3 false (.fork 8 false (.fork 12 true (.fork 13 true (.fork 14 true .done .nofork) .nofork) .nofork) .nofork) .nofork) .nofork)) (.fork 11 false (.fork 3 false (.fork 8 false (.fork 10 false (.fork 12 true (.fork 13 true (.fork 14 true .done .nofork) .nofork) .nofork) .nofork) (.fork 10 false (.fork 8 false (.fork 12 true (.fork 13 true (.fork 14 true .done .nofork) .nofork) .nofork) .nofork) .nofork)) (.fork 10 false (.fork 3 false (.fork 8 false (.fork 12 true (.fork 13 true (.fork 14 true .done .nofork) .nofork) .nofork) .nofork) .nofork) .nofork)) .nofork))) (.fork 10 false (.fork 3 false (.fork 8 false (.fork 9 false (.fork 11 false (.fork 12 true (.fork 13 true (.fork 14 true .done .nofork) .nofork) .nofork) .nofork) (.fork 11 false (.fork 9 false (.fork 12 true (.fork 13 true (.fork 14 true .done .nofork) .nofork) .nofork) .nofork) .nofork)) (.fork 9 false (.fork 8 false (.fork 11 false (.fork 12 true (.fork 13 true (.fork 14 true .done .nofork) .nofork) .nofork) .nofork) (.fork 11 false (.fork 8 false (.fork 12 true (.fork 13 true (.fork 14 true .done .nofork) .nofork) .nofork) .nofork) .nofork)) (.fork 11 false (.fork 8 false (.fork 9 false (.fork 12 true (.fork 13 true (.fork 14 true .done .nofork) .nofork) .nofork) .nofork) (.fork 9 false (.fork 8 false (.fork 12 true (.fork 13 true (.fork 14 true .done .nofork) .nofork) .nofork) .nofork) .nofork)) .nofork))) (.fork 9 false (.fork 3 false (.fork 8 false (.fork 11 false (.fork 12 true (.fork 13 true (.fork 14 true .done .nofork) .nofork) .nofork) .nofork) (.fork 11 false (.fork 8 false (.fork 12 true (.fork 13 true (.fork 14 true .done .nofork) .nofork) .nofork) .nofork) .nofork)) (.fork 11 false (.fork 3 false (.fork 8 false (.fork 12 true (.fork 13 true (.fork 14 true .done .nofork) .nofork) .nofork) .nofork) .nofork) .nofork)) (.fork 11 false (.fork 3 false (.fork 8 false (.fork 9 false (.fork 12 true (.fork 13 true (.fork 14 true .done .nofork) .nofork) .nofork) .nofork) (.fork 9 false (.fork 8 false (.fork 12 true (.fork 13 true (.fork 14 true .done .nofork) .nofork) .nofork) .nofork) .nofork)) (.fork 9 false (.fork 3 false (.fork 8 false (.fork 12 true (.fork 13 true (.fork 14 true .done .nofork) .nofork) .nofork) .nofork) .nofork) .nofork)) .nofork))) (.fork 11 false (.fork 3 false (.fork 8 false (.fork 9 false (.fork 10 false (.fork 12 true (.fork 13 true (.fork 14 true .done .nofork) .nofork) .nofork) .nofork) (.fork 10 false (.fork 9 false (.fork 12 true (.fork 13 true (.fork 14 true .done .nofork) .nofork) .nofork) .nofork) .nofork)) (.fork 9 false (.fork 8 false (.fork 10 false (.fork 12 true (.fork 13 true (.fork 14 true .done .nofork) .nofork) .nofork) .nofork) (.fork 10 false (.fork 8 false (.fork 12 true (.fork 13 true (.fork 14 true .done .nofork) .nofork) .nofork) .nofork) .nofork)) (.fork 10 false (.fork 8 false (.fork 9 false (.fork 12 true (.fork 13 true (.fork 14 true .done .nofork) .nofork) .nofork) .nofork) (.fork 9 false (.fork 8 false (.fork 12 true (.fork 13 true (.fork 14 true .done .nofork) .nofork) .nofork) .nofork) .nofork)) .nofork))) (.fork 9 false (.fork 3 false (.fork 8 false (.fork 10 false (.fork 12 true (.fork 13 true (.fork 14 true .done .nofork) .nofork) .nofork) .nofork) (.fork 10 false (.fork 8 false (.fork 12 true (.fork 13 true (.fork 14 true .done .nofork) .nofork) .nofork) .nofork) .nofork)) (.fork 10 false (.fork 3 false (.fork 8 false (.fork 12 true (.fork 13 true (.fork 14 true .done .nofork) .nofork) .nofork) .nofork) .nofork) .nofork)) (.fork 10 false (.fork 3 false (.fork 8 false (.fork 9 false (.fork 12 true (.fork 13 true (.fork 14 true .done .nofork) .nofork) .nofork) .nofork) (.fork 9 false (.fork 8 false (.fork 12 true (.fork 13 true (.fork 14 true .done .nofork) .nofork) .nofork) .nofork) .nofork)) (.fork 9 false (.fork 3 false (.fork 8 false (.fork 12 true (.fork 13 true (.fork 14 true .done .nofork) .nofork) .nofork) .nofork) .nofork) .nofork)) .nofork))) .nofork)))) (.fork 9 false (.fork 1 false (.fork 3 false (.fork 8 false (.fork 10 false (.fork 11 false (.fork 12 true (.fork 13 true (.fork 14 true .done .nofork) .nofork) .nofork) .nofork) (.fork 11 false (.fork 10 false (.fork 12 true (.fork 13 true (.fork 14 true .done .nofork) .nofork) .nofork) .nofork) .nofork)) (.fork 10 false (.fork 8 false (.fork 11 false (.fork 12 true (.fork 13 true (.fork 14 true .done .nofork) .nofork) .nofork) .nofork) (.fork 11 false (.fork 8 false (.fork 12 true (.fork 13 true (.fork 14 true .done .nofork) .nofork) .nofork) .nofork) .nofork)) (.fork 11 false (.fork 8 false (.fork 10 false (.fork 12 true (.fork 13 true (.fork 14 true .done .nofork) .nofork) .nofork) .nofork) (.fork 10 false (.fork 8 false (.fork 12 true (.fork 13 true (.fork 14 true .done .nofork) .nofork) .nofork) .nofork) .nofork)) .nofork))) (.fork 10 false (.fork 3 false (.fork 8 false (.fork 11 false (.fork 12 true (.fork 13 true (.fork 14 true .done .nofork) .nofork) .nofork) .nofork) (.fork 11 false (.fork 8 false (.fork 12 true (.fork 13 true (.fork 14 true .done .nofork) .nofork) .nofork) .nofork) .nofork)) (.fork 11 false (.fork 3 false (.fork 8 false (.fork 12 true (.fork 13 true (.fork 14 true .done .nofork) .nofork) .nofork) .nofork) .nofork) .nofork)) (.fork 11 false (.fork 3 false (.fork 8 false (.fork 10 false (.fork 12 true (.fork 13 true (.fork 14 true .done .nofork) .nofork) .nofork) .nofork) (.fork 10 false (.fork 8 false (.fork 12 true (.fork 13 true (.fork 14 true .done .nofork) .nofork) .nofork) .nofork) .nofork)) (.fork 10 false (.fork 3 false (.fork 8 false (.fork 12 true (.fork 13 true (.fork 14 true .done .nofork) .nofork) .nofork) .nofork) .nofork) .nofork)) .nofork))) (.fork 10 false (.fork 1 false (.fork 3 false (.fork 8 false (.fork 11 false (.fork 12 true (.fork 13 true (.fork 14 true .done .nofork) .nofork) .nofork) .nofork) (.fork 11 false (.fork 8 false (.fork 12 true (.fork 13 true (.fork 14 true .done .nofork) .nofork) .nofork) .nofork) .nofork)) (.fork 11 false (.fork 3 false (.fork 8 false (.fork 12 true (.fork 13 true (.fork 14 true .done .nofork) .nofork) .nofork) .nofork) .nofork) .nofork)) (.fork 11 false (.fork 1 false (.fork 3 false (.fork 8 false (.fork 12 true (.fork 13 true (.fork 14 true .done .nofork) .nofork) .nofork) .nofork) .nofork) .nofork) .nofork)) (.fork 11 false (.fork 1 false (.fork 3 false (.fork 8 false (.fork 10 false (.fork 12 true (.fork 13 true (.fork 14 true .done .nofork) .nofork) .nofork) .nofork) (.fork 10 false (.fork 8 false (.fork 12 true (.fork 13 true (.fork 14 true .done .nofork) .nofork) .nofork) .nofork) .nofork)) (.fork 10 false (.fork 3 false (.fork 8 false (.fork 12 true (.fork 13 true (.fork 14 true .done .nofork) .nofork) .nofork) .nofork) .nofork) .nofork)) (.fork 10 false (.fork 1 false (.fork 3 false (.fork 8 false (.fork 12 true (.fork 13 true (.fork 14 true .done .nofork) .nofork) .nofork) .nofork) .nofork) .nofork) .nofork)) .nofork))) (.fork 10 false (.fork 1 false (.fork 3 false (.fork 8 false (.fork 9 false (.fork 11 false (.fork 12 true (.fork 13 true (.fork 14 true .done .nofork) .nofork) .nofork) .nofork) (.fork 11 false (.fork 9 false (.fork 12 true (.fork 13 true (.fork 14 true .done .nofork) .nofork) .nofork) .nofork) .nofork)) (.fork 9 false (.fork 8 false (.fork 11 false (.fork 12 true (.fork 13 true (.fork 14 true .done .nofork) .nofork) .nofork) .nofork) (.fork 11 false (.fork 8 false (.fork 12 true (.fork 13 true (.fork 14 true .done .nofork) .nofork) .nofork) .nofork) .nofork)) (.fork 11 false (.fork 8 false (.fork 9 false (.fork 12 true (.fork 13 true (.fork 14 true .done .nofork) .nofork) .nofork) .nofork) (.fork 9 false (.fork 8 false (.fork 12 true (.fork 13 true (.fork 14 true .done .nofork) .nofork) .nofork) .nofork) .nofork)) .nofork))) (.fork 9 false (.fork 3 false (.fork 8 false (.fork 11 false (.fork 12 true (.fork 13 true (.fork 14 true .done .nofork) .nofork) .nofork) .nofork) (.fork 11 false (.fork 8 false (.fork 12 true (.fork 13 true (.fork 14 true .done .nofork) .nofork) .nofork) .nofork) .nofork)) (.fork 11 false (.fork 3 false (.fork 8 false (.fork 12 true (.fork 13 true (.fork 14 true .done .nofork) .nofork) .nofork) .nofork) .nofork) .nofork)) (.fork 11 false (.fork 3 false (.fork 8 false (.fork 9 false (.fork 12 true (.fork 13 true (.fork 14 true .done .nofork) .nofork) .nofork) .nofork) (.fork 9 false (.fork 8 false (.fork 12 true (.fork 13 true (.fork 14 true .done .nofork) .nofork) .nofork) .nofork) .nofork)) (.fork 9 false (.fork 3 false (.fork 8 false (.fork 12 true (.fork 13 true (.fork 14 true .done .nofork) .nofork) .nofork) .nofork) .nofork) .nofork)) .nofork))) (.fork 9 false (.fork 1 false (.fork 3 false (.fork 8 false (.fork 11 false (.fork 12 true (.fork 13 true (.fork 14 true .done .nofork) .nofork) .nofork) .nofork) (.fork 11 false (.fork 8 false (.fork 12 true (.fork 13 true (.fork 14 true .done .nofork) .nofork) .nofork) .nofork) .nofork)) (.fork 11 false (.fork 3 false (.fork 8 false (.fork 12 true (.fork 13 true (.fork 14 true .done .nofork) .nofork) .nofork) .nofork) .nofork) .nofork)) (.fork 11 false (.fork 1 false (.fork 3 false (.fork 8 false (.fork 12 true (.fork 13 true (.fork 14 true .done .nofork) .nofork) .nofork) .nofork) .nofork) .nofork) .nofork)) (.fork 11 false (.fork 1 false (.fork 3 false (.fork 8 false (.fork 9 false (.fork 12 true (.fork 13 true (.fork 14 true .done .nofork) .nofork) .nofork) .nofork) (.fork 9 false (.fork 8 false (.fork 12 true (.fork 13 true (.fork 14 true .done .nofork) .nofork) .nofork) .nofork) .nofork)) (.fork 9 false (.fork 3 false (.fork 8 false (.fork 12 true (.fork 13 true (.fork 14 true .done .nofork) .nofork) .nofork) .nofork) .nofork) .nofork)) (.fork 9 false (.fork 1 false (.fork 3 false (.fork 8 false (.fork 12 true (.fork 13 true (.fork 14 true .done .nofork) .nofork) .nofork) .nofork) .nofork) .nofork) .nofork)) .nofork))) (.fork 11 false (.fork 1 false (.fork 3 false (.fork 8 false (.fork 9 false (.fork 10 false (.fork 12 true (.fork 13 true (.fork 14 true .done .nofork) .nofork) .nofork) .nofork) (.fork 10 false (.fork 9 false (.fork 12 true (.fork 13 true (.fork 14 true .done .nofork) .nofork) .nofork) .nofork) .nofork)) (.fork 9 false (.fork 8 false (.fork 10 false (.fork 12 true (.fork 13 true (.fork 14 true .done .nofork) .nofork) .nofork) .nofork) (.fork 10 false (.fork 8 false (.fork 12 true (.fork 13 true (.fork 14 true .done .nofork) .nofork) .nofork) .nofork) .nofork)) (.fork 10 false (.fork 8 false (.fork 9 false (.fork 12 true (.fork 13 true (.fork 14 true .done .nofork) .nofork) .nofork) .nofork) (.fork 9 false (.fork 8 false (.fork 12 true (.fork 13 true (.fork 14 true .done .nofork) .nofork) .nofork) .nofork) .nofork)) .nofork))) (.fork 9 false (.fork 3 false (.fork 8 false (.fork 10 false (.fork 12 true (.fork 13 true (.fork 14 true .done .nofork) .nofork) .nofork) .nofork) (.fork 10 false (.fork 8 false (.fork 12 true (.fork 13 true (.fork 14 true .done .nofork) .nofork) .nofork) .nofork) .nofork)) (.fork 10 false (.fork 3 false (.fork 8 false (.fork 12 true (.fork 13 true (.fork 14 true .done .nofork) .nofork) .nofork) .nofork) .nofork) .nofork)) (.fork 10 false (.fork 3 false (.fork 8 false (.fork 9 false (.fork 12 true (.fork 13 true (.fork 14 true .done .nofork) .nofork) .nofork) .nofork) (.fork 9 false (.fork 8 false (.fork 12 true (.fork 13 true (.fork 14 true .done .nofork) .nofork) .nofork) .nofork) .nofork)) (.fork 9 false (.fork 3 false (.fork 8 false (.fork 12 true (.fork 13 true (.fork 14 true .done .nofork) .nofork) .nofork) .nofork) .nofork) .nofork)) .nofork))) (.fork 9 false (.fork 1 false (.fork 3 false (.fork 8 false (.fork 10 false (.fork 12 true (.fork 13 true (.fork 14 true .done .nofork) .nofork) .nofork) .nofork) (.fork 10 false (.fork 8 false (.fork 12 true (.fork 13 true (.fork 14 true .done .nofork) .nofork) .nofork) .nofork) .nofork)) (.fork 10 false (.fork 3 false (.fork 8 false (.fork 12 true (.fork 13 true (.fork 14 true .done .nofork) .nofork) .nofork) .nofork) .nofork) .nofork)) (.fork 10 false (.fork 1 false (.fork 3 false (.fork 8 false (.fork 12 true (.fork 13 true (.fork 14 true .done .nofork) .nofork) .nofork) .nofork) .nofork) .nofork) .nofork)) (.fork 10 false (.fork 1 false (.fork 3 false (.fork 8 false (.fork 9 false (.fork 12 true (.fork 13 true (.fork 14 true .done .nofork) .nofork) .nofork) .nofork) (.fork 9 false (.fork 8 false (.fork 12 true (.fork 13 true (.fork 14 true .done .nofork) .nofork) .nofork) .nofork) .nofork)) (.fork 9 false (.fork 3 false (.fork 8 false (.fork 12 true (.fork 13 true (.fork 14 true .done .nofork) .nofork) .nofork) .nofork) .nofork) .nofork)) (.fork 9 false (.fork 1 false (.fork 3 false (.fork 8 false (.fork 12 true (.fork 13 true (.fork 14 true .done .nofork) .nofork) .nofork) .nofork) .nofork) .nofork) .nofork)) .nofork))) .nofork)))))))))) (by kernel_rfl) (by kernel_rfl) (.cons _ (.cons _ (.refl _))) (op_sliceA (nxpf U U) ae33 U .none .none .none (by omega) (by omega) (by omega) (by simp) U (aR (nxpf U U) U U (aR (nxpf U U) U U (bH (nxpf U U) U U (aJ (nxpf U U) fl71_2 U U (aU (nxpf U U) sc37 U BX U dG U ?_))))))
  refine At.net [(1,27,.agg (u8s q).toArray),(3,29,.agg (u8s z).toArray),(8,34,.agg (u8s y).toArray)] [(9,7,44,[.int .u8 0,.int .u8 0,.int .u8 0,.int .u8 0,.int .u8 0,.int .u8 0,.int .u8 0,.int .u8 0,.int .u8 0,.int .u8 0,.int .u8 0,.int .u8 0,.int .u8 0,.int .u8 0,.int .u8 0,.int .u8 0,.int .u8 0,.int .u8 0,.int .u8 0,.int .u8 0,.int .u8 0,.int .u8 0,.int .u8 0,.int .u8 0,.int .u8 0,.int .u8 0,.int .u8 0,.int .u8 0,.int .u8 0,.int .u8 0,.int .u8 0,.int .u8 0]),(10,8,45,[.int .u8 0,.int .u8 0,.int .u8 0,.int .u8 0,.int .u8 0,.int .u8 0,.int .u8 0,.int .u8 0,.int .u8 0,.int .u8 0,.int .u8 0,.int .u8 0,.int .u8 0,.int .u8 0,.int .u8 0,.int .u8 0,.int .u8 0,.int .u8 0,.int .u8 0,.int .u8 0,.int .u8 0,.int .u8 0,.int .u8 0,.int .u8 0,.int .u8 0,.int .u8 0,.int .u8 0,.int .u8 0,.int .u8 0,.int .u8 0,.int .u8 0,.int .u8 0]),(11,9,44,[.int .u8 0,.int .u8 0,.int .u8 0,.int .u8 0,.int .u8 0,.int .u8 0,.int .u8 0,.int .u8 0,.int .u8 0,.int .u8 0,.int .u8 0,.int .u8 0,.int .u8 0,.int .u8 0,.int .u8 0,.int .u8 0,.int .u8 0,.int .u8 0,.int .u8 0,.int .u8 0,.int .u8 0,.int .u8 0,.int .u8 0,.int .u8 0,.int .u8 0,.int .u8 0,.int .u8 0,.int .u8 0,.int .u8 0,.int .u8 0,.int .u8 0,.int .u8 0])] (.fork 12 true (.fork 13 true (.fork 14 true .done .nofork) .nofork) .nofork) (by kernel_rfl) (.cons _ (.cons _ (.refl _))) (by kernel_rfl) (by kernel_rfl) rfl (nvC (netCall rfl (.cons rfl .nil) (FKeccak_f s5 (by decide)) Tryz.func80 rfl rfl (by simp) rfl (by rintro v L ⟨rfl,rfl⟩;exact⟨by rw [hq],rfl⟩)) (nvC (netCall rfl (.cons rfl .nil) (FAcRoot haR hc) Tryz.func81 rfl rfl (by simp) rfl (by rintro v L ⟨rfl,rfl⟩;exact⟨by rw [hz],rfl⟩)) (nvC (netCall rfl (.cons rfl .nil) (FKeccak_f hC hCl) Tryz.func80 rfl rfl (by simp) rfl (by rintro v L ⟨rfl,rfl⟩;exact⟨by rw [hy],rfl⟩)) nvN))) (naC ⟨_,_,_,_,rfl,ze44,rfl,rfl⟩ (naC ⟨_,_,_,_,rfl,ze45,rfl,rfl⟩ (naC ⟨_,_,_,_,rfl,ze44,rfl,rfl⟩ naN))) ?_
  intro N7 b7 B7
  intro N8 b8 B8
  intro N9 b9 B9
  change Blk N7 b7 _ [.int .u8 0,.int .u8 0,.int .u8 0,.int .u8 0,.int .u8 0,.int .u8 0,.int .u8 0,.int .u8 0,.int .u8 0,.int .u8 0,.int .u8 0,.int .u8 0,.int .u8 0,.int .u8 0,.int .u8 0,.int .u8 0,.int .u8 0,.int .u8 0,.int .u8 0,.int .u8 0,.int .u8 0,.int .u8 0,.int .u8 0,.int .u8 0,.int .u8 0,.int .u8 0,.int .u8 0,.int .u8 0,.int .u8 0,.int .u8 0,.int .u8 0,.int .u8 0]at B7
  change Blk N8 b8 _ [.int .u8 0,.int .u8 0,.int .u8 0,.int .u8 0,.int .u8 0,.int .u8 0,.int .u8 0,.int .u8 0,.int .u8 0,.int .u8 0,.int .u8 0,.int .u8 0,.int .u8 0,.int .u8 0,.int .u8 0,.int .u8 0,.int .u8 0,.int .u8 0,.int .u8 0,.int .u8 0,.int .u8 0,.int .u8 0,.int .u8 0,.int .u8 0,.int .u8 0,.int .u8 0,.int .u8 0,.int .u8 0,.int .u8 0,.int .u8 0,.int .u8 0,.int .u8 0]at B8
  change Blk N9 b9 _ [.int .u8 0,.int .u8 0,.int .u8 0,.int .u8 0,.int .u8 0,.int .u8 0,.int .u8 0,.int .u8 0,.int .u8 0,.int .u8 0,.int .u8 0,.int .u8 0,.int .u8 0,.int .u8 0,.int .u8 0,.int .u8 0,.int .u8 0,.int .u8 0,.int .u8 0,.int .u8 0,.int .u8 0,.int .u8 0,.int .u8 0,.int .u8 0,.int .u8 0,.int .u8 0,.int .u8 0,.int .u8 0,.int .u8 0,.int .u8 0,.int .u8 0,.int .u8 0]at B9
  change At _ ((9,.pointer (some ⟨b9,0,none⟩))::(8,.pointer (some ⟨b8,0,none⟩))::(7,.pointer (some ⟨b7,0,none⟩))::(27,.agg (u8s q).toArray)::(29,.agg (u8s z).toArray)::(34,.agg (u8s y).toArray)::_) _ [N9,N8,N7,NT,N14,N5,R] _
  refine At.fork ?_ ?_
  rotate_left
  ·exact At.pNo
  refine bP (nxpa U U) sz44 U U U hku len_A1 B7 (by rw [hku];decide) sel2 (fun N7 B7=>?_)
  rw [setL_full (by rw [hku];rfl)]at B7
  refine At.andS (.cons _ (.cons _ (.cons _ (.cons _ (.cons _ (.refl _)))))) (At.fork ?_ ?_)
  rotate_left
  ·exact At.pNo
  refine bP (nxpa U U) sz45 U U U hzu len_A1 B8 (by rw [hzu];decide) sel2 (fun N8 B8=>?_)
  rw [setL_full (by rw [hzu];rfl)]at B8
  refine At.andS (.cons _ (.cons _ (.cons _ (.cons _ (.cons _ (.refl _)))))) (At.fork ?_ ?_)
  rotate_left
  ·exact At.pNo
  refine bP (nxpl U U) sz44 U U U hqu len_A1 B9 (by rw [hqu];decide) sel2 (fun N9 B9=>?_)
  rw [setL_full (by rw [hqu];rfl)]at B9
  refine At.pDone (aS (s_10 (aH fun _ s_11=>?_)))
  have s7:=blk8T B7 hk32 (by decide);have s8:=blk8T B8 hzl (by decide);have s9:=blk8T B9 hq32 (by decide)
  refine aY (cH (bF (bI (aY (aY (aY (cS [N7,N8,N9,R] [15,17] [6] [0,1,2,3,6,7,8,9,11,12,13,14,4,5,10,15,16,17,18,19,20,21,22] (by kernel_rfl) (by kernel_rfl) (.cons _ (.cons _ (.cons _ (.refl _)))) (aR (bB U U U) U U (bH (bB U U U) U U (aJ (bB U U U) fl71_0 U U (aU (bB U U U) sc34 U BX (rfl) mem3 U (aR (bB U U U) U U (bH (bB U U U) U U (aJ (bB U U U) fl71_1 U U (aK (ds:=u64s (wl x.ba)) (bB U U U) ag36 U BX (by rfl) (by rfl) mem3 U ?_)))))))))))))))
  refine op_sliceA (bB U U U) ae45 U .none .none .none (by omega) (by omega) (by omega) (by simp) U (op_build (out:= [.bool false,_,.slice none 0 0]) (bB U U U) ze137 pl137 (.cons U .nil) U U (op_sliceA (bB U U U) ae44 U .none .none .none (by omega) (by omega) (by omega) (by simp) U (op_build (out:= [.bool false,_,.slice none 0 0]) (bB U U U) ze137 pl137 (.cons U .nil) U U (bG (Nx.agree (nxsm U U U)) (.cons U .nil) (WOf_f x.no) Tryz.func84 U U (by simp) U ?_))))
  rintro _ _ ⟨rfl,rfl⟩
  show At _ _ _ [NT,N14,N5,N7,N8,N9,R] _
  refine At.moreS (Lst:= [N7,N8,N9,R]) (Lst':= [N7,N8,N9,R]) (.refl _) (.cons _ (.cons _ (.cons _ (.refl _)))) (bG (Nx.agree (nxsm U U U)) (.cons U .nil) (FOf_b (u64_ww x.no)) Tryz.func83 U U (by simp) U ?_)
  rintro _ _ ⟨M41,p41,k41,rfl,rfl,r41⟩
  show At _ _ _ [M41,NT,N14,N5,N7,N8,N9,R] _
  refine bM (bM (bM (bM (bA (bM (bM (bM (At.moreS (Lst:= [N7,N8,N9,R]) (Lst':= [M41,N7,N8,N9,R]) (.cons _ (.refl _)) (.cons _ (.cons _ (.cons _ (.refl _)))) (bG (Nx.agree (nxsm U U U)) (.cons U .nil) (hFO) Tryz.func83 U U (by simp) U ?_)))))))))
  rintro _ _ ⟨M46,p46,k46,rfl,rfl,r46⟩
  show At _ _ _ [M46,NT,N14,N5,M41,N7,N8,N9,R] _
  refine a6 (a6 (a6 (a6 (a6 (bS (a6 (a6 (a6 (At.moreS (Lst:= [M41,N7,N8,N9,R]) (Lst':= [M46,M41,N7,N8,N9,R]) (.cons _ (.refl _)) (.cons _ (.cons _ (.cons _ (.refl _)))) (op_lit (Nx.agree (nxss U U U U)) Tryz.underlying135 ze137 sz137 (.cons U (.cons U (.cons U (.cons U .nil)))) U U (by simp [Value.cells]) U U U (fun N51 a51 r51=>?_)))))))))))
  simp only [flatV,List.flatMap_cons,List.flatMap_nil,Value.cells,List.append_nil,List.cons_append,List.nil_append]at r51
  have s51:=r51.rsl
  refine At.anyS (.refl _) (op_build (out:= [_,.slice none 0 0,_]) (bB U U U) ze137 pl137 (.cons U (.cons U .nil)) U U ?_)
  refine bG (Nx.agree (nxss U U U U)) (.cons U .nil) (Fn.overJ (Ns:= [N51,M41,M46,N8,N9]) fun J hJ=>Encode_ok (t:=it) (x:=ivL a51 4 4) (by rw [hie];exact ItN_L (xs:= [ivS _ _ _,ivS _ _ _,ivS _ _ _,ivS _ _ _]) (s51.le (hJ _ (by simp))) (ItsN_cons (ItN_S (r41.le (hJ _ (by simp)))) (ItsN_cons (ItN_S (r46.le (hJ _ (by simp)))) (ItsN_cons (ItN_S (s8.le (hJ _ (by simp)))) (ItsN_cons (ItN_S (s9.le (hJ _ (by simp)))) ItsN_nil))))) (by rw [hif];exact Nat.le_trans hfl (by decide)) hid) Tryz.func82 U U (by simp) U ?_
  rintro _ _ ⟨M53,a53,c53,rfl,rfl,r53⟩
  show At _ _ _ [M53,N51,NT,N14,N5,M46,M41,N7,N8,N9,R] _
  rw [hif]at r53⊢
  refine At.anyS (.refl _) (aR (bB U U U) U U (bW (bB U U U) U U U (bW (bB U U U) U U U (cZ (bB U U U) U U (cZ (bB U U U) U U (dH (aS (s_11 (aB (bC U U (op_sliceA aN ae44 U .none .none .none (by omega) (by omega) (by omega) (by simp) U (bC U U (bO (bO (bO (bO (bO (bO (bO (bO (bR (bR (bO (cR nxQ (.cons U (.cons U (.cons U .nil))) (FPut hT (k:=q) (v:=pf) s7 r53.rsl (by decide) (Nat.le_trans hfl (by decide)) (by omega)) (F:= [M53,N51,N14,N5,M46,M41,N7,N8,N9,R]) Tryz.func85 U U aZ (by simp) U ?_))))))))))))))))))))))))
  rintro _ _ ⟨NT2,rfl,rfl,hT2⟩
  show At _ _ _ [NT2,M53,N51,N14,N5,M46,M41,N7,N8,N9,R] _
  refine cE (cJ (aS (s_7 (aB (dD aN U U (by omega) (by omega) U (bC U U (aI (dropAt9 (dropAt8 (dropAt7 (dropAt6 (dropAt5 (dropAt4 (dropAt2 (cT (At.back ?_ aZ ⟨i+1,NT2,rfl,rfl,rfl,by omega,hT3 hT2⟩ ?_))))))))))))))))
  ·repeat first|apply cW|exact .nil|exact lkI rfl (by omega)|rfl
  ·omega
 refine At.exit (bD (bD (dE (aS (s_3 (aH fun _ s_12=>aB (bC U U (bV U U (aI (s_12 (cK ((cT (cF (L1:= [NT]) U (.tmp U .nil) (.refl _) aZ ?_))))))))))))))
 have hin:i=n:=by omega
 rw [hin,List.take_of_length_le (by omega)]at hT
 exact⟨NT,b12,n,rfl,rfl,hT⟩
end Go.Proofs.YtalmjkcapecpiaaGreat
