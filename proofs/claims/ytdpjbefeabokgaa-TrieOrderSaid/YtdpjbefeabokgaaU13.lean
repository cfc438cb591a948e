/- Several texts in one: see the remarks ahead of each part. No condition but those told there. -/
import Derived.Test.YtdpjbefeabokgaaU4
import Derived.Maps.OwnSet
import Derived.DeepKeys4
import Derived.Test.YtdpjbefeabokgaaU10
import Derived.Test.YtdpjbefeabokgaaU12
import Derived.Shelf.SlIter.Nil
import Derived.Shelf.SortM.Plain
import Derived.Shelf.SortM.SortNone
import Derived.Ground.GgzProg
import Derived.Ground.SlgmProg
import Derived.Test.YtdpjbefeabokgaaProg
import Derived.Laws.IdiomStrings
set_option linter.unusedSimpArgs false
set_option linter.unusedVariables false
/- The engine: maps of whatever values, made, written, read and struck out of. For whatever program. No condition. -/
namespace Go.Proofs.Ytdpjbefeabokgaa
open Go Go.RowKit
open Go.Maps (Keyed)
open Go.MapKept Go.ChangeShapes Go.WideShapes
/-- A value read as itself. -/
def heldV (v:Value):Option (DataW Value×List MemPlace):=some (.held v,[])
/-- Block b of N is a map of at most n keys that reads as D. -/
def MapV (P:Program) (k:TypeId) (N:Heaplet) (b n:Nat) (D:DataW Value):Prop:= ∃es clock,N b=some (.map es clock)∧ ∀w:World,w.heap[b]? =some (.map es clock)→w.ownsMap P k heldV b n D
theorem MapV.le {P:Program} {k:TypeId} {N M:Heaplet} {b n:Nat} {D:DataW Value} (h:MapV P k N b n D) (hl:N.le M):MapV P k M b n D:=let ⟨es,c,h1,h2⟩:=h;⟨es,c,hl _ _ h1,h2⟩
theorem MapV.mono {P:Program} {k:TypeId} {N:Heaplet} {b n m:Nat} {D:DataW Value} (h:MapV P k N b n D) (hl:n≤m):MapV P k N b m D:=let ⟨es,c,h1,h2⟩:=h;⟨es,c,h1,fun w hw=>(h2 w hw).mono hl⟩
/-- Another block's cells are read as before. -/
theorem MapV.off {P:Program} {k:TypeId} {N N':Heaplet} {b n:Nat} {D:DataW Value} (h:MapV P k N b n D) (ho: ∀j,j≠b→N' j=N j) {c i:Nat} {v:Value} (hc:cellOf N c i=some v):cellOf N' c i=some v:=by
 obtain⟨es,cl,h1,_⟩:=h
 by_cases e:c=b
 ·unfold cellOf at hc
  rw [e,h1]at hc;cases hc
 ·unfold cellOf at hc⊢
  rw [ho c e];exact hc
theorem MapV.rsl {P:Program} {k:TypeId} {N N':Heaplet} {b n:Nat} {D:DataW Value} (h:MapV P k N b n D) (ho: ∀j,j≠b→N' j=N j) {size:Nat} {ao:Option Addr} {m cap:Nat} {xs:List Value} (hr:RSl N size ao m cap xs):RSl N' size ao m cap xs:=
 ⟨hr.1,hr.2.1,hr.2.2.1,fun h0=>let ⟨b',off,e,hg⟩:=hr.2.2.2 h0;⟨b',off,e,fun i hi=>h.off ho (hg i hi)⟩⟩
theorem MapV.ne {P:Program} {k:TypeId} {N:Heaplet} {b n c:Nat} {D:DataW Value} {e:TypeId} {cs:List Value} (h:MapV P k N b n D) (hb:Blk N c e cs):c≠b:=fun e=>by
 obtain⟨es,cl,h1,_⟩:=h
 unfold Blk at hb
 rw [e,h1]at hb;cases hb
theorem MapV.blk {P:Program} {k:TypeId} {N N':Heaplet} {b n c:Nat} {D:DataW Value} {e:TypeId} {cs:List Value} (h:MapV P k N b n D) (ho: ∀j,j≠b→N' j=N j) (hb:Blk N c e cs):Blk N' c e cs:=by
 have:=h.ne hb
 unfold Blk at hb⊢
 rw [ho c this];exact hb
theorem keyOf_strV {P:Program} {k:TypeId} (hk:P.underlying k=some .string) {x:List UInt8} (h:x.length≤maxLen):keyOf P k (str x)=some (.string x):=by
 simp [keyOf,hk,mapKey,str,ByteArray.size,h]
section
variable {P : Program} {n : Nat} {l : List (Nat × Value)} {E : World} {L L1 Ls : List Heaplet} {X Y : Act → World → Prop} {d : Nat} {t t' ty k e : TypeId} {m x y : Operand} {N : Heaplet} {b c : Nat} {D : DataW Value}
theorem op_makeMapV {pos:_} {aft:_} {g:_} (k:TypeId) (s:NxA P n l E L ⟨some d,.makeMap t none,ty,pos,aft,g⟩ X Y) (hn:Nat.ble (d+1) n=true) (h: ∀N b,MapV P k N b 0 (.map [])→At n ((d,.map (some b))::l) E (N::L) Y):At n l E L X:=by
 refine op_new s (fun v L'=> ∃N b,v=.map (some b)∧L'=N::L∧MapV P k N b 0 (.map [])) (fun a w hf hw=>?_) rfl hn (fun v L' ⟨N,b,hv,hL,hB⟩=>by subst hv;subst hL;exact h N b hB)
 refine⟨.map (some w.heap.size),w.alloc (.map #[] 0),_,?_,Agree.alloc w _,hw.alloc _,single w.heap.size (.map #[] 0),w.heap.size,rfl,rfl, #[],0,single_self _ _,fun w' hw'=>?_⟩
 ·simp only [execOp,Instr.makeMap,Option.map_none,Sem.run_bind,Sem.run_pure,Result.andThen_ok]
  rfl
 ·exact⟨#[],0,hw',⟨by simp,stamped_empty 0,by simp⟩,Nat.le_refl _,rfl⟩
theorem op_mapUpdateV {pos:_} {aft:_} {g:_} {key val:Value} {kl:Lit} (s:Nx P n l E L ⟨none,.mapUpdate t m x y,ty,pos,aft,g⟩ X Y) (K:Keyed P k) (ht:P.underlying t=some (.map k e)) (hm:ev l m=some (.map (some b))) (hx:ev l x=some key) (hy:ev l y=some val) (hb:MapV P k N b c D) (hc:c<maxLen) (hk:keyOf P k key=some kl) (hs:L.Perm (N::L1))
 (h: ∀N',MapV P k N' b (c+1) (D.put kl (.held val))→(∀j,j≠b→N' j=N j)→At n l E (N'::L1) Y):At n l E L X:=fun a w hf hw=>by
 have hw2:=hw.perm hs
 obtain⟨es,clock,hN,hown⟩:=hb
 have hheap:=hw2.sub N (List.mem_cons_self ..) _ _ hN
 have ho:=hown w hheap
 obtain⟨w',hr,ho',hg⟩:=ho.update K ht hc hk (val:=val) (d:=.held val) (ps:= []) rfl
 obtain⟨es',clock',hb',F',hs',hD'⟩:=ho'
 have henv:=grown_env hg
 refine s a w hf hw ?_
 unfold Oper.wp
 have hrun:(execOp a.eval ⟨none,.mapUpdate t m x y,ty,pos,aft,g⟩).run P w=.ok .skip w':=by
  simp only [execOp,hf.eval hm,hf.eval hx,hf.eval hy,Sem.run_bind,hr,Result.andThen_ok]
  rfl
 rw [hrun]
 exact h (upd N b (.map es' clock')) ⟨es',clock',upd_self _ _ _,fun w2 hw2=>⟨es',clock',hw2,F',hs',hD'⟩⟩ (fun j hj=>if_neg hj) a w' hf (hw2.put hN henv.1 henv.2.1 henv.2.2 hb' fun k hk hlt=>grown_block hg hlt (by
  intro h;exact hk (Option.some.inj h).symm))
theorem op_deleteV {pos:_} {aft:_} {g:_} {key:Value} {kl:Lit} (s:Nx P n l E L ⟨none,.call ⟨.builtin .delete, #[x,y], #[t,k]⟩,ty,pos,aft,g⟩ X Y) (K:Keyed P k) (ht:P.underlying t=some (.map k e)) (hm:ev l x=some (.map (some b))) (hx:ev l y=some key) (hb:MapV P k N b c D) (hk:keyOf P k key=some kl) (hs:L.Perm (N::L1))
 (h: ∀N',MapV P k N' b c (D.del kl)→(∀j,j≠b→N' j=N j)→At n l E (N'::L1) Y):At n l E L X:=fun a w hf hw=>by
 have hw2:=hw.perm hs
 obtain⟨es,clock,hN,hown⟩:=hb
 have hheap:=hw2.sub N (List.mem_cons_self ..) _ _ hN
 have ho:=hown w hheap
 obtain⟨w',hr,ho',hg⟩:=ho.drop K ht hk ty
 have hgr:=hg.grown
 obtain⟨es',clock',hb',F',hs',hD'⟩:=ho'
 have henv:=grown_env hgr
 refine s a w hf hw ?_
 unfold Oper.wp
 have hrun:(execOp a.eval ⟨none,.call ⟨.builtin .delete, #[x,y], #[t,k]⟩,ty,pos,aft,g⟩).run P w=.ok (.value (.tuple #[])) w':=by
  simp only [execOp,resolve,invoke,builtin,Sem.run_bind,Sem.run_pure,Result.andThen_ok,List.map_toArray,List.map_cons,List.map_nil,hf.eval hm,hf.eval hx,hr]
 rw [hrun]
 exact h (upd N b (.map es' clock')) ⟨es',clock',upd_self _ _ _,fun w2 hw2=>⟨es',clock',hw2,F',hs',hD'⟩⟩ (fun j hj=>if_neg hj) a w' hf (hw2.put hN henv.1 henv.2.1 henv.2.2 hb' fun k hk hlt=>grown_block hgr hlt (by
  intro h;exact hk (Option.some.inj h).symm))
theorem op_lookupV {pos:_} {aft:_} {g:_} {key z v:Value} {kl:Lit} (s:NxA P n l E L ⟨some d,.lookup t m x true,ty,pos,aft,g⟩ X Y) (K:Keyed P k) (ht:P.underlying t=some (.map k e)) (hz: ∀w,(zeroValue e).run P w=.ok z w) (hm:ev l m=some (.map (some b))) (hx:ev l x=some key) (hb:MapV P k N b c D) (hk:keyOf P k key=some kl) (hv:D.atKey kl (.held z)=.held v) (hN:N∈L) (hn:Nat.ble (d+1) n=true)
 (h:At n ((d,.tuple #[v,.bool (Maps.has D kl)])::l) E L Y):At n l E L X:=by
 refine op_new s (fun x L'=>x=(.tuple #[v,.bool (Maps.has D kl)])∧L'=L) (fun a w hf hw=>⟨_,w,L,?_,fun _ _=>rfl,hw,rfl,rfl⟩) rfl hn (fun x L' ⟨hx',hL'⟩=>by subst hx';subst hL';exact h)
 obtain⟨es,clock,hNb,hown⟩:=hb
 obtain⟨v',ps,hr,hv'⟩:=(hown w (hw.sub N hN _ _ hNb)).look_ok K ht (hz w) (zd:=.held z) (zp:= []) rfl hk
 rw [hv]at hv'
 have e1:v'=v:=by
  simp only [heldV,Option.some.injEq,Prod.mk.injEq,DataW.held.injEq]at hv'
  exact hv'.1
 rw [e1]at hr
 simp only [execOp,hf.eval hm,hf.eval hx,Sem.run_bind,hr,Result.andThen_ok]
 rfl
theorem op_lookupV1 {pos:_} {aft:_} {g:_} {key z v:Value} {kl:Lit} (s:NxA P n l E L ⟨some d,.lookup t m x false,ty,pos,aft,g⟩ X Y) (K:Keyed P k) (ht:P.underlying t=some (.map k e)) (hz: ∀w,(zeroValue e).run P w=.ok z w) (hm:ev l m=some (.map (some b))) (hx:ev l x=some key) (hb:MapV P k N b c D) (hk:keyOf P k key=some kl) (hv:D.atKey kl (.held z)=.held v) (hN:N∈L) (hn:Nat.ble (d+1) n=true)
 (h:At n ((d,v)::l) E L Y):At n l E L X:=by
 refine op_new s (fun x L'=>x=v∧L'=L) (fun a w hf hw=>⟨_,w,L,?_,fun _ _=>rfl,hw,rfl,rfl⟩) rfl hn (fun x L' ⟨hx',hL'⟩=>by subst hx';subst hL';exact h)
 obtain⟨es,clock,hNb,hown⟩:=hb
 obtain⟨v',ps,hr,hv'⟩:=(hown w (hw.sub N hN _ _ hNb)).lookup K ht (hz w) (zd:=.held z) (zp:= []) rfl hk
 rw [hv]at hv'
 have e1:v'=v:=by
  simp only [heldV,Option.some.injEq,Prod.mk.injEq,DataW.held.injEq]at hv'
  exact hv'.1
 rw [e1]at hr
 simp only [execOp,hf.eval hm,hf.eval hx,Sem.run_bind,hr,Result.andThen_ok]
 rfl
theorem op_lenV {pos:_} {aft:_} {g:_} (s:NxF P n l E L Ls ⟨some d,.call ⟨.builtin .len, #[x], #[t]⟩,ty,pos,aft,g⟩ X Y) (ht:P.underlying t=some (.map k e)) (hx:ev l x=some (.map (some b))) (hb:MapV P k N b c D) (hN:N∈Ls) (hn:Nat.ble (d+1) n=true) (h:At n ((d,.int .i64 (Maps.size D:Int))::l) E L Y):At n l E L X:=by
 refine op_val s (fun a w hf hw=>?_) rfl hn h
 obtain⟨es,clock,hNb,hown⟩:=hb
 have hl:=(hown w (hw.sub N hN _ _ hNb)).len ht ty
 simp only [execOp,resolve,invoke,builtin,Sem.run_bind,Sem.run_pure,Result.andThen_ok,List.map_toArray,List.map_cons,List.map_nil,hf.eval hx,hl]
end
end Go.Proofs.Ytdpjbefeabokgaa
/- Layer 12: a trie made, written, read, struck out of, counted. No condition but bounds. -/
namespace Go.Proofs.Ytdpjbefeabokgaa
open Go Go.RowKit
set_option maxRecDepth 100000
/-- A trie at block bt that holds R, after at most c puts; all lies in N. -/
def TrieN (N:Heaplet) (bt c:Nat) (R:List PR):Prop:= ∃mb D,Blk N bt 68 [.map (some mb)]∧MapV Try.prog 9 N mb c D∧MapIs D N R∧Good R
theorem TrieN.le {N M:Heaplet} {bt c:Nat} {R:List PR} (h:TrieN N bt c R) (hl:N.le M):TrieN M bt c R:=by
 obtain⟨mb,D,h1,h2,h3,h4⟩:=h
 exact⟨mb,D,h1.le hl,h2.le hl,h3.le hl,h4⟩
theorem TrieN.mono {N:Heaplet} {bt c d:Nat} {R:List PR} (h:TrieN N bt c R) (hl:c≤d):TrieN N bt d R:=by
 obtain⟨mb,D,h1,h2,h3,h4⟩:=h
 exact⟨mb,D,h1,h2.mono hl,h3,h4⟩
theorem MapIs.off {P:Program} {k:TypeId} {D D0:DataW Value} {N N':Heaplet} {b n:Nat} {R:List PR} (h:MapIs D N R) (hm:MapV P k N b n D0) (ho: ∀j,j≠b→N' j=N j):MapIs D N' R:=
 ⟨h.dis,h.tidy,h.size,h.has,fun p hp=>let ⟨a,c,h1,h2⟩:=h.val p hp;⟨a,c,h1,hm.rsl ho h2⟩⟩
theorem MapIs.look {D:DataW Value} {N:Heaplet} {R:List PR} (h:MapIs D N R) (k:List UInt8): ∃a n c,D.atKey (.string k) (.held (.slice none 0 0))=.held (.slice a n c)∧n=((getR R k).getD []).length∧RSl N 1 a n c (u8s ((getR R k).getD [])):=by
 cases hg:getR R k with
 |none=>
  have hh:Maps.has D (.string k)=false:=by
   rw [h.has k]
   cases hk:hasM k R with
   |false=>rfl
   |true=>exact absurd hg ((has_get h.dis).1 hk)
  exact⟨none,0,0,Maps.atKey_of_not_has hh _,rfl,RSl.nil _ _⟩
 |some v=>
  obtain⟨a,c,h1,h2⟩:=h.val (k,v) ((get_iff h.dis).1 hg)
  exact⟨a,_,c,h1 _,rfl,h2⟩
theorem FNew:Fn Try.prog 7 #[] [] [] (fun v L=> ∃N bt,v=.pointer (some ⟨bt,0,none⟩)∧L= [N]∧TrieN N bt 0 []):=by
 refine Fn.enter (vs:= []) Try.func7 rfl rfl rfl ?_
 intro E R hR
 change At _ _ E [R] _
 refine At.seq fun _ s_1=>At.region (aE (aD rfl) rfl rfl (aB (aA (s_1 (At.seq fun _ s_2=>At.region (op_makeMapV 9 (aX rfl) rfl (fun N1 b1 M1=>op_build (out:= [_]) (aD rfl) ze68 pl68 (.cons rfl .nil) rfl rfl (op_box (aX rfl) rfl rfl rfl (fun N3 b3 B3=>aE (aD rfl) rfl rfl (aB (aA (s_2 (At.ret ((At.mergeN (fun Q Q1 Q2=>aQ (L1:= [Q]) rfl (.tmp rfl .nil) (.refl _) (.refl _) ?_))))))))))))))))
 exact⟨Q,b3,rfl,rfl,b1,_,B3.le Q1,M1.le Q2,MapIs.nil _,Good.nil⟩
section
variable {Nt K V : Heaplet} {bt c : Nat} {R0 : List PR} {ka va : Option Addr} {kn kc vn vc : Nat} {k v : List UInt8}
set_option maxHeartbeats 1000000 in
theorem FPut (h:TrieN Nt bt c R0) (hk:RSl K 1 ka kn kc (u8s k)) (hv:RSl V 1 va vn vc (u8s v)) (hkn:kn≤40) (hvn:vn≤1000000) (hc:c≤1099511627776):Fn Try.prog 11 #[.pointer (some ⟨bt,0,none⟩),.slice ka kn kc,.slice va vn vc] [Nt] [K,V] (fun x L=> ∃N',x=.tuple #[]∧L= [N']∧TrieN N' bt (c+1) (putM k v R0)):=by
 obtain⟨mb,D,Bt,hM,hI,hG⟩:=h
 have hkl:=hk.len8
 have hvl:=hv.len8
 have hne:=hM.ne Bt
 refine Fn.enter (vs:= [.pointer (some ⟨bt,0,none⟩),.slice ka kn kc,.slice va vn vc]) Try.func11 rfl rfl rfl ?_
 intro E R hR
 have hk:=hk.le (hR K (by simp))
 have hv:=hv.le (hR V (by simp))
 have hkey:keyOf Try.prog 9 (str k)=some (.string k):=keyOf_strV Try.underlying9 (by unfold maxLen;omega)
 change At _ _ E [Nt,R] _
 refine At.seq fun _ s_1=>At.seq fun _ s_2=>At.region (aC (aD rfl) rfl rfl (aS (aD rfl) se33 rfl rfl (op_eql (aD rfl) rfl rfl rfl (aB (aA (s_2 (aL rfl (fun c8=>?_) (fun c8=>?_))))))))
 ·refine At.seq fun _ s_3=>At.perm sel0 (At.perm sel1 (At.drawnS [R,Nt] [6] [] [0,1,2,3,4,5,6] (by kernel_rfl) (by kernel_rfl) (.refl _) (aC (aM rfl rfl rfl) rfl rfl (bC (aM rfl rfl rfl) rfl rfl (aG (aM rfl rfl rfl) fl68_0 rfl rfl (aJ (aM rfl rfl rfl) sc66 rfl Bt (by first|rfl) aV rfl ?_))))))
  refine aC (aM rfl rfl rfl) rfl rfl (op_str (aM rfl rfl rfl) Try.underlying33 Try.underlying5 Try.underlying9 rfl (by assumption) (by first|exact aN|exact aV|exact aZ|exact mem3|exact mem4|exact mem5|exact mem6|exact mem7|exact mem8|exact mem9) rfl ?_)
  refine op_deleteV (nxsl rfl rfl rfl rfl) (Maps.string_keyed Try.underlying9) Try.underlying66 rfl rfl hM hkey sel1 (fun N1 hM1 ho1=>At.sNil (aA (s_3 (At.ret (bA ((At.retN (L1:= [N1]) rfl .nil rfl (.refl _) (.refl _) ?_)))))))
  have e:v= []:=List.eq_nil_of_length_eq_zero (by omega)
  exact⟨N1,rfl,rfl,mb,_,hM.blk ho1 Bt,hM1.mono (by omega),by rw [putM,if_pos e];exact(hI.off hM ho1).del k,hG.put (by omega) (by omega)⟩
 refine At.skip (aA (s_1 (At.perm sel0 (At.perm sel1 (At.drawnS [R,Nt] [8] [0,4] [0,1,2,3,4,5,6,7,8] (by kernel_rfl) (by kernel_rfl) (.refl _) (aC (aM rfl rfl rfl) rfl rfl (bC (aM rfl rfl rfl) rfl rfl (aG (aM rfl rfl rfl) fl68_0 rfl rfl (aJ (aM rfl rfl rfl) sc66 rfl Bt (by first|rfl) aV rfl ?_)))))))))
 refine aC (aM rfl rfl rfl) rfl rfl (op_str (aM rfl rfl rfl) Try.underlying33 Try.underlying5 Try.underlying9 rfl (by assumption) (by first|exact aN|exact aV|exact aZ|exact mem3|exact mem4|exact mem5|exact mem6|exact mem7|exact mem8|exact mem9) rfl ?_)
 refine aC (aM rfl rfl rfl) rfl rfl (aH (Nx.agree (nxsm rfl rfl rfl)) (.cons rfl .nil) (FClone hv (by omega)) Try.func30 rfl rfl (by simp) rfl ?_)
 rintro v22 L22 ⟨M22,a22,c22,rfl,rfl,r22⟩
 change At _ _ _ [M22,R,Nt] _
 refine At.moreS (Lst:= [R,Nt]) (Lst':= [M22,R,Nt]) (.cons _ (.refl _)) (.refl _) ?_
 refine op_mapUpdateV (nxsl rfl rfl rfl rfl) (Maps.string_keyed Try.underlying9) Try.underlying66 rfl rfl rfl hM (by unfold maxLen;omega) hkey sel2 (fun N2 hM2 ho2=>?_)
 refine At.sNil (At.mergeN (fun Q Q1 Q2=>At.retNE (L1:= [Q]) rfl .nil rfl (.refl _) (.refl _) ?_))
 have e:v≠ []:=fun e=>c8 (by rw [←hvl,e];rfl)
 rw [←hvl]at r22
 exact⟨Q,rfl,rfl,mb,_,(hM.blk ho2 Bt).le Q1,(hvl▸hM2).le Q1,((hI.off hM ho2).le Q1).put e (r22.rsl.le Q2),hG.put (by omega) (by omega)⟩
theorem FGet (h:TrieN Nt bt c R0) (hk:RSl K 1 ka kn kc (u8s k)) (hkn:kn≤1099511627776):Fn Try.prog 13 #[.pointer (some ⟨bt,0,none⟩),.slice ka kn kc] [] [Nt,K] (fun x L=> ∃M a cp,x=.tuple #[.slice a ((getR R0 k).getD []).length cp,.bool (hasM k R0)]∧L= [M]∧Row M 5 1 a ((getR R0 k).getD []).length cp (u8s ((getR R0 k).getD []))):=by
 obtain⟨mb,D,Bt,hM,hI,hG⟩:=h
 have hkl:=hk.len8
 refine Fn.enter (vs:= [.pointer (some ⟨bt,0,none⟩),.slice ka kn kc]) Try.func13 rfl rfl rfl ?_
 intro E R hR
 have hk:=hk.le (hR K (by simp))
 have hle:=hR Nt (by simp)
 have BR:=Bt.le hle
 have hM:=hM.le hle
 have hI:=hI.le hle
 have hkey:keyOf Try.prog 9 (str k)=some (.string k):=keyOf_strV Try.underlying9 (by unfold maxLen;omega)
 obtain⟨a,n,cp,hat,hn,hr⟩:=hI.look k
 have hn6:n≤1000000:=by
  rw [hn]
  cases hg:getR R0 k with
  |none=>simp
  |some u=>exact(hG.val _ ((get_iff hG.dis).1 hg)).2
 change At _ _ E [R] _
 refine At.seq fun _ s_1=>At.region (aE (aD rfl) rfl rfl (aE (aD rfl) rfl rfl (aB (aA (s_1 (At.seq fun _ s_2=>At.drawn [6] [0,1,2,3,4,5,6,7,8,9,10,11] (by kernel_rfl) (by kernel_rfl) (aC (aI rfl rfl rfl (by kernel_rfl)) rfl rfl (bC (aI rfl rfl rfl (by kernel_rfl)) rfl rfl (aG (aI rfl rfl rfl (by kernel_rfl)) fl68_0 rfl rfl (aJ (aI rfl rfl rfl (by kernel_rfl)) sc66 rfl BR (by first|rfl) aN rfl ?_))))))))))
 refine aC (aI rfl rfl rfl (by kernel_rfl)) rfl rfl (op_str (aI rfl rfl rfl (by kernel_rfl)) Try.underlying33 Try.underlying5 Try.underlying9 rfl (by assumption) (by first|exact aN|exact aV|exact aZ|exact mem3|exact mem4|exact mem5|exact mem6|exact mem7|exact mem8|exact mem9) rfl ?_)
 refine op_lookupV (nxosa rfl rfl rfl rfl) (Maps.string_keyed Try.underlying9) Try.underlying66 (fun _=>rfl) rfl rfl hM hkey (hat) (by first|exact aN|exact aV|exact aZ|exact mem3|exact mem4|exact mem5|exact mem6|exact mem7|exact mem8|exact mem9) rfl (aC (aI rfl rfl rfl (by kernel_rfl)) rfl rfl (op_extract (aI rfl rfl rfl (by kernel_rfl)) rfl rfl rfl (op_extract (aI rfl rfl rfl (by kernel_rfl)) rfl rfl rfl (aE (aI rfl rfl rfl (by kernel_rfl)) rfl rfl (aE (aI rfl rfl rfl (by kernel_rfl)) rfl rfl (At.oneNil (aA (s_2 (At.seq fun _ s_3=>At.region (aC (aD rfl) rfl rfl (aH (aX rfl) (.cons rfl .nil) (FClone hr (by omega)) Try.func30 rfl rfl (by simp) rfl ?_)))))))))))
 rintro v19 L19 ⟨M19,a19,c19,rfl,rfl,r19⟩
 change At _ _ _ [M19,R] _
 refine aC (aD rfl) rfl rfl (aE (aD rfl) rfl rfl (aE (aD rfl) rfl rfl (aB (aA (s_3 (At.ret ((At.retN (L1:= [M19]) rfl (.tmp rfl (.tmp rfl .nil)) rfl (.refl _) (.refl _) ?_))))))))
 rw [hn]at r19
 exact⟨M19,a19,c19,by rw [hn,hI.has k],rfl,r19⟩
theorem FDelete (h:TrieN Nt bt c R0) (hk:RSl K 1 ka kn kc (u8s k)) (hkn:kn≤1099511627776):Fn Try.prog 14 #[.pointer (some ⟨bt,0,none⟩),.slice ka kn kc] [Nt] [K] (fun x L=> ∃N',x=.bool (hasM k R0)∧L= [N']∧TrieN N' bt c (delM k R0)):=by
 obtain⟨mb,D,Bt,hM,hI,hG⟩:=h
 have hkl:=hk.len8
 have hne:=hM.ne Bt
 refine Fn.enter (vs:= [.pointer (some ⟨bt,0,none⟩),.slice ka kn kc]) Try.func14 rfl rfl rfl ?_
 intro E R hR
 have hk:=hk.le (hR K (by simp))
 have hkey:keyOf Try.prog 9 (str k)=some (.string k):=keyOf_strV Try.underlying9 (by unfold maxLen;omega)
 obtain⟨a,n,cp,hat,hn,hr⟩:=hI.look k
 change At _ _ E [Nt,R] _
 refine At.seq fun _ s_1=>At.region (aE (aD rfl) rfl rfl (aB (aA (s_1 (At.seq fun _ s_2=>At.drawn [6] [0,1,2,3,4,5,6,7,8,9,10,11] (by kernel_rfl) (by kernel_rfl) (aC (aI rfl rfl rfl (by kernel_rfl)) rfl rfl (bC (aI rfl rfl rfl (by kernel_rfl)) rfl rfl (aG (aI rfl rfl rfl (by kernel_rfl)) fl68_0 rfl rfl (aJ (aI rfl rfl rfl (by kernel_rfl)) sc66 rfl Bt (by first|rfl) aN rfl ?_)))))))))
 refine aC (aI rfl rfl rfl (by kernel_rfl)) rfl rfl (op_str (aI rfl rfl rfl (by kernel_rfl)) Try.underlying33 Try.underlying5 Try.underlying9 rfl (by assumption) (by first|exact aN|exact aV|exact aZ|exact mem3|exact mem4|exact mem5|exact mem6|exact mem7|exact mem8|exact mem9) rfl ?_)
 refine op_lookupV (nxosa rfl rfl rfl rfl) (Maps.string_keyed Try.underlying9) Try.underlying66 (fun _=>rfl) rfl rfl hM hkey (hat) (by first|exact aN|exact aV|exact aZ|exact mem3|exact mem4|exact mem5|exact mem6|exact mem7|exact mem8|exact mem9) rfl (aC (aI rfl rfl rfl (by kernel_rfl)) rfl rfl (op_extract (aI rfl rfl rfl (by kernel_rfl)) rfl rfl rfl (op_extract (aI rfl rfl rfl (by kernel_rfl)) rfl rfl rfl (aE (aI rfl rfl rfl (by kernel_rfl)) rfl rfl (aE (aI rfl rfl rfl (by kernel_rfl)) rfl rfl (At.oneNil (aA (s_2 (At.seq fun _ s_3=>At.perm sel0 (At.perm sel1 (At.drawnS [R,Nt] [6] [] [0,1,2,3,4,5,6] (by kernel_rfl) (by kernel_rfl) (.refl _) (aC (aM rfl rfl rfl) rfl rfl (bC (aM rfl rfl rfl) rfl rfl (aG (aM rfl rfl rfl) fl68_0 rfl rfl (aJ (aM rfl rfl rfl) sc66 rfl Bt (by first|rfl) aV rfl ?_)))))))))))))))
 refine aC (aM rfl rfl rfl) rfl rfl (op_str (aM rfl rfl rfl) Try.underlying33 Try.underlying5 Try.underlying9 rfl (by assumption) (by first|exact aN|exact aV|exact aZ|exact mem3|exact mem4|exact mem5|exact mem6|exact mem7|exact mem8|exact mem9) rfl ?_)
 refine op_deleteV (nxsl rfl rfl rfl rfl) (Maps.string_keyed Try.underlying9) Try.underlying66 rfl rfl hM hkey sel1 (fun N1 hM1 ho1=>At.sNil (aA (s_3 (At.seq fun _ s_4=>At.region (aC (aD rfl) rfl rfl (aE (aD rfl) rfl rfl (aB (aA (s_4 (At.ret ((aQ (L1:= [N1]) rfl (.tmp rfl .nil) (.refl _) (.refl _) ?_))))))))))))
 exact⟨N1,by rw [hI.has k],rfl,mb,_,hM.blk ho1 Bt,hM1,(hI.off hM ho1).del k,hG.del k⟩
theorem FLen (h:TrieN Nt bt c R0):Fn Try.prog 17 #[.pointer (some ⟨bt,0,none⟩)] [] [Nt] (fun x L=>x=.int .i64 (R0.length:Int)∧L= []):=by
 obtain⟨mb,D,Bt,hM,hI,hG⟩:=h
 refine Fn.enter (vs:= [.pointer (some ⟨bt,0,none⟩)]) Try.func17 rfl rfl rfl ?_
 intro E R hR
 have hle:=hR Nt (by simp)
 have BR:=Bt.le hle
 have hM:=hM.le hle
 change At _ _ E [R] _
 refine At.seq fun _ s_1=>At.region (aE (aD rfl) rfl rfl (aB (aA (s_1 (At.seq fun _ s_2=>At.region (aC (aD rfl) rfl rfl (bC (aD rfl) rfl rfl (aG (aD rfl) fl68_0 rfl rfl (aJ (aD rfl) sc66 rfl BR (by first|rfl) aN rfl ?_)))))))))
 refine op_lenV (aD rfl) Try.underlying66 rfl hM (by first|exact aN|exact aV|exact aZ|exact mem3|exact mem4|exact mem5|exact mem6|exact mem7|exact mem8|exact mem9) rfl (aE (aD rfl) rfl rfl (aB (aA (s_2 (At.ret ((aQ (L1:= []) rfl (.tmp rfl .nil) (.refl _) (.refl _) ?_)))))))
 exact⟨by rw [hI.size],rfl⟩
end
end Go.Proofs.Ytdpjbefeabokgaa
/- slices.Sorted and maps.Keys of Go's library at this program, in plain words (written by the kit's tools lay-iter and lay-plain). No condition. -/
namespace Go.Proofs
open Go.RowKit Go.Maps Go.Sort Go.Shelf
def Try.keys48_ren:Go.Shelf.Ren:=⟨fun|7=>48|10=>68|n=>n,fun|23=>66|26=>9|3=>33|28=>98|0=>0|27=>97|33=>122|4=>4|n=>n,fun|n=>n⟩
theorem Try.keys48:Go.Proofs.SlLaysZ.n7 Try.prog Try.keys48_ren:= {
 mixed:=by kernel_rfl
 f7:=⟨Try.f48.name,by decide,Try.func48.trans (congrArg some (by kernel_rfl))⟩
 f10:=⟨Try.f68.name,by decide,Try.func68.trans (congrArg some (by kernel_rfl))⟩
 t0:=Try.underlying0
 a0:=Try.isAgg0
 z0:=Try.sizeOf0
 v0:=Try.zeroValue0
 t4:=Try.underlying4
 a4:=Try.isAgg4
 z4:=Try.sizeOf4
 v4:=Try.zeroValue4
 t23:=Try.underlying66
 a23:=Try.isAgg66
 z23:=Try.sizeOf66
 v23:=Try.zeroValue66
 t26:=Try.underlying9
 a26:=Try.isAgg9
 z26:=Try.sizeOf9
 v26:=Try.zeroValue9
 t27:=Try.underlying97
 a27:=Try.isAgg97
 z27:=Try.sizeOf97
 v27:=Try.zeroValue97
 t28:=Try.underlying98
 a28:=Try.isAgg98
 z28:=Try.sizeOf98
 v28:=Try.zeroValue98
 t33:=Try.underlying122
 a33:=Try.isAgg122
 z33:=Try.sizeOf122
 v33:=Try.zeroValue122 }
def Try.sorted47_ren:Go.Shelf.Ren:=⟨fun|6=>47|8=>66|9=>67|11=>78|13=>80|12=>79|23=>94|24=>95|14=>85|15=>86|16=>87|17=>88|18=>89|19=>90|20=>91|21=>92|22=>93|25=>98|26=>99|27=>100|28=>101|29=>102|30=>103|31=>105|n=>n,fun|26=>9|28=>98|24=>95|0=>0|3=>3|37=>75|48=>146|50=>78|4=>4|40=>138|39=>137|45=>143|5=>5|9=>9|51=>150|55=>154|57=>157|58=>158|33=>122|n=>n,fun|n=>n⟩
theorem Try.sorted47:Go.Proofs.SlLaysZ.n6 Try.prog Try.sorted47_ren:= {
 mixed:=by kernel_rfl
 f6:=⟨Try.f47.name,by decide,Try.func47.trans (congrArg some (by kernel_rfl))⟩
 f8:=⟨Try.f66.name,by decide,Try.func66.trans (congrArg some (by kernel_rfl))⟩
 f11:=⟨Try.f78.name,by decide,Try.func78.trans (congrArg some (by kernel_rfl))⟩
 t0:=Try.underlying0
 a0:=Try.isAgg0
 z0:=Try.sizeOf0
 v0:=Try.zeroValue0
 t24:=Try.underlying95
 a24:=Try.isAgg95
 z24:=Try.sizeOf95
 v24:=Try.zeroValue95
 t26:=Try.underlying9
 a26:=Try.isAgg9
 z26:=Try.sizeOf9
 v26:=Try.zeroValue9
 t28:=Try.underlying98
 a28:=Try.isAgg98
 z28:=Try.sizeOf98
 v28:=Try.zeroValue98
 i26:=by kernel_rfl }
def Try.sort67_ren:Go.Shelf.Ren:=⟨fun|6=>67|8=>80|9=>79|19=>94|20=>95|21=>85|22=>86|23=>87|24=>88|25=>89|26=>90|27=>91|28=>92|29=>93|36=>98|31=>99|32=>100|37=>101|38=>102|39=>103|41=>105|n=>n,fun|27=>95|29=>9|3=>3|32=>75|26=>95|0=>0|44=>146|46=>78|4=>4|36=>138|35=>137|41=>143|5=>5|9=>9|53=>150|57=>154|63=>157|64=>158|n=>n,fun|n=>n⟩
theorem Try.sort67:Go.Proofs.SlLaysM.n6 Try.prog Try.sort67_ren:= {
 mixed:=by kernel_rfl
 f6:=⟨Try.f67.name,by decide,Try.func67.trans (congrArg some (by kernel_rfl))⟩
 f8:=Try.func80.trans (congrArg some (by kernel_rfl))
 f9:=⟨Try.f79.name,by decide,Try.func79.trans (congrArg some (by kernel_rfl))⟩
 f19:=Try.func94.trans (congrArg some (by kernel_rfl))
 f20:=Try.func95.trans (congrArg some (by kernel_rfl))
 f21:=⟨Try.f85.name,by decide,Try.func85.trans (congrArg some (by kernel_rfl))⟩
 f22:=⟨Try.f86.name,by decide,Try.func86.trans (congrArg some (by kernel_rfl))⟩
 f23:=⟨Try.f87.name,by decide,Try.func87.trans (congrArg some (by kernel_rfl))⟩
 f24:=⟨Try.f88.name,by decide,Try.func88.trans (congrArg some (by kernel_rfl))⟩
 f25:=⟨Try.f89.name,by decide,Try.func89.trans (congrArg some (by kernel_rfl))⟩
 f26:=⟨Try.f90.name,by decide,Try.func90.trans (congrArg some (by kernel_rfl))⟩
 f27:=⟨Try.f91.name,by decide,Try.func91.trans (congrArg some (by kernel_rfl))⟩
 f28:=⟨Try.f92.name,by decide,Try.func92.trans (congrArg some (by kernel_rfl))⟩
 f29:=⟨Try.f93.name,by decide,Try.func93.trans (congrArg some (by kernel_rfl))⟩
 f31:=Try.func99.trans (congrArg some (by kernel_rfl))
 f32:=Try.func100.trans (congrArg some (by kernel_rfl))
 f36:=⟨Try.f98.name,by decide,Try.func98.trans (congrArg some (by kernel_rfl))⟩
 f37:=⟨Try.f101.name,by decide,Try.func101.trans (congrArg some (by kernel_rfl))⟩
 f38:=⟨Try.f102.name,by decide,Try.func102.trans (congrArg some (by kernel_rfl))⟩
 f39:=⟨Try.f103.name,by decide,Try.func103.trans (congrArg some (by kernel_rfl))⟩
 f41:=⟨Try.f105.name,by decide,Try.func105.trans (congrArg some (by kernel_rfl))⟩
 t0:=Try.underlying0
 a0:=Try.isAgg0
 z0:=Try.sizeOf0
 v0:=Try.zeroValue0
 t3:=Try.underlying3
 a3:=Try.isAgg3
 z3:=Try.sizeOf3
 v3:=Try.zeroValue3
 t4:=Try.underlying4
 a4:=Try.isAgg4
 z4:=Try.sizeOf4
 v4:=Try.zeroValue4
 t5:=Try.underlying5
 a5:=Try.isAgg5
 z5:=Try.sizeOf5
 v5:=Try.zeroValue5
 t9:=Try.underlying9
 a9:=Try.isAgg9
 z9:=Try.sizeOf9
 v9:=Try.zeroValue9
 t26:=Try.underlying95
 a26:=Try.isAgg95
 z26:=Try.sizeOf95
 v26:=Try.zeroValue95
 t27:=Try.underlying95
 a27:=Try.isAgg95
 z27:=Try.sizeOf95
 v27:=Try.zeroValue95
 t29:=Try.underlying9
 a29:=Try.isAgg9
 z29:=Try.sizeOf9
 v29:=Try.zeroValue9
 t32:=Try.underlying75
 a32:=Try.isAgg75
 z32:=Try.sizeOf75
 v32:=Try.zeroValue75
 t35:=Try.underlying137
 a35:=Try.isAgg137
 z35:=Try.sizeOf137
 v35:=Try.zeroValue137
 t36:=Try.underlying138
 a36:=Try.isAgg138
 z36:=Try.sizeOf138
 v36:=Try.zeroValue138
 t41:=Try.underlying143
 a41:=Try.isAgg143
 z41:=Try.sizeOf143
 v41:=Try.zeroValue143
 t44:=Try.underlying146
 a44:=Try.isAgg146
 z44:=Try.sizeOf146
 v44:=Try.zeroValue146
 t46:=Try.underlying78
 a46:=Try.isAgg78
 z46:=Try.sizeOf78
 v46:=Try.zeroValue78
 t53:=Try.underlying150
 a53:=Try.isAgg150
 z53:=Try.sizeOf150
 v53:=Try.zeroValue150
 t57:=Try.underlying154
 a57:=Try.isAgg154
 z57:=Try.sizeOf154
 v57:=Try.zeroValue154
 t63:=Try.underlying157
 a63:=Try.isAgg157
 z63:=Try.sizeOf157
 v63:=Try.zeroValue157
 t64:=Try.underlying158
 a64:=Try.isAgg158
 z64:=Try.sizeOf158
 v64:=Try.zeroValue158 }
theorem Try.sorts47 (m:Nat):AnyZ.SortsIn Try.prog Try.sorted47_ren Fence.wide m:=
 ⟨fun blk off cap ss W hH hblk hsz=>callsIn_wide.2 (AnyM.slices_Sort_string Try.sort67 blk off cap ss W hH hblk hsz),
  fun p cap W=>callsIn_wide.2 (AnyM.slices_Sort_string_none Try.sort67 p cap W)⟩
end Go.Proofs
/- Bytes of a string in a new slice, and stores to it: the block bears the mark behind its last cell. No condition. -/
namespace Go.Proofs.Ytdpjbefeabokgaa
open Go Go.RowKit
/-- The slice of a string's bytes. -/
def RowM (N:Heaplet) (e:TypeId) (b n cap:Nat) (xs:List Value):Prop:=
 xs.length=n∧n≤cap∧cap≤maxLen∧ ∃cs:List Value,N b=some (.cells cs.toArray e (cap,cap+1))∧cs.length=cap∧cs.take n=xs
theorem RowM.rsl {N:Heaplet} {e:TypeId} {b n cap:Nat} {xs:List Value} (h:RowM N e b n cap xs):RSl N 1 (some ⟨b,0,none⟩) n cap xs:=by
 obtain⟨h1,h2,h3,cs,hN,hl,ht⟩:=h
 refine⟨by omega,h2,h3,fun h0=>⟨b,0,rfl,fun i hi=>?_⟩⟩
 unfold cellOf
 rw [hN]
 simp only [Nat.zero_add]
 have:(cs.take n)[i]? =some xs[i]:=by rw [ht];exact List.getElem?_eq_getElem hi
 rw [List.getElem?_take]at this
 split at this
 ·simpa using this
 ·cases this
section
variable {P : Program} {n : Nat} {l : List (Nat × Value)} {E : World} {L L1 : List Heaplet} {X Y : Act → World → Prop} {N : Heaplet}
variable {d : Nat} {ty t t' e : TypeId} {pos : String} {aft : Array Edge} {g : Option (Nat × Bool)} {v : Value} {x y : Operand} {len cap : Nat} {xs : List Value} {b j : Nat}
/-- []byte of a string. -/
theorem op_strB {bs:List UInt8} {src dst:TypeId} (s:NxA P n l E L ⟨some d,.convert src dst x,ty,pos,aft,g⟩ X Y) (hs:P.underlying src=some .string) (ht:P.underlying dst=some (.slice e)) (he:P.underlying e=some (.int .u8)) (hx:ev l x=some (str bs)) (hlen:bs.length≤9223372036854775807) (hn:Nat.ble (d+1) n=true)
 (h: ∀N b cap,RowM N e b bs.length cap (u8s bs)→At n ((d,.slice (some ⟨b,0,none⟩) bs.length cap)::l) E (N::L) Y):At n l E L X:=by
 refine op_new s (fun v L'=> ∃N b cap,v=.slice (some ⟨b,0,none⟩) bs.length cap∧L'=N::L∧RowM N e b bs.length cap (u8s bs)) (fun a w hf hw=>?_) rfl hn (fun v L' ⟨N,b,cap,hv,hL,hB⟩=>by subst hv;subst hL;exact h N b cap hB)
 have hsz:(⟨bs.toArray⟩:ByteArray).size=bs.length:=by simp [ByteArray.size]
 have hrun:=run_bytes_of_string (P:=P) w src dst e ⟨bs.toArray⟩ hs ht he
 rw [hsz]at hrun
 have hge:=grownCap_ge w bs.length 0 e
 have hle:=grownCap_le_maxLen w bs.length 0 e (by unfold maxLen;omega)
 obtain⟨C,hC⟩: ∃C,grownCap w bs.length 0 e=C:=⟨_,rfl⟩
 rw [hC]at hrun hge hle
 have hrow:bytesRow ⟨bs.toArray⟩ C=(u8s bs++List.replicate (C- bs.length) (Value.int .u8 0)).toArray:=by
  unfold bytesRow
  rw [hsz]
  simp [u8s]
  exact fun _ _=>rfl
 have hlr:(u8s bs++List.replicate (C- bs.length) (Value.int .u8 0)).length=C:=by
  rw [List.length_append,length_u8s,List.length_replicate];omega
 rw [hrow]at hrun
 simp only [List.size_toArray,hlr]at hrun
 obtain⟨o,ho⟩: ∃o,Obj.cells (u8s bs++List.replicate (C- bs.length) (Value.int .u8 0)).toArray e (C,C+1)=o:=⟨_,rfl⟩
 rw [ho]at hrun
 refine⟨.slice (some ⟨w.heap.size,0,none⟩) bs.length C,w.drew.alloc o,single w.heap.size o::L,?_,?_,(hw.drew).alloc o,single w.heap.size o,w.heap.size,C,rfl,rfl,?_⟩
 ·simp only [execOp,hf.eval hx,str]
  rw [Sem.run_bind,hrun]
  rfl
 ·exact Agree.alloc w.drew o
 ·exact⟨length_u8s bs,hge,hle,_,by rw [←ho];exact single_self _ _,hlr,by rw [List.take_append,length_u8s,Nat.sub_self,List.take_zero,List.append_nil,List.take_of_length_le (by rw [length_u8s];exact Nat.le_refl _)]⟩
end
end Go.Proofs.Ytdpjbefeabokgaa
/- Layer 12: a trie's pairs in rising order, and its root. No condition but bounds. -/
namespace Go.Proofs.Ytdpjbefeabokgaa
open Go Go.RowKit
set_option maxRecDepth 100000
section
variable {N K : Heaplet} {blk mb c : Nat} {D : DataW Value}
theorem FKeys:Fn Try.prog 48 #[.map (some mb)] [] [] (fun v L=> ∃N b,v=.func (.func 68) #[] #[.pointer (some ⟨b,0,none⟩)]∧L= [N]∧Blk N b 66 [.map (some mb)]):=by
 refine Fn.enter (vs:= [.map (some mb)]) Try.func48 rfl rfl rfl ?_
 intro E R hR
 change At _ _ E [R] _
 refine At.seq fun _ s_1=>At.region (op_box (aX rfl) rfl rfl rfl (fun N1 b1 B1=>aE (aD rfl) rfl rfl (aB (aA (s_1 (At.seq fun _ s_2=>At.region (op_mkF (aD rfl) .nil (.cons rfl .nil) rfl (aE (aD rfl) rfl rfl (aB (aA (s_2 (At.ret ((aQ (L1:= [N1]) rfl (.tmp rfl .nil) (.refl _) (.refl _) ?_))))))))))))))
 exact⟨N1,b1,rfl,rfl,B1⟩
theorem kecM (R0:List PR):(u8s (rootM R0)).length=32:=kec8 _
theorem pairs_snoc {J:Heaplet} {R0:List PR} {ks:List (List UInt8)} {k:List UInt8} {ys:List PV} {a va:Option Addr} {cp vn vc:Nat} (h:PsN J (prs (byKeys R0 ks)) ys) (hr:RSl J 1 a (2*k.length) cp (u8s (nibs k))) (hvn:vn=((getR R0 k).getD []).length) (hv:RSl J 1 va vn vc (u8s ((getR R0 k).getD []))):PsN J (prs (byKeys R0 (ks++ [k]))) (ys++ [⟨a,2*k.length,cp,va,vn,vc⟩]):=by
 have e:prs (byKeys R0 (ks++ [k]))=prs (byKeys R0 ks)++ [(nibs k,(getR R0 k).getD [])]:=by simp [prs,byKeys]
 rw [e]
 exact h.snoc ⟨(nibs_length k).symm,hr,hvn,hv⟩
/-- The keys of a map in rising order. -/
def keysS (D:DataW Value):List (List UInt8):=(strKeys D).mergeSort (fun x y=>decide (x≤y))
theorem FSorted (B:Blk N blk 66 [.map (some mb)]) (hM:MapV Try.prog 9 K mb c D) (hs:Maps.size D≤1000000):Fn Try.prog 47 #[.func (.func 68) #[] #[.pointer (some ⟨blk,0,none⟩)]] [] [N,K] (fun v L=> ∃M a cp,v=.slice a ((keysS D).map str).length cp∧L= [M]∧Row M 9 1 a ((keysS D).map str).length cp ((keysS D).map str)):=by
 refine Fn.of_ownb (e:=9) (xs:=(keysS D).map str) fun w hr=>?_
 have hcell:w.cell? ⟨blk,0,none⟩=some (.map (some mb)):=by
  have h1:=hr N (by simp) _ _ B
  have h2:w.heap[blk]? =some (.cells #[.map (some mb)] 66 (0,0)):=h1
  simp [World.cell?,h2]
 have hlt:blk<w.heap.size:=by
  have h1:=hr N (by simp) _ _ B
  exact(Array.getElem?_eq_some_iff.1 h1).1
 obtain⟨es,clock,hNb,hown⟩:=hM
 have hown:=hown w (hr K (by simp) _ _ hNb)
 have hseq:SeqGives Fence.wide 2 Try.prog 68 #[.pointer (some ⟨blk,0,none⟩)] encStr (fun ss=>ss.Perm (strKeys D)) (Maps.size D) w:=
  AnyZ.keys_gives (ρ:=Try.keys48_ren) { Try.keys48 with } Fence.wide _ trivial rfl (by omega) blk mb c D w hlt hcell hown
 have hS:=AnyZ.sorted_in Try.sorted47 Fence.wide 5 trivial trivial trivial trivial rfl (by omega) (Try.sorts47 _) (enters_of Try.func67 (by kernel_rfl) rfl) 68 #[.pointer (some ⟨blk,0,none⟩)] trivial (enters_of Try.func68 (by kernel_rfl) rfl) _ _ (by unfold maxLen;omega) (by omega) _ hseq
 refine(callsIn_wide.1 hS).mono ?_
 rintro e w' ⟨v,ss,rfl,hp,hrow,_,hb⟩
 have es2:(ss.mergeSort (fun x y=>decide (x≤y)))=keysS D:=mergeSort_of_perm hp
 rw [es2]at hrow
 have hl:ss.length=((keysS D).map str).length:=by rw [List.length_map,keysS,List.length_mergeSort];exact hp.length_eq
 rw [hl]at hrow
 obtain⟨ao,cap,rfl⟩:=owns_form hrow
 exact⟨_,rfl,⟨ao,cap,rfl,hrow⟩,hb⟩
theorem keysS_perm {w:World} {R0:List PR} (hown:w.ownsMap Try.prog 9 heldV mb c D) (hI:MapIs D K R0):(keysS D).Perm (R0.map Prod.fst):=by
 obtain⟨es,hD,hpw,_⟩:=hown.entries (Maps.string_keyed Try.underlying9)
 obtain⟨es',hD',hko⟩:=hown.keysOf
 obtain rfl:es=es':=by rw [hD]at hD';simpa using hD'
 have hh:=hI.has
 have hdis:=hI.dis
 subst hD
 have h1:=perm_strKeys (ss:=R0.map Prod.fst) hpw (fun p hp=>by obtain⟨v,hv⟩:=hko p hp;obtain⟨x,_,hx,_⟩:=Maps.keyOf_str Try.underlying9 hv;exact⟨x,hx⟩) hdis fun x=>by
  rw [hh x,has_iff,List.mem_map]
  constructor
  ·rintro⟨p,hp,rfl⟩;exact⟨p.2,hp⟩
  ·rintro⟨v,hv⟩;exact⟨(x,v),hv,rfl⟩
 exact(List.mergeSort_perm _ _).trans h1.symm
/-- What pairs gives. -/
def PairsO (Nt:Heaplet) (R0:List PR) (v:Value) (L:List Heaplet):Prop:= ∃M a cp, ∃xs:List PV, ∃S:List PR,v=.slice a xs.length cp∧L= [M]∧S.Perm R0∧PsL [M,Nt] 81 (prs S) xs a xs.length cp
set_option maxHeartbeats 2000000 in
theorem FPairs0 {Nt:Heaplet} {bt:Nat} {R0:List PR} (Bt:Blk Nt bt 68 [.map (some mb)]) (hM:MapV Try.prog 9 Nt mb c D) (hI:MapIs D Nt R0) (hG:Good R0) (hkp:(keysS D).Perm (R0.map Prod.fst)) (hc:R0.length≤1000000):Fn Try.prog 32 #[.pointer (some ⟨bt,0,none⟩)] [] [Nt] (PairsO Nt R0):=by
 obtain⟨ks,hks⟩: ∃ks,keysS D=ks:=⟨_,rfl⟩
 have hkl:ks.length=R0.length:=by rw [←hks,hkp.length_eq,List.length_map]
 have hsz:=hI.size
 have hsort:Ris (byKeys R0 ks):=byKeys_ris (by rw [←hks];exact keys_sorted) (by rw [←hks];exact hkp.nodup_iff.2 hI.dis)
 have hperm:(byKeys R0 ks).Perm R0:=byKeys_perm hI.dis (by rw [←hks];exact hkp)
 have hkk: ∀k∈ks,k.length≤40:=fun k hk=>by
  rw [←hks]at hk
  obtain⟨p,hp,rfl⟩:=List.mem_map.1 (hkp.mem_iff.1 hk)
  exact hG.key p hp
 refine Fn.enter (vs:= [.pointer (some ⟨bt,0,none⟩)]) Try.func32 rfl rfl rfl ?_
 intro E R hR
 have hle:=hR Nt (by simp)
 have BR:=Bt.le hle
 have hM:=hM.le hle
 change At _ _ E [R] _
 refine At.seq fun _ s_1=>At.region (aE (aD rfl) rfl rfl (aB (aA (s_1 (At.seq fun _ s_2=>At.region (aE (aD rfl) rfl rfl (aB (aA (s_2 (At.seq fun _ s_3=>At.seq fun _ s_4=>At.region (aC (aD rfl) rfl rfl (bC (aD rfl) rfl rfl (aG (aD rfl) fl68_0 rfl rfl (aJ (aD rfl) sc66 rfl BR (by first|rfl) aN rfl ?_))))))))))))))
 refine aH (aX rfl) (.cons rfl .nil) (FKeys) Try.func48 rfl rfl (by simp) rfl ?_
 rintro v10 L10 ⟨N10,b10,rfl,rfl,B10⟩
 change At _ _ _ [N10,R] _
 refine aH (aX rfl) (.cons rfl .nil) (FSorted B10 hM (by omega)) Try.func47 rfl rfl (by simp) rfl ?_
 rintro v11 L11 ⟨N11,a11,c11,rfl,rfl,r11⟩
 change At _ _ _ [N11,N10,R] _
 rw [hks]at r11⊢;have s11:=r11.rsl;have hn:(ks.map str).length=R0.length:=by rw [List.length_map,hkl]
 refine aS (aD rfl) se95 rfl rfl (aC (aD rfl) rfl rfl (aB (aA (s_4 (At.block ?_)))))
 obtain⟨n,hnn⟩: ∃n,(ks.map str).length=n:=⟨_,rfl⟩
 rw [hnn]at s11 hn⊢
 have hkn:ks.length=n:=by rw [←hnn,List.length_map]
 have hcp:=s11.cap63
 refine At.empty (At.empty (At.sub (L':= [nilH,nilH,N11,R]) (.cons_cons _ (.cons_cons _ (.cons_cons _ (.cons _ (.cons_cons _ (.slnil)))))) (At.perm sel3 (At.perm sel3 (At.perm sel2 (At.perm sel3 (At.loop (fun fr_ hp_ ms_=> ∃(i m:Nat) (a:Option Addr) (cp:Nat) (ys:List PV) (Na NJ:Heaplet),fr_= [(0,.pointer (some ⟨bt,0,none⟩)),(3,.slice a m cp),(11,.slice a11 n c11),(12,.int .i64 (n:Int)),(13,.int .i64 (i:Int))]∧hp_= [Na,NJ,N11,R]∧n- i=ms_∧(i≤n)∧(m=i)∧(Row Na 101 2 a m cp (cellsP ys))∧(∀J:Heaplet,NJ.le J→Nt.le J→PsN J (prs (byKeys R0 (ks.take i))) ys)) ?_ (.refl _) ⟨0,0,none,0,[],nilH,nilH,rfl,rfl,rfl,Nat.zero_le _,rfl,Row.nil _ _ _,fun J _ _=>PsN.nil _⟩ ?_)))))))
 ·exact .cons (by first|exact aK rfl (by omega)|rfl) (.cons (by first|exact aK rfl (by omega)|rfl) (.cons (by first|exact aK rfl (by omega)|rfl) (.cons (by first|exact aK rfl (by omega)|rfl) (.cons (by first|exact aK rfl (by omega)|rfl) .nil))))
 rintro _ _ _ ⟨i,m,a,cp,ys,Na,NJ,rfl,rfl,rfl,hi,hmi,ra,hy⟩
 refine At.seq fun _ s_5=>At.region (op_lss (aD rfl) rfl rfl rfl (aB (aA (s_5 (At.seq fun _ s_6=>aL rfl (fun c14=>?_) (fun c14=>?_))))))
 ·obtain⟨k,hki⟩: ∃k,ks[i]? =some k:=⟨_,List.getElem?_eq_getElem (by omega)⟩
  have hld:(ks.map str)[i]? =some (str k):=by rw [List.getElem?_map,hki];rfl
  have hk40:=hkk k (List.mem_of_getElem? hki)
  have hkey:keyOf Try.prog 9 (str k)=some (.string k):=keyOf_strV Try.underlying9 (by unfold maxLen;omega)
  obtain⟨va,vn,vc,hat,hvn,hvr⟩:=hI.look k
  refine At.skip (aA (s_6 (At.seq fun _ s_7=>At.block (At.seq fun _ s_8=>At.region (op_idx1 (aD rfl) se95 rfl rfl s11 (show _=(((i:Nat)):Int)from by omega) (by omega) rfl ?_)))))
  refine aR (aD rfl) sc9 rfl s11 (by first|exact get8 (by omega)|exact get64 (by omega)|exact get32 (by omega)|exact hld) (by first|exact aN|exact aV|exact aZ|exact mem3|exact mem4|exact mem5|exact mem6|exact mem7|exact mem8|exact mem9) rfl ?_
  refine aE (aD rfl) rfl rfl (aB (aA (s_8 (At.perm sel2 (At.perm sel3 (At.perm sel3 (At.perm sel3 (At.planS [R,N11] (.take 0 (.take 1 (.take 4 (.take 5 (.take 6 (.take 7 (.take 8 (.fork 2 false (.fork 3 false (.fork 9 false (.take 10 (.fork 11 false (.fork 12 true (.take 13 .done) .nofork) .nofork)) .nofork) (.fork 9 false (.fork 3 false (.take 10 (.fork 11 false (.fork 12 true (.take 13 .done) .nofork) .nofork)) .nofork) .nofork)) (.fork 9 false (.fork 2 false (.fork 3 false (.take 10 (.fork 11 false (.fork 12 true (.take 13 .done) .nofork) .nofork)) .nofork) .nofork) .nofork))))))))) (by kernel_rfl) (by kernel_rfl) (.cons _ (.cons _ (.refl _))) (aC (nxpf rfl rfl) rfl rfl (aC (nxpf rfl rfl) rfl rfl (aC (nxpf rfl rfl) rfl rfl (bC (nxpf rfl rfl) rfl rfl (aG (nxpf rfl rfl) fl68_0 rfl rfl (aJ (nxpf rfl rfl) sc66 rfl BR (by first|rfl) aN rfl ?_))))))))))))))
  refine aC (nxpf rfl rfl) rfl rfl (At.fork ?_ ?_)
  rotate_left
  ·refine At.fork ?_ ?_
   rotate_left
   ·exact At.pNo
   refine op_lookupV1 (Nx.agree (nxpa rfl rfl)) (Maps.string_keyed Try.underlying9) Try.underlying66 (fun _=>rfl) rfl rfl hM hkey (hat) (by first|exact aN|exact aV|exact aZ|exact mem3|exact mem4|exact mem5|exact mem6|exact mem7|exact mem8|exact mem9) rfl (At.andS (.cons _ (.cons _ (.refl _))) (At.fork ?_ ?_))
   rotate_left
   ·exact At.pNo
   refine op_strB (bs:=k) (Nx.agree (nxpa rfl rfl)) Try.underlying9 Try.underlying33 Try.underlying5 rfl (by omega) rfl (fun N19 b19 p19 m19=>?_)
   have s19:=m19.rsl
   refine At.andS (.cons _ (.cons _ (.cons _ (.refl _)))) (At.fork ?_ ?_)
   rotate_left
   ·exact At.pNo
   refine aH (Nx.agree (nxpa rfl rfl)) (.cons rfl .nil) (FNibs s19 (by omega)) Try.func36 rfl rfl (by simp) rfl ?_
   rintro v20 L20 ⟨M20,a20,c20,rfl,rfl,r20⟩
   change At _ _ _ [M20,N19,Na,NJ,R,N11] _
   refine At.andS (.cons _ (.cons _ (.cons _ (.cons _ (.refl _))))) (op_build (out:= [_,_]) (nxpf rfl rfl) ze101 pl101 (.cons rfl (.cons rfl .nil)) rfl rfl (At.fork ?_ ?_))
   rotate_left
   ·exact At.pNo
   refine op_lit (Nx.agree (nxpa rfl rfl)) Try.underlying70 ze101 sz101 (.cons rfl .nil) rfl rfl (by simp [Value.cells]) rfl rfl rfl (fun N28 a28 r28=>?_)
   simp only [flatV,List.flatMap_cons,List.flatMap_nil,Value.cells,List.append_nil,List.cons_append,List.nil_append]at r28
   have s28:=r28.rsl
   refine At.andS (.cons _ (.cons _ (.cons _ (.cons _ (.cons _ (.refl _)))))) (At.fork ?_ ?_)
   rotate_left
   ·exact At.pNo
   change Row N28 _ 2 a28 1 1 (cellsP [⟨a20,2*k.length,c20,va,vn,vc⟩])at r28
   have s28:=r28.rsl
   refine bD (nxpa rfl rfl) Try.underlying70 Try.underlying70 te101 rfl rfl ra s28 (by first|exact aN|exact aV|exact aZ|exact mem3|exact mem4|exact mem5|exact mem6|exact mem7|exact mem8|exact mem9) (cellsP_one _) (by omega) (by omega) sel3 rfl (fun N29 a29 p29 r29=>?_)
   have s29:=r29.rsl
   refine At.andS (.cons _ (.cons _ (.cons _ (.cons _ (.cons _ (.refl _)))))) ?_
   rw [←cellsP_app]at r29
   refine aE (nxpf rfl rfl) rfl rfl (At.pDone (aP (aA (s_7 (At.region (aO (aD rfl) rfl rfl (by omega) (by omega) rfl (aC (aD rfl) rfl rfl (aB (aA (At.perm sel6 (At.perm sel6 (At.perm sel5 (At.perm sel4 (At.perm sel4 (At.perm sel5 (At.perm sel6 (At.mergeN (fun J J1 J2=>At.sub (L':= [J,N29,R,N11]) (.cons_cons _ (.cons_cons _ (.cons _ (.cons _ (.cons_cons _ (.cons_cons _ (.slnil))))))) (At.perm sel2 (At.perm sel3 (At.perm sel2 ?_)))))))))))))))))))))
   refine At.perm sel3 ?_
   refine bB ?_ (.refl _) ⟨i+1,m+1,a29,p29,ys++ [⟨a20,2*k.length,c20,va,vn,vc⟩],N29,J,rfl,rfl,rfl,by omega,by omega,r29,fun J' h1 h2=>by rw [take_next1 hki];exact pairs_snoc (hy J' (Heaplet.le_trans J1 h1) h2) (r20.rsl.le (Heaplet.le_trans J2 h1)) hvn (hvr.le h2)⟩ ?_
   ·exact .cons (by first|exact aK rfl (by omega)|rfl) (.cons (by first|exact aK rfl (by omega)|rfl) (.cons (by first|exact aK rfl (by omega)|rfl) (.cons (by first|exact aK rfl (by omega)|rfl) (.cons (by first|exact aK rfl (by omega)|rfl) .nil))))
   ·omega
  refine op_strB (bs:=k) (Nx.agree (nxpa rfl rfl)) Try.underlying9 Try.underlying33 Try.underlying5 rfl (by omega) rfl (fun N19 b19 p19 m19=>?_)
  have s19:=m19.rsl
  refine At.andS (.cons _ (.cons _ (.cons _ (.refl _)))) (At.fork ?_ ?_)
  rotate_left
  ·refine At.fork ?_ ?_
   rotate_left
   ·exact At.pNo
   refine op_lookupV1 (Nx.agree (nxpa rfl rfl)) (Maps.string_keyed Try.underlying9) Try.underlying66 (fun _=>rfl) rfl rfl hM hkey (hat) (by first|exact aN|exact aV|exact aZ|exact mem3|exact mem4|exact mem5|exact mem6|exact mem7|exact mem8|exact mem9) rfl (At.andS (.cons _ (.cons _ (.cons _ (.refl _)))) (At.fork ?_ ?_))
   rotate_left
   ·exact At.pNo
   refine aH (Nx.agree (nxpa rfl rfl)) (.cons rfl .nil) (FNibs s19 (by omega)) Try.func36 rfl rfl (by simp) rfl ?_
   rintro v20 L20 ⟨M20,a20,c20,rfl,rfl,r20⟩
   change At _ _ _ [M20,N19,Na,NJ,R,N11] _
   refine At.andS (.cons _ (.cons _ (.cons _ (.cons _ (.refl _))))) (op_build (out:= [_,_]) (nxpf rfl rfl) ze101 pl101 (.cons rfl (.cons rfl .nil)) rfl rfl (At.fork ?_ ?_))
   rotate_left
   ·exact At.pNo
   refine op_lit (Nx.agree (nxpa rfl rfl)) Try.underlying70 ze101 sz101 (.cons rfl .nil) rfl rfl (by simp [Value.cells]) rfl rfl rfl (fun N28 a28 r28=>?_)
   simp only [flatV,List.flatMap_cons,List.flatMap_nil,Value.cells,List.append_nil,List.cons_append,List.nil_append]at r28
   have s28:=r28.rsl
   refine At.andS (.cons _ (.cons _ (.cons _ (.cons _ (.cons _ (.refl _)))))) (At.fork ?_ ?_)
   rotate_left
   ·exact At.pNo
   change Row N28 _ 2 a28 1 1 (cellsP [⟨a20,2*k.length,c20,va,vn,vc⟩])at r28
   have s28:=r28.rsl
   refine bD (nxpa rfl rfl) Try.underlying70 Try.underlying70 te101 rfl rfl ra s28 (by first|exact aN|exact aV|exact aZ|exact mem3|exact mem4|exact mem5|exact mem6|exact mem7|exact mem8|exact mem9) (cellsP_one _) (by omega) (by omega) sel3 rfl (fun N29 a29 p29 r29=>?_)
   have s29:=r29.rsl
   refine At.andS (.cons _ (.cons _ (.cons _ (.cons _ (.cons _ (.refl _)))))) ?_
   rw [←cellsP_app]at r29
   refine aE (nxpf rfl rfl) rfl rfl (At.pDone (aP (aA (s_7 (At.region (aO (aD rfl) rfl rfl (by omega) (by omega) rfl (aC (aD rfl) rfl rfl (aB (aA (At.perm sel6 (At.perm sel6 (At.perm sel5 (At.perm sel4 (At.perm sel4 (At.perm sel5 (At.perm sel6 (At.mergeN (fun J J1 J2=>At.sub (L':= [J,N29,R,N11]) (.cons_cons _ (.cons_cons _ (.cons _ (.cons _ (.cons_cons _ (.cons_cons _ (.slnil))))))) (At.perm sel2 (At.perm sel3 (At.perm sel2 ?_)))))))))))))))))))))
   refine At.perm sel3 ?_
   refine bB ?_ (.refl _) ⟨i+1,m+1,a29,p29,ys++ [⟨a20,2*k.length,c20,va,vn,vc⟩],N29,J,rfl,rfl,rfl,by omega,by omega,r29,fun J' h1 h2=>by rw [take_next1 hki];exact pairs_snoc (hy J' (Heaplet.le_trans J1 h1) h2) (r20.rsl.le (Heaplet.le_trans J2 h1)) hvn (hvr.le h2)⟩ ?_
   ·exact .cons (by first|exact aK rfl (by omega)|rfl) (.cons (by first|exact aK rfl (by omega)|rfl) (.cons (by first|exact aK rfl (by omega)|rfl) (.cons (by first|exact aK rfl (by omega)|rfl) (.cons (by first|exact aK rfl (by omega)|rfl) .nil))))
   ·omega
  refine aH (Nx.agree (nxpa rfl rfl)) (.cons rfl .nil) (FNibs s19 (by omega)) Try.func36 rfl rfl (by simp) rfl ?_
  rintro v20 L20 ⟨M20,a20,c20,rfl,rfl,r20⟩
  change At _ _ _ [M20,N19,Na,NJ,R,N11] _
  refine At.andS (.cons _ (.cons _ (.cons _ (.cons _ (.refl _))))) (At.fork ?_ ?_)
  rotate_left
  ·exact At.pNo
  refine op_lookupV1 (Nx.agree (nxpa rfl rfl)) (Maps.string_keyed Try.underlying9) Try.underlying66 (fun _=>rfl) rfl rfl hM hkey (hat) (by first|exact aN|exact aV|exact aZ|exact mem3|exact mem4|exact mem5|exact mem6|exact mem7|exact mem8|exact mem9) rfl (At.andS (.cons _ (.cons _ (.cons _ (.cons _ (.refl _))))) (op_build (out:= [_,_]) (nxpf rfl rfl) ze101 pl101 (.cons rfl (.cons rfl .nil)) rfl rfl (At.fork ?_ ?_)))
  rotate_left
  ·exact At.pNo
  refine op_lit (Nx.agree (nxpa rfl rfl)) Try.underlying70 ze101 sz101 (.cons rfl .nil) rfl rfl (by simp [Value.cells]) rfl rfl rfl (fun N28 a28 r28=>?_)
  simp only [flatV,List.flatMap_cons,List.flatMap_nil,Value.cells,List.append_nil,List.cons_append,List.nil_append]at r28
  have s28:=r28.rsl
  refine At.andS (.cons _ (.cons _ (.cons _ (.cons _ (.cons _ (.refl _)))))) (At.fork ?_ ?_)
  rotate_left
  ·exact At.pNo
  change Row N28 _ 2 a28 1 1 (cellsP [⟨a20,2*k.length,c20,va,vn,vc⟩])at r28
  have s28:=r28.rsl
  refine bD (nxpa rfl rfl) Try.underlying70 Try.underlying70 te101 rfl rfl ra s28 (by first|exact aN|exact aV|exact aZ|exact mem3|exact mem4|exact mem5|exact mem6|exact mem7|exact mem8|exact mem9) (cellsP_one _) (by omega) (by omega) sel3 rfl (fun N29 a29 p29 r29=>?_)
  have s29:=r29.rsl
  refine At.andS (.cons _ (.cons _ (.cons _ (.cons _ (.cons _ (.refl _)))))) ?_
  rw [←cellsP_app]at r29
  refine aE (nxpf rfl rfl) rfl rfl (At.pDone (aP (aA (s_7 (At.region (aO (aD rfl) rfl rfl (by omega) (by omega) rfl (aC (aD rfl) rfl rfl (aB (aA (At.perm sel6 (At.perm sel6 (At.perm sel5 (At.perm sel4 (At.perm sel4 (At.perm sel5 (At.perm sel6 (At.mergeN (fun J J1 J2=>At.sub (L':= [J,N29,R,N11]) (.cons_cons _ (.cons_cons _ (.cons _ (.cons _ (.cons_cons _ (.cons_cons _ (.slnil))))))) (At.perm sel2 (At.perm sel3 (At.perm sel2 ?_)))))))))))))))))))))
  refine At.perm sel3 ?_
  refine bB ?_ (.refl _) ⟨i+1,m+1,a29,p29,ys++ [⟨a20,2*k.length,c20,va,vn,vc⟩],N29,J,rfl,rfl,rfl,by omega,by omega,r29,fun J' h1 h2=>by rw [take_next1 hki];exact pairs_snoc (hy J' (Heaplet.le_trans J1 h1) h2) (r20.rsl.le (Heaplet.le_trans J2 h1)) hvn (hvr.le h2)⟩ ?_
  ·exact .cons (by first|exact aK rfl (by omega)|rfl) (.cons (by first|exact aK rfl (by omega)|rfl) (.cons (by first|exact aK rfl (by omega)|rfl) (.cons (by first|exact aK rfl (by omega)|rfl) (.cons (by first|exact aK rfl (by omega)|rfl) .nil))))
  ·omega
 refine At.exit (aF (aF (aU (aA (s_3 (At.seq fun _ s_9=>At.region (aC (aD rfl) rfl rfl (aE (aD rfl) rfl rfl (aB (aA (s_9 (At.ret ((At.mergeN (fun Q Q1 Q2=>At.sub (L':= [Q,R]) (.cons_cons _ (.cons _ (.cons_cons _ (.slnil)))) (aQ (L1:= [Q]) rfl (.tmp rfl .nil) (.refl _) (.refl _) ?_))))))))))))))))
 have hin:i=n:=by omega
 rw [List.take_of_length_le (by omega)]at hy
 have hyl:m=ys.length:=by have h3:=ra.1;rw [cellsP_len]at h3;omega
 rw [hyl]at ra⊢
 refine⟨Q,a,cp,ys,_,rfl,rfl,hperm,fun J hJ=>?_⟩
 have h1:=hJ Q (by simp)
 exact⟨ra.rsl.le (Heaplet.le_trans Q1 h1),hy J (Heaplet.le_trans Q2 h1) (hJ Nt (by simp)),hsort.prs,(hG.perm hperm.symm).fit,by omega⟩
theorem FPairs {Nt:Heaplet} {bt:Nat} {R0:List PR} (h:TrieN Nt bt c R0) (hc:R0.length≤1000000):Fn Try.prog 32 #[.pointer (some ⟨bt,0,none⟩)] [] [Nt] (PairsO Nt R0):=fun E w F hw hr=>by
 obtain⟨mb,D,Bt,hM,hI,hG⟩:=h
 have hle:Nt.le (whole w):=Heaplet.le_trans (hr Nt (by simp)) (hw.sub F (by simp))
 have hM2:=hM
 obtain⟨es,clock,hNb,hown⟩:=hM2
 exact FPairs0 Bt hM hI hG (keysS_perm (hown w (hle _ _ hNb)) hI) hc E w F hw hr
theorem FRoot {Nt:Heaplet} {bt:Nat} {R0:List PR} (h:TrieN Nt bt c R0) (hc:R0.length≤1000000):Fn Try.prog 16 #[.pointer (some ⟨bt,0,none⟩)] [] [Nt] (fun v L=>v=.agg (u8s (rootM R0)).toArray∧L= []):=by
 obtain⟨mb,D,Bt,hM,hI,hG⟩:=id h
 refine Fn.enter (vs:= [.pointer (some ⟨bt,0,none⟩)]) Try.func16 rfl rfl rfl ?_
 intro E R hR
 have hle:=hR Nt (by simp)
 change At _ _ E [R] _
 refine At.seq fun _ s_1=>At.region (op_alloc (aX rfl) ze48 rfl (fun N2 b2 B2=>?_))
 change Blk N2 b2 _ [.int .u8 0,.int .u8 0,.int .u8 0,.int .u8 0,.int .u8 0,.int .u8 0,.int .u8 0,.int .u8 0,.int .u8 0,.int .u8 0,.int .u8 0,.int .u8 0,.int .u8 0,.int .u8 0,.int .u8 0,.int .u8 0,.int .u8 0,.int .u8 0,.int .u8 0,.int .u8 0,.int .u8 0,.int .u8 0,.int .u8 0,.int .u8 0,.int .u8 0,.int .u8 0,.int .u8 0,.int .u8 0,.int .u8 0,.int .u8 0,.int .u8 0,.int .u8 0]at B2
 refine aB (aA (s_1 (At.seq fun _ s_2=>At.region (aC (aD rfl) rfl rfl (aH (aX rfl) (.cons rfl .nil) (FPairs (h.le hle) hc) Try.func32 rfl rfl (by simp) rfl ?_)))))
 rintro v4 L4 ⟨M4,a4,c4,xs,S,rfl,rfl,hp,hL⟩
 change At _ _ _ [M4,N2,R] _
 have hroot:rootM R0=kec (nodeF 81 (prs S)).form:=by rw [root_perm hG.dis hp.symm,rootM]
 have hsm:=node_small 81 (hG.perm hp.symm).fit.sml
 refine aH (aX rfl) (.cons rfl .nil) (FForm hL) Try.func33 rfl rfl (by simp) rfl ?_
 rintro v5 L5 ⟨M5,a5,c5,rfl,rfl,r5⟩
 change At _ _ _ [M5,M4,N2,R] _
 refine aH (aX rfl) (.cons rfl .nil) (FKeccak_f r5.rsl (by omega)) Try.func31 rfl rfl (by simp) rfl ?_
 rintro v6 L6 ⟨rfl,rfl⟩
 change At _ _ _ [M5,M4,N2,R] _
 rw [←hroot]
 refine aW (nxl rfl) sz48 rfl rfl rfl (kecM _) (all8x2 _) B2 (by rw [kecM];exact Nat.le_refl 32) sel2 (fun N2 B2=>?_)
 rw [setL_whole (by rw [kecM];rfl)]at B2
 refine aB (aA (s_2 (At.ret ((At.sub (L':= [N2,R]) (.cons_cons _ (.cons _ (.cons _ (.cons_cons _ (.slnil))))) ?_)))))
 refine aQ (L1:= []) rfl (.cell rfl (res_agg (ds:=u8s (rootM R0)) ag48 B2 (by rw [List.drop_zero,List.take_of_length_le (by rw [kecM];exact Nat.le_refl 32)]) (kecM _) aN) .nil) (.cons _ (.refl _)) (.refl _) ?_
 exact⟨rfl,rfl⟩
end
end Go.Proofs.Ytdpjbefeabokgaa
/- Layer 12, the reference: Get, pairs, Root. No condition but bounds. -/
namespace Go.Proofs.Ytdpjbefeabokgaa
open Go Go.RowKit
set_option maxRecDepth 100000
section
variable {Nt K : Heaplet} {bt : Nat} {R0 : List PR} {ka : Option Addr} {kn kc : Nat} {k : List UInt8}
theorem get_at {i:Nat} {x:List UInt8} (hd:Dis R0) (h:R0[i]? =some (k,x)):getR R0 k=some x∧hasM k R0=true:=
 ⟨(get_iff hd).2 (List.mem_of_getElem? h),has_iff.2 ⟨x,List.mem_of_getElem? h⟩⟩
theorem get_no (hd:Dis R0) (h:hasM k R0=false):getR R0 k=none:=by
 cases hg:getR R0 k with
 |none=>rfl
 |some v=>have:=(has_get hd (k:=k)).2 (by rw [hg];simp);rw [h]at this;cases this
theorem rGet (h:RefS Nt bt R0) (hk:RSl K 1 ka kn kc (u8s k)):Fn Try.prog 23 #[.pointer (some ⟨bt,0,none⟩),.slice ka kn kc] [] [Nt,K] (fun v L=> ∃a c,v=.tuple #[.slice a ((getR R0 k).getD []).length c,.bool (hasM k R0)]∧L= []∧RSl Nt 1 a ((getR R0 k).getD []).length c (u8s ((getR R0 k).getD []))):=by
 have hA:=rAt h hk
 obtain⟨aa,ac,va,vc,ks,vs,Bt,rk,rv,bk,bv,hG⟩:=h
 have hcap:=rv.cap63
 refine Fn.enter (vs:= [.pointer (some ⟨bt,0,none⟩),.slice ka kn kc]) Try.func23 rfl rfl rfl ?_
 intro E R hR
 have hle:=hR Nt (by simp)
 have BR:=Bt.le hle
 have rvR:=rv.le hle
 change At _ _ E [R] _
 refine At.seq fun _ s_1=>At.region (aE (aD rfl) rfl rfl (aE (aD rfl) rfl rfl (aB (aA (s_1 (At.seq fun _ s_2=>At.region (aC (aD rfl) rfl rfl (aC (aD rfl) rfl rfl (aH (aX rfl) (.cons rfl (.cons rfl .nil)) (hA.liftN hR) Try.func38 rfl rfl (by simp) rfl ?_)))))))))
 rintro v9 L9 ⟨z,rfl,rfl,hat⟩
 change At _ _ _ [R] _
 refine aE (aD rfl) rfl rfl (aB (aA (s_2 (At.seq fun _ s_3=>At.seq fun _ s_4=>At.region (aC (aD rfl) rfl rfl (op_lss (aD rfl) rfl rfl rfl (aB (aA (s_4 (aL rfl (fun c11=>?_) (fun c11=>?_)))))))))))
 ·refine At.seq fun _ s_5=>At.region (aE (aD rfl) rfl rfl (aE (aD rfl) rfl rfl (aB (aA (s_5 (At.ret (bA ((At.retN (L1:= []) rfl (.tmp rfl (.tmp rfl .nil)) rfl (.refl _) (.refl _) ?_)))))))))
  rcases hat with ⟨q,_⟩|⟨i,x,e,_⟩
  ·rw [get_no hG.dis q,q]
   exact⟨none,0,rfl,rfl,RSl.nil _ _⟩
  ·omega
 obtain⟨i,x,rfl,hix⟩:=hat.resolve_left fun q=>c11 (by rw [q.2];decide)
 obtain⟨hg1,hg2⟩:=get_at hG.dis hix
 obtain⟨a,c,hc,hs⟩:=bags_at (f:=Prod.snd) bv hix
 have hil:i<R0.length:=(List.getElem?_eq_some_iff.1 hix).1
 refine At.skip (aA (s_3 (At.seq fun _ s_6=>At.region (aC (aD rfl) rfl rfl (bC (aD rfl) rfl rfl (aG (aD rfl) fl31_1 rfl rfl (aJ (aD rfl) sc29 rfl BR (by first|rfl) aN rfl ?_)))))))
 refine aC (aD rfl) rfl rfl (op_idx1 (aD rfl) se29 rfl rfl rvR (show _=(((i:Nat)):Int)from by omega) (by omega) rfl ?_)
 refine aR (aD rfl) sc33 rfl rvR (by first|exact get8 (by omega)|exact get64 (by omega)|exact get32 (by omega)|exact hc) (by first|exact aN|exact aV|exact aZ|exact mem3|exact mem4|exact mem5|exact mem6|exact mem7|exact mem8|exact mem9) rfl ?_
 refine aE (aD rfl) rfl rfl (aE (aD rfl) rfl rfl (aB (aA (s_6 (At.ret ((At.retN (L1:= []) rfl (.tmp rfl (.tmp rfl .nil)) rfl (.refl _) (.refl _) ?_)))))))
 rw [hg1,hg2]
 exact⟨a,c,rfl,rfl,hs⟩
/-- What pairs gives. -/
def PairsD (Nt:Heaplet) (R0:List PR) (v:Value) (L:List Heaplet):Prop:= ∃M a cp, ∃xs:List PV,v=.slice a xs.length cp∧L= [M]∧PsM [M,Nt] 81 (prs R0) xs a xs.length cp
set_option maxHeartbeats 2000000 in
theorem rPairs (h:RefS Nt bt R0) (hc:R0.length≤1000000):Fn Try.prog 43 #[.pointer (some ⟨bt,0,none⟩)] [] [Nt] (PairsD Nt R0):=by
 obtain⟨aa,ac,va,vc,ks,vs,Bt,rk,rv,bk,bv,hG⟩:=h
 have hcap:=rk.cap63
 have hcap2:=rv.cap63
 refine Fn.enter (vs:= [.pointer (some ⟨bt,0,none⟩)]) Try.func43 rfl rfl rfl ?_
 intro E R hR
 have hle:=hR Nt (by simp)
 have BR:=Bt.le hle
 have rkR:=rk.le hle
 have rvR:=rv.le hle
 change At _ _ E [R] _
 refine At.seq fun _ s_1=>At.region (aE (aD rfl) rfl rfl (aB (aA (s_1 (At.seq fun _ s_2=>At.region (aE (aD rfl) rfl rfl (aB (aA (s_2 (At.seq fun _ s_3=>At.seq fun _ s_4=>At.region (aE (aD rfl) rfl rfl (aB (aA (s_4 (At.block (At.empty (At.empty (At.perm sel2 (At.perm sel1 ?_)))))))))))))))))))
 refine At.perm sel2 (At.loop (fun fr_ hp_ ms_=> ∃(i m:Nat) (a:Option Addr) (cp:Nat) (ys:List PV) (Na NJ:Heaplet),fr_= [(0,.pointer (some ⟨bt,0,none⟩)),(3,.slice a m cp),(4,.int .i64 (i:Int))]∧hp_= [Na,NJ,R]∧R0.length- i=ms_∧(i≤R0.length)∧(m=i)∧(Row Na 114 2 a m cp (cellsP ys))∧(∀J:Heaplet,NJ.le J→Nt.le J→PsN J (prs (R0.take i)) ys)) ?_ (.refl _) ⟨0,0,none,0,[],nilH,nilH,rfl,rfl,rfl,Nat.zero_le _,rfl,Row.nil _ _ _,fun J _ _=>PsN.nil _⟩ ?_)
 ·exact .cons (by first|exact aK rfl (by omega)|rfl) (.cons (by first|exact aK rfl (by omega)|rfl) (.cons (by first|exact aK rfl (by omega)|rfl) .nil))
 rintro _ _ _ ⟨i,m,a,cp,ys,Na,NJ,rfl,rfl,rfl,hi,hmi,ra,hy⟩
 refine At.seq fun _ s_5=>At.seq fun _ s_6=>At.region (aC (aD rfl) rfl rfl (aC (aD rfl) rfl rfl (bC (aD rfl) rfl rfl (aG (aD rfl) fl31_0 rfl rfl (aJ (aD rfl) sc29 rfl BR (by first|rfl) aZ rfl ?_)))))
 refine aS (aD rfl) se29 rfl rfl (op_lss (aD rfl) rfl rfl rfl (aB (aA (s_6 (aL rfl (fun c11=>?_) (fun c11=>?_))))))
 ·obtain⟨p,hp⟩: ∃p,R0[i]? =some p:=⟨_,List.getElem?_eq_getElem (by omega)⟩
  obtain⟨ya,yc,hkc,hks⟩:=bags_at (f:=Prod.fst) bk hp
  obtain⟨xa,xc,hvc,hvs⟩:=bags_at (f:=Prod.snd) bv hp
  have hk40:=hG.key p (List.mem_of_getElem? hp)
  refine At.skip (aA (s_5 (At.seq fun _ s_7=>At.block (At.drawnS [R] [17,18] [0,9,13] [0,1,2,3,4,5,6,7,9,10,11,12,13,14,15,8,16,17,18,19] (by kernel_rfl) (by kernel_rfl) (.cons _ (.cons _ (.refl _))) (aC (aM rfl rfl rfl) rfl rfl (aC (aM rfl rfl rfl) rfl rfl (bC (aM rfl rfl rfl) rfl rfl (aG (aM rfl rfl rfl) fl31_0 rfl rfl (aJ (aM rfl rfl rfl) sc29 rfl BR (by first|rfl) aN rfl ?_)))))))))
  refine aC (aM rfl rfl rfl) rfl rfl (op_idx1 (aM rfl rfl rfl) se29 rfl rfl rkR (show _=(((i:Nat)):Int)from by omega) (by omega) rfl ?_)
  refine aR (aM rfl rfl rfl) sc33 rfl rkR (by first|exact get8 (by omega)|exact get64 (by omega)|exact get32 (by omega)|exact hkc) (by first|exact aN|exact aV|exact aZ|exact mem3|exact mem4|exact mem5|exact mem6|exact mem7|exact mem8|exact mem9) rfl ?_
  refine aC (aM rfl rfl rfl) rfl rfl (bC (aM rfl rfl rfl) rfl rfl (aG (aM rfl rfl rfl) fl31_1 rfl rfl (aJ (aM rfl rfl rfl) sc29 rfl BR (by first|rfl) aN rfl ?_)))
  refine aC (aM rfl rfl rfl) rfl rfl (op_idx1 (aM rfl rfl rfl) se29 rfl rfl rvR (show _=(((i:Nat)):Int)from by omega) (by omega) rfl ?_)
  refine aR (aM rfl rfl rfl) sc33 rfl rvR (by first|exact get8 (by omega)|exact get64 (by omega)|exact get32 (by omega)|exact hvc) (by first|exact aN|exact aV|exact aZ|exact mem3|exact mem4|exact mem5|exact mem6|exact mem7|exact mem8|exact mem9) rfl ?_
  refine aH (Nx.agree (nxsm rfl rfl rfl)) (.cons rfl .nil) (rNibs (hks.le hle) (by omega)) Try.func37 rfl rfl (by simp) rfl ?_
  rintro v22 L22 ⟨M22,a22,c22,rfl,rfl,r22⟩
  change At _ _ _ [M22,Na,NJ,R] _
  refine At.perm sel3 (At.perm sel1 (At.perm sel3 (At.perm sel3 (At.moreS (Lst:= [R]) (Lst':= [M22,R]) (.cons _ (.refl _)) (.cons _ (.cons _ (.refl _))) (op_build (out:= [_,_]) (aM rfl rfl rfl) ze114 pl114 (.cons rfl (.cons rfl .nil)) rfl rfl (op_lit (Nx.agree (nxss rfl rfl rfl rfl)) Try.underlying86 ze114 sz114 (.cons rfl .nil) rfl rfl (by simp [Value.cells]) rfl rfl rfl (fun N31 a31 r31=>?_)))))))
  simp only [flatV,List.flatMap_cons,List.flatMap_nil,Value.cells,List.append_nil,List.cons_append,List.nil_append]at r31
  have s31:=r31.rsl
  refine At.anyS (.refl _) ?_
  change Row N31 _ 2 a31 1 1 (cellsP [⟨a22,2*p.1.length,c22,xa,p.2.length,xc⟩])at r31
  have s31:=r31.rsl
  refine bD (nxss rfl rfl rfl rfl) Try.underlying86 Try.underlying86 te114 rfl rfl ra s31 (by first|exact aN|exact aV|exact aZ|exact mem3|exact mem4|exact mem5|exact mem6|exact mem7|exact mem8|exact mem9) (cellsP_one _) (by omega) (by omega) sel1 rfl (fun N32 a32 p32 r32=>?_)
  have s32:=r32.rsl
  refine At.anyS (.refl _) ?_
  rw [←cellsP_app]at r32
  refine aE (aM rfl rfl rfl) rfl rfl (At.sNil (aP (aA (s_7 (At.region (aC (aD rfl) rfl rfl (aO (aD rfl) rfl rfl (by omega) (by omega) rfl (aE (aD rfl) rfl rfl (aB (aA (At.perm sel4 (At.perm sel2 (At.perm sel2 (At.perm sel4 (At.perm sel4 (At.mergeN (fun J J1 J2=>At.sub (L':= [J,N32,R]) (.cons_cons _ (.cons_cons _ (.cons _ (.cons_cons _ (.slnil))))) (At.perm sel2 (At.perm sel1 (At.perm sel2 ?_))))))))))))))))))))
  refine bB ?_ (.refl _) ⟨i+1,m+1,a32,p32,ys++ [⟨a22,2*p.1.length,c22,xa,p.2.length,xc⟩],N32,J,rfl,rfl,rfl,by omega,by omega,r32,fun J' h1 h2=>by rw [take_next1 hp,show prs (R0.take i++ [p])=prs (R0.take i)++ [(nibs p.1,p.2)]from by simp [prs]];exact(hy J' (Heaplet.le_trans J1 h1) h2).snoc ⟨(nibs_length p.1).symm,r22.rsl.le (Heaplet.le_trans J2 h1),rfl,hvs.le h2⟩⟩ ?_
  ·exact .cons (by first|exact aK rfl (by omega)|rfl) (.cons (by first|exact aK rfl (by omega)|rfl) (.cons (by first|exact aK rfl (by omega)|rfl) .nil))
  ·omega
 refine At.exit (aF (aF (aU (aA (s_3 (At.seq fun _ s_8=>At.region (aC (aD rfl) rfl rfl (aE (aD rfl) rfl rfl (aB (aA (s_8 (At.ret ((At.mergeN (fun Q Q1 Q2=>aQ (L1:= [Q]) rfl (.tmp rfl .nil) (.refl _) (.refl _) ?_)))))))))))))))
 rw [List.take_of_length_le (by omega)]at hy
 have hyl:m=ys.length:=by have h3:=ra.1;rw [cellsP_len]at h3;omega
 rw [hyl]at ra⊢
 refine⟨Q,a,cp,ys,rfl,rfl,fun J hJ=>?_⟩
 have h1:=hJ Q (by simp)
 exact⟨ra.rsl.le (Heaplet.le_trans Q1 h1),hy J (Heaplet.le_trans Q2 h1) (hJ Nt (by simp)),hG.dis.prs,hG.fit,by omega⟩
theorem rRoot (h:RefS Nt bt R0) (hc:R0.length≤1000000):Fn Try.prog 29 #[.pointer (some ⟨bt,0,none⟩)] [] [Nt] (fun v L=>v=.agg (u8s (rootM R0)).toArray∧L= []):=by
 obtain⟨aa,ac,va,vc,ks,vs,Bt,rk,rv,bk,bv,hG⟩:=id h
 have hsm:=node_small 81 hG.fit.sml
 obtain⟨t,ht⟩: ∃t,nodeF 81 (prs R0)=t:=⟨_,rfl⟩
 have hroot:rootM R0=kec t.form:=by rw [rootM,ht]
 have hN:=rNode 81
 rw [ht]at hsm
 refine Fn.enter (vs:= [.pointer (some ⟨bt,0,none⟩)]) Try.func29 rfl rfl rfl ?_
 intro E R hR
 have hle:=hR Nt (by simp)
 change At _ _ E [R] _
 refine At.seq fun _ s_1=>At.region (op_alloc (aX rfl) ze48 rfl (fun N2 b2 B2=>?_))
 change Blk N2 b2 _ [.int .u8 0,.int .u8 0,.int .u8 0,.int .u8 0,.int .u8 0,.int .u8 0,.int .u8 0,.int .u8 0,.int .u8 0,.int .u8 0,.int .u8 0,.int .u8 0,.int .u8 0,.int .u8 0,.int .u8 0,.int .u8 0,.int .u8 0,.int .u8 0,.int .u8 0,.int .u8 0,.int .u8 0,.int .u8 0,.int .u8 0,.int .u8 0,.int .u8 0,.int .u8 0,.int .u8 0,.int .u8 0,.int .u8 0,.int .u8 0,.int .u8 0,.int .u8 0]at B2
 refine aB (aA (s_1 (At.seq fun _ s_2=>At.region (aC (aD rfl) rfl rfl (aH (aX rfl) (.cons rfl .nil) (rPairs (h.le hle) hc) Try.func43 rfl rfl (by simp) rfl ?_)))))
 rintro v4 L4 ⟨M4,a4,c4,xs,rfl,rfl,hL⟩
 change At _ _ _ [M4,N2,R] _
 have hN:=hN _ _ _ _ _ _ hL
 rw [ht]at hN
 refine aH (aX rfl) (.cons rfl .nil) (hN) Try.func42 rfl rfl (by simp) rfl ?_
 rintro v5 L5 ⟨M5,x,rfl,rfl,hx⟩
 change At _ _ _ [M5,M4,N2,R] _
 refine aH (aX rfl) (.cons rfl .nil) (Fn.overJ (Ns:= [M5,M4,R]) fun J hJ=>rForm_b (hx J (hJ _ (by simp)) fun N hN=>hJ N (by simp only [List.mem_cons,List.not_mem_nil,or_false]at hN⊢;exact .inr hN)) (by omega)) Try.func41 rfl rfl (by simp) rfl ?_
 rintro v6 L6 ⟨M6,a6,c6,rfl,rfl,r6⟩
 change At _ _ _ [M6,M5,M4,N2,R] _
 refine aH (aX rfl) (.cons rfl .nil) (rKeccak_f r6.rsl (by omega)) Try.func25 rfl rfl (by simp) rfl ?_
 rintro v7 L7 ⟨rfl,rfl⟩
 change At _ _ _ [M6,M5,M4,N2,R] _
 rw [←hroot]
 refine aW (nxl rfl) sz48 rfl rfl rfl (kecM _) (all8x2 _) B2 (by rw [kecM];exact Nat.le_refl 32) sel3 (fun N2 B2=>?_)
 rw [setL_whole (by rw [kecM];rfl)]at B2
 refine aB (aA (s_2 (At.ret ((At.sub (L':= [N2,R]) (.cons_cons _ (.cons _ (.cons _ (.cons _ (.cons_cons _ (.slnil)))))) ?_)))))
 refine aQ (L1:= []) rfl (.cell rfl (res_agg (ds:=u8s (rootM R0)) ag48 B2 (by rw [List.drop_zero,List.take_of_length_le (by rw [kecM];exact Nat.le_refl 32)]) (kecM _) aN) .nil) (.cons _ (.refl _)) (.refl _) ?_
 exact⟨rfl,rfl⟩
end
end Go.Proofs.Ytdpjbefeabokgaa
/- Layer 12, the reference: a key's value is taken away, laid. No condition but bounds. -/
namespace Go.Proofs.Ytdpjbefeabokgaa
open Go Go.RowKit
set_option maxRecDepth 100000
def RefO (bt:Nat) (Nt Nk Nv Ne:Heaplet) (R0:List PR):Prop:= ∃ka kc va vc ks vs,Blk Nt bt 31 [.slice ka R0.length kc,.slice va R0.length vc]∧Row Nk 33 1 ka R0.length kc ks∧Row Nv 33 1 va R0.length vc vs∧Bags Ne ks (R0.map Prod.fst)∧Bags Ne vs (R0.map Prod.snd)∧Good R0
theorem RefO.s {bt:Nat} {Nt Nk Nv Ne J:Heaplet} {R0:List PR} (h:RefO bt Nt Nk Nv Ne R0) (h1:Nt.le J) (h2:Nk.le J) (h3:Nv.le J) (h4:Ne.le J):RefS J bt R0:=by
 obtain⟨ka,kc,va,vc,ks,vs,g1,g2,g3,g4,g5,g6⟩:=h
 exact⟨ka,kc,va,vc,ks,vs,g1.le h1,g2.rsl.le h2,g3.rsl.le h3,g4.le h4,g5.le h4,g6⟩
theorem Fn.dupN {P:Program} {f:FuncId} {args:Array Value} {L0:List Heaplet} {K:Heaplet} {Post:Value→List Heaplet→Prop} (h:Fn P f args L0 [K,K] Post):Fn P f args L0 [K] Post:=h.liftN fun N hN=>by
 simp only [List.mem_cons,List.not_mem_nil,or_false]at hN
 rcases hN with rfl|rfl<;>exact Heaplet.le_refl _
theorem del_take {k:List UInt8} {R0:List PR} {i:Nat} {p:PR} (h:R0[i]? =some p):delM k (R0.take (i+1))=delM k (R0.take i)++(if p.1=k then []else [p]):=by
 rw [take_next1 h,delM,List.filter_append]
 by_cases e:p.1=k<;>simp [delM,e]
theorem Bags.one {N:Heaplet} {us:List Value} {gs:List (List UInt8)} {a:Option Addr} {c:Nat} {g:List UInt8} (h:Bags N us gs) (hr:RSl N 1 a g.length c (u8s g)):Bags N (us++ [.slice a g.length c]) (gs++ [g]):=by
 refine⟨by simp [h.len],fun i y hy=>?_⟩
 rcases snoc_get hy with ⟨hi,hy⟩|⟨hi,rfl⟩
 ·obtain⟨q,d,h1,h2⟩:=h.rsl i y hy
  exact⟨q,d,get_snoc_l h1,h2⟩
 ·exact⟨a,c,get_snoc_r (by rw [hi,h.len]),hr⟩
theorem bags_one {N:Heaplet} {us:List Value} {gs:List (List UInt8)} (h:Bags N us gs): ∀u∈us,u.oneCell'=true:=fun u hu=>by
 obtain⟨i,hi,rfl⟩:=List.mem_iff_getElem.1 hu
 obtain⟨q,d,h1,_⟩:=h.rsl i (gs[i]'(by rw [←h.len];exact hi)) (List.getElem?_eq_getElem _)
 rw [List.getElem?_eq_getElem hi]at h1
 rw [Option.some.inj h1];rfl
section
variable {Nt Nk Nv Ne K V : Heaplet} {bt : Nat} {R0 : List PR} {ka va : Option Addr} {kn kc vn vc : Nat} {k v : List UInt8}
set_option maxHeartbeats 2000000 in
theorem rDelete_o (h:RefO bt Nt Nk Nv Ne R0) (hk:RSl K 1 ka kn kc (u8s k)) (hc:R0.length≤1000000):Fn Try.prog 28 #[.pointer (some ⟨bt,0,none⟩),.slice ka kn kc] [Nt,Nk,Nv,Ne] [K] (fun x L=> ∃Nt Nk Nv Ne,x=.bool (hasM k R0)∧L= [Nt,Nk,Nv,Ne]∧RefO bt Nt Nk Nv Ne (delM k R0)):=by
 have hO:=h
 obtain⟨aa,ac,ba,bc,ks,vs,Bt,rk,rv,bk,bv,hG⟩:=h
 have sk:=rk.rsl
 have sv:=rv.rsl
 have hcap:=sk.cap63
 have hcap2:=sv.cap63
 refine Fn.enter (vs:= [.pointer (some ⟨bt,0,none⟩),.slice ka kn kc]) Try.func28 rfl rfl rfl ?_
 intro E R hR
 have hk:=hk.le (hR K (by simp))
 change At _ _ E [Nt,Nk,Nv,Ne,R] _
 refine At.seq fun _ s_1=>At.region (aE (aD rfl) rfl rfl (aB (aA (s_1 (At.seq fun _ s_2=>At.region (aC (aD rfl) rfl rfl (aC (aD rfl) rfl rfl (aH (aX rfl) (.cons rfl (.cons rfl .nil)) (Fn.overJ (Ns:= [Nt,Nk,Nv,Ne,R]) fun J hJ=>(rAt (hO.s (hJ _ (by simp)) (hJ _ (by simp)) (hJ _ (by simp)) (hJ _ (by simp))) (hk.le (hJ _ (by simp)))).dupN) Try.func38 rfl rfl (by simp) rfl ?_))))))))
 rintro v11 L11 ⟨z,rfl,rfl,hat⟩
 change At _ _ _ [Nt,Nk,Nv,Ne,R] _
 refine aE (aD rfl) rfl rfl (aB (aA (s_2 (At.seq fun _ s_3=>At.seq fun _ s_4=>At.region (aC (aD rfl) rfl rfl (op_lss (aD rfl) rfl rfl rfl (aB (aA (s_4 (aL rfl (fun c13=>?_) (fun c13=>?_)))))))))))
 ·refine At.seq fun _ s_5=>At.region (aE (aD rfl) rfl rfl (aB (aA (s_5 (At.ret (bA ((aQ (L1:= [Nt,Nk,Nv,Ne]) rfl (.tmp rfl .nil) (.refl _) (.refl _) ?_))))))))
  have hn:hasM k R0=false:=by
   rcases hat with ⟨q,_⟩|⟨i,x,e,_⟩
   ·exact q
   ·omega
  exact⟨Nt,Nk,Nv,Ne,by rw [hn],rfl,by rw [del_none hn];exact hO⟩
 obtain⟨j,x,rfl,hjx⟩:=hat.resolve_left fun q=>c13 (by rw [q.2];decide)
 have hjl:j<R0.length:=(List.getElem?_eq_some_iff.1 hjx).1
 obtain⟨hg1,hg2⟩:=get_at hG.dis hjx
 refine At.skip (aA (s_3 (At.seq fun _ s_6=>At.region (aE (aD rfl) rfl rfl (aE (aD rfl) rfl rfl (aB (aA (s_6 (At.seq fun _ s_7=>At.seq fun _ s_8=>At.region (aE (aD rfl) rfl rfl (aB (aA (s_8 (At.block (At.empty (At.empty (At.perm sel6 (At.perm sel6 (At.perm sel6 (At.perm sel6 ?_))))))))))))))))))))
 refine At.perm sel6 (At.perm sel5 (At.perm sel6 (At.loop (fun fr_ hp_ ms_=> ∃(i m:Nat) (a b:Option Addr) (ca cb:Nat) (us bs:List Value) (Na Nb:Heaplet),fr_= [(0,.pointer (some ⟨bt,0,none⟩)),(5,.int .i64 (j:Int)),(6,.slice a m ca),(7,.slice b m cb),(8,.int .i64 (i:Int))]∧hp_= [Na,Nb,Nt,Nk,Nv,Ne,R]∧R0.length- i=ms_∧(i≤R0.length)∧(m=(delM k (R0.take i)).length)∧(m≤i)∧(Row Na 33 1 a m ca us)∧(Row Nb 33 1 b m cb bs)∧(Bags Ne us ((delM k (R0.take i)).map Prod.fst))∧(Bags Ne bs ((delM k (R0.take i)).map Prod.snd))) ?_ (.refl _) ⟨0,0,none,none,0,0,[],[],nilH,nilH,rfl,rfl,rfl,Nat.zero_le _,rfl,Nat.le_refl _,Row.nil _ _ _,Row.nil _ _ _,Bags.nil _,Bags.nil _⟩ ?_)))
 ·exact .cons (by first|exact aK rfl (by omega)|rfl) (.cons (by first|exact aK rfl (by omega)|rfl) (.cons (by first|exact aK rfl (by omega)|rfl) (.cons (by first|exact aK rfl (by omega)|rfl) (.cons (by first|exact aK rfl (by omega)|rfl) .nil))))
 rintro _ _ _ ⟨i,m,a,b,ca,cb,us,bs,Na,Nb,rfl,rfl,rfl,hi,hm,hm2,ra,rb,ba,bb⟩
 refine At.seq fun _ s_9=>At.seq fun _ s_10=>At.region (aC (aD rfl) rfl rfl (aC (aD rfl) rfl rfl (bC (aD rfl) rfl rfl (aG (aD rfl) fl31_0 rfl rfl (aJ (aD rfl) sc29 rfl Bt (by first|rfl) aZ rfl ?_)))))
 refine aS (aD rfl) se29 rfl rfl (op_lss (aD rfl) rfl rfl rfl (aB (aA (s_10 (aL rfl (fun c20=>?_) (fun c20=>?_))))))
 ·obtain⟨p,hp⟩: ∃p,R0[i]? =some p:=⟨_,List.getElem?_eq_getElem (by omega)⟩
  obtain⟨ya,yc,hkc,hks⟩:=bags_at (f:=Prod.fst) bk hp
  obtain⟨xa,xc,hvc,hvs⟩:=bags_at (f:=Prod.snd) bv hp
  refine At.skip (aA (s_9 (At.seq fun _ s_11=>At.block (At.seq fun _ s_12=>At.region (aC (aD rfl) rfl rfl (aC (aD rfl) rfl rfl (op_neq (aD rfl) rfl rfl rfl (aB (aA (s_12 (aL rfl (fun c25=>?_) (fun c25=>?_))))))))))))
  ·have hpk:p.1≠k:=fun e=>by
    have h1:=hG.dis.eq (List.mem_of_getElem? hp) (List.mem_of_getElem? hjx) e
    have h2:i<(R0.map Prod.fst).length:=by rw [List.length_map];omega
    have h3:=(List.getElem?_inj h2 hG.dis (j:=j)).1 (by rw [List.getElem?_map,List.getElem?_map,hp,hjx,h1])
    exact c25 (by rw [h3])
   refine At.seq fun _ s_13=>At.region (aC (aD rfl) rfl rfl (aC (aD rfl) rfl rfl (bC (aD rfl) rfl rfl (aG (aD rfl) fl31_0 rfl rfl (aJ (aD rfl) sc29 rfl Bt (by first|rfl) aZ rfl ?_)))))
   refine aC (aD rfl) rfl rfl (op_idx1 (aD rfl) se29 rfl rfl sk (show _=(((i:Nat)):Int)from by omega) (by omega) rfl ?_)
   refine aR (aD rfl) sc33 rfl sk (by first|exact get8 (by omega)|exact get64 (by omega)|exact get32 (by omega)|exact hkc) (by first|exact aN|exact aV|exact aZ|exact mem3|exact mem4|exact mem5|exact mem6|exact mem7|exact mem8|exact mem9) rfl ?_
   refine op_lit (aX rfl) Try.underlying29 ze33 sz33 (.cons rfl .nil) rfl rfl (by simp [Value.cells]) rfl rfl rfl (fun N34 a34 r34=>?_)
   simp only [flatV,List.flatMap_cons,List.flatMap_nil,Value.cells,List.append_nil,List.cons_append,List.nil_append]at r34
   have s34:=r34.rsl
   refine bD (nxl rfl) Try.underlying29 Try.underlying29 te33 rfl rfl ra s34 (by first|exact aN|exact aV|exact aZ|exact mem3|exact mem4|exact mem5|exact mem6|exact mem7|exact mem8|exact mem9) (by intro u hu;simp at hu;subst hu;rfl) (by omega) (by omega) sel1 rfl (fun N35 a35 p35 r35=>?_)
   have s35:=r35.rsl
   refine aE (aD rfl) rfl rfl (aB (aA (s_13 (At.region (aC (aD rfl) rfl rfl (aC (aD rfl) rfl rfl (bC (aD rfl) rfl rfl (aG (aD rfl) fl31_1 rfl rfl (aJ (aD rfl) sc29 rfl Bt (by first|rfl) mem3 rfl ?_)))))))))
   refine aC (aD rfl) rfl rfl (op_idx1 (aD rfl) se29 rfl rfl sv (show _=(((i:Nat)):Int)from by omega) (by omega) rfl ?_)
   refine aR (aD rfl) sc33 rfl sv (by first|exact get8 (by omega)|exact get64 (by omega)|exact get32 (by omega)|exact hvc) (by first|exact aN|exact aV|exact aZ|exact mem3|exact mem4|exact mem5|exact mem6|exact mem7|exact mem8|exact mem9) rfl ?_
   refine op_lit (aX rfl) Try.underlying29 ze33 sz33 (.cons rfl .nil) rfl rfl (by simp [Value.cells]) rfl rfl rfl (fun N44 a44 r44=>?_)
   simp only [flatV,List.flatMap_cons,List.flatMap_nil,Value.cells,List.append_nil,List.cons_append,List.nil_append]at r44
   have s44:=r44.rsl
   refine bD (nxl rfl) Try.underlying29 Try.underlying29 te33 rfl rfl rb s44 (by first|exact aN|exact aV|exact aZ|exact mem3|exact mem4|exact mem5|exact mem6|exact mem7|exact mem8|exact mem9) (by intro u hu;simp at hu;subst hu;rfl) (by omega) (by omega) sel3 rfl (fun N45 a45 p45 r45=>?_)
   have s45:=r45.rsl
   refine aE (aD rfl) rfl rfl (aB (aP (aA (s_11 (At.region (aC (aD rfl) rfl rfl (aO (aD rfl) rfl rfl (by omega) (by omega) rfl (aE (aD rfl) rfl rfl (aB (aA (At.sub (L':= [N45,N35,Nt,Nk,Nv,Ne,R]) (.cons_cons _ (.cons _ (.cons_cons _ (.cons _ (.cons_cons _ (.cons_cons _ (.cons_cons _ (.cons_cons _ (.cons_cons _ (.slnil)))))))))) (At.perm sel6 (At.perm sel6 (At.perm sel6 (At.perm sel6 (At.perm sel6 (At.perm sel5 (At.perm sel6 ?_))))))))))))))))))
   refine bB ?_ (.refl _) ⟨i+1,m+1,a35,a45,p35,p45,us++ [.slice ya p.1.length yc],bs++ [.slice xa p.2.length xc],N35,N45,rfl,rfl,rfl,by omega,by rw [del_take hp,if_neg hpk,List.length_append,hm];rfl,by omega,r35,r45,by rw [del_take hp,if_neg hpk,List.map_append];exact ba.one hks,by rw [del_take hp,if_neg hpk,List.map_append];exact bb.one hvs⟩ ?_
   ·exact .cons (by first|exact aK rfl (by omega)|rfl) (.cons (by first|exact aK rfl (by omega)|rfl) (.cons (by first|exact aK rfl (by omega)|rfl) (.cons (by first|exact aK rfl (by omega)|rfl) (.cons (by first|exact aK rfl (by omega)|rfl) .nil))))
   ·omega
  have hpk:p.1=k:=by
   have:i=j:=by omega
   rw [this,hjx]at hp
   rw [←Option.some.inj hp]
  refine At.skip (aP (aA (s_11 (At.region (aC (aD rfl) rfl rfl (aO (aD rfl) rfl rfl (by omega) (by omega) rfl (aE (aD rfl) rfl rfl (aB (aA ?_)))))))))
  refine bB ?_ (.refl _) ⟨i+1,m,a,b,ca,cb,us,bs,Na,Nb,rfl,rfl,rfl,by omega,by rw [del_take hp,if_pos hpk,List.append_nil,hm],by omega,ra,rb,by rw [del_take hp,if_pos hpk,List.append_nil];exact ba,by rw [del_take hp,if_pos hpk,List.append_nil];exact bb⟩ ?_
  ·exact .cons (by first|exact aK rfl (by omega)|rfl) (.cons (by first|exact aK rfl (by omega)|rfl) (.cons (by first|exact aK rfl (by omega)|rfl) (.cons (by first|exact aK rfl (by omega)|rfl) (.cons (by first|exact aK rfl (by omega)|rfl) .nil))))
  ·omega
 refine At.exit (aF (aF (aU (aA (s_7 (At.seq fun _ s_14=>At.region (aC (aD rfl) rfl rfl (aC (aD rfl) rfl rfl (bC (aD rfl) rfl rfl (aG (aD rfl) fl31_0 rfl rfl (aW (nxl rfl) sz29 rfl rfl rfl rfl rfl Bt (by simp) sel2 (fun Nt Bt=>?_))))))))))))
 simp only [setL,List.set]at Bt
 refine aB (aA (s_14 (At.seq fun _ s_15=>At.region (aC (aD rfl) rfl rfl (aC (aD rfl) rfl rfl (bC (aD rfl) rfl rfl (aG (aD rfl) fl31_1 rfl rfl (aW (nxl rfl) sz29 rfl rfl rfl rfl rfl Bt (by simp) sel0 (fun Nt Bt=>?_)))))))))
 simp only [setL,List.set]at Bt
 refine aB (aA (s_15 (At.seq fun _ s_16=>At.region (aE (aD rfl) rfl rfl (aB (aA (s_16 (At.ret ((At.sub (L':= [Nt,Na,Nb,Ne,R]) (.cons_cons _ (.cons_cons _ (.cons_cons _ (.cons _ (.cons _ (.cons_cons _ (.cons_cons _ (.slnil)))))))) (aQ (L1:= [Nt,Na,Nb,Ne]) rfl (.tmp rfl .nil) (.refl _) (.refl _) ?_)))))))))))
 rw [List.take_of_length_le (by omega)]at hm ba bb
 rw [hm]at ra rb Bt
 exact⟨Nt,Na,Nb,Ne,by rw [hg2],rfl,a,ca,b,cb,us,bs,Bt,ra,rb,ba,bb,hG.del k⟩
set_option maxHeartbeats 2000000 in
theorem rPut_o (h:RefO bt Nt Nk Nv Ne R0) (hk:RSl K 1 ka kn kc (u8s k)) (hv:RSl V 1 va vn vc (u8s v)) (hkn:kn≤40) (hvn:vn≤1000000) (hc:R0.length≤1000000):Fn Try.prog 27 #[.pointer (some ⟨bt,0,none⟩),.slice ka kn kc,.slice va vn vc] [Nt,Nk,Nv,Ne] [K,V] (fun x L=> ∃Nt Nk Nv Ne,x=.tuple #[]∧L= [Nt,Nk,Nv,Ne]∧RefO bt Nt Nk Nv Ne (putM k v R0)):=by
 have hkl:=hk.len8
 have hvl:=hv.len8
 have hdl:(delM k R0).length≤R0.length:=List.length_filter_le _ _
 have hG0:Good R0:=by obtain⟨_,_,_,_,_,_,_,_,_,_,_,hG⟩:=h;exact hG
 refine Fn.enter (vs:= [.pointer (some ⟨bt,0,none⟩),.slice ka kn kc,.slice va vn vc]) Try.func27 rfl rfl rfl ?_
 intro E R hR
 have hk:=hk.le (hR K (by simp))
 have hv:=hv.le (hR V (by simp))
 change At _ _ E [Nt,Nk,Nv,Ne,R] _
 refine At.seq fun _ s_1=>At.region (aC (aD rfl) rfl rfl (aC (aD rfl) rfl rfl (op_call (nxl rfl) (.cons rfl (.cons rfl .nil)) (rDelete_o h hk hc) (F:= [R]) Try.func28 rfl rfl (.refl _) (by simp) rfl ?_)))
 rintro v8 L8 ⟨Nt,Nk,Nv,Ne,rfl,rfl,hO⟩
 change At _ _ _ [Nt,Nk,Nv,Ne,R] _
 obtain⟨aa,ac,ba,bc,ks,vs,Bt,rk,rv,bk,bv,hG⟩:=id hO
 refine aB (aA (s_1 (At.seq fun _ s_2=>At.region (aC (aD rfl) rfl rfl (aS (aD rfl) se33 rfl rfl (op_gtr (aD rfl) rfl rfl rfl (aB (aA (s_2 (aL rfl (fun c11=>?_) (fun c11=>?_)))))))))))
 ·refine At.seq fun _ s_3=>At.perm sel0 (At.perm sel4 (At.perm sel4 (At.perm sel4 (At.perm sel4 (At.drawnS [R,Nt] [9,12] [0,1,6] [0,1,2,3,4,6,5,7,8,9,10,11,12] (by kernel_rfl) (by kernel_rfl) (.cons _ (.cons _ (.cons _ (.refl _)))) (aC (aM rfl rfl rfl) rfl rfl (aC (aM rfl rfl rfl) rfl rfl (bC (aM rfl rfl rfl) rfl rfl (aG (aM rfl rfl rfl) fl31_0 rfl rfl (aJ (aM rfl rfl rfl) sc29 rfl Bt (by first|rfl) aV rfl ?_))))))))))
  refine aC (aM rfl rfl rfl) rfl rfl (op_lit (Nx.agree (nxsm rfl rfl rfl)) Try.underlying33 ze5 sz5 .nil rfl rfl (by simp [Value.cells]) rfl rfl rfl (fun N17 a17 r17=>?_))
  simp only [flatV,List.flatMap_cons,List.flatMap_nil,Value.cells,List.append_nil,List.cons_append,List.nil_append]at r17
  have s17:=r17.rsl
  refine At.moreS (Lst:= [R,Nt]) (Lst':= [R,Nt]) (.refl _) (.cons _ (.cons _ (.cons _ (.cons _ (.refl _))))) ?_
  refine bD (nxsm rfl rfl rfl) Try.underlying33 Try.underlying33 te5 rfl rfl r17 hk (by first|exact aN|exact aV|exact aZ|exact mem3|exact mem4|exact mem5|exact mem6|exact mem7|exact mem8|exact mem9) (by first|exact one_u8s _|exact one_u64s _|exact one_u32s _|(intro u hu;simp at hu;subst hu;rfl)) (by omega) (by omega) sel0 rfl (fun N19 a19 p19 r19=>?_)
  have s19:=r19.rsl
  refine At.perm sel5 (At.perm sel5 (At.perm sel2 (At.perm sel5 (At.perm sel5 (At.perm sel5 (At.moreS (Lst:= [R,Nt]) (Lst':= [N19,R,Nt]) (.cons _ (.refl _)) (.cons _ (.cons _ (.cons _ (.refl _)))) (op_lit (Nx.agree (nxsm rfl rfl rfl)) Try.underlying29 ze33 sz33 (.cons rfl .nil) rfl rfl (by simp [Value.cells]) rfl rfl rfl (fun N20 a20 r20=>?_))))))))
  simp only [flatV,List.flatMap_cons,List.flatMap_nil,Value.cells,List.append_nil,List.cons_append,List.nil_append]at r20
  have s20:=r20.rsl
  refine At.moreS (Lst:= [N19,R,Nt]) (Lst':= [N19,R,Nt]) (.refl _) (.cons _ (.cons _ (.cons _ (.cons _ (.refl _))))) ?_
  have hbk:=bags_one bk
  change Row N20 _ 1 a20 1 1 [.slice a19 (0+kn) p19]at r20
  refine bD (nxss rfl rfl rfl rfl) Try.underlying29 Try.underlying29 te33 rfl rfl rk s20 (by first|exact aN|exact aV|exact aZ|exact mem3|exact mem4|exact mem5|exact mem6|exact mem7|exact mem8|exact mem9) (by intro u hu;simp at hu;subst hu;rfl) (by omega) (by omega) sel1 rfl (fun N21 a21 p21 r21=>?_)
  have s21:=r21.rsl
  refine At.anyS (.refl _) (bC (aM rfl rfl rfl) rfl rfl (aG (aM rfl rfl rfl) fl31_0 rfl rfl (aW (nxsl rfl rfl rfl rfl) sz29 rfl rfl rfl rfl rfl Bt (by simp) sel6 (fun Nt Bt=>?_))))
  simp only [setL,List.set]at Bt
  refine At.sNil (aA (s_3 (At.perm sel0 (At.perm sel6 (At.perm sel6 (At.perm sel6 (At.perm sel6 (At.perm sel6 (At.perm sel6 (At.drawnS [R,Nt] [9,12] [0,1,6] [0,1,2,3,4,6,5,7,8,9,10,11,12] (by kernel_rfl) (by kernel_rfl) (.cons _ (.cons _ (.cons _ (.cons _ (.cons _ (.refl _)))))) (aC (aM rfl rfl rfl) rfl rfl (aC (aM rfl rfl rfl) rfl rfl (bC (aM rfl rfl rfl) rfl rfl (aG (aM rfl rfl rfl) fl31_1 rfl rfl (aJ (aM rfl rfl rfl) sc29 rfl Bt (by first|rfl) aV rfl ?_)))))))))))))))
  refine aC (aM rfl rfl rfl) rfl rfl (op_lit (Nx.agree (nxsm rfl rfl rfl)) Try.underlying33 ze5 sz5 .nil rfl rfl (by simp [Value.cells]) rfl rfl rfl (fun N29 a29 r29=>?_))
  simp only [flatV,List.flatMap_cons,List.flatMap_nil,Value.cells,List.append_nil,List.cons_append,List.nil_append]at r29
  have s29:=r29.rsl
  refine At.moreS (Lst:= [R,Nt]) (Lst':= [R,Nt]) (.refl _) (.cons _ (.cons _ (.cons _ (.cons _ (.cons _ (.cons _ (.refl _))))))) ?_
  refine bD (nxsm rfl rfl rfl) Try.underlying33 Try.underlying33 te5 rfl rfl r29 hv (by first|exact aN|exact aV|exact aZ|exact mem3|exact mem4|exact mem5|exact mem6|exact mem7|exact mem8|exact mem9) (by first|exact one_u8s _|exact one_u64s _|exact one_u32s _|(intro u hu;simp at hu;subst hu;rfl)) (by omega) (by omega) sel0 rfl (fun N31 a31 p31 r31=>?_)
  have s31:=r31.rsl
  refine At.perm sel7 (At.perm sel7 (At.perm sel2 (At.perm sel7 (At.perm sel7 (At.perm sel7 (At.perm sel7 (At.perm sel7 (At.moreS (Lst:= [R,Nt]) (Lst':= [N31,R,Nt]) (.cons _ (.refl _)) (.cons _ (.cons _ (.cons _ (.cons _ (.cons _ (.refl _)))))) (op_lit (Nx.agree (nxsm rfl rfl rfl)) Try.underlying29 ze33 sz33 (.cons rfl .nil) rfl rfl (by simp [Value.cells]) rfl rfl rfl (fun N32 a32 r32=>?_))))))))))
  simp only [flatV,List.flatMap_cons,List.flatMap_nil,Value.cells,List.append_nil,List.cons_append,List.nil_append]at r32
  have s32:=r32.rsl
  refine At.moreS (Lst:= [N31,R,Nt]) (Lst':= [N31,R,Nt]) (.refl _) (.cons _ (.cons _ (.cons _ (.cons _ (.cons _ (.cons _ (.refl _))))))) ?_
  refine bD (nxss rfl rfl rfl rfl) Try.underlying29 Try.underlying29 te33 rfl rfl rv s32 (by first|exact aN|exact aV|exact aZ|exact mem3|exact mem4|exact mem5|exact mem6|exact mem7|exact mem8|exact mem9) (by intro u hu;simp at hu;subst hu;rfl) (by omega) (by omega) sel3 rfl (fun N33 a33 p33 r33=>?_)
  have s33:=r33.rsl
  refine At.anyS (.refl _) (bC (aM rfl rfl rfl) rfl rfl (aG (aM rfl rfl rfl) fl31_1 rfl rfl (aW (nxsl rfl rfl rfl rfl) sz29 rfl rfl rfl rfl rfl Bt (by simp) sel8 (fun Nt Bt=>?_))))
  simp only [setL,List.set]at Bt
  refine At.sNil (At.perm sel8 (At.perm sel8 (At.perm sel6 (At.perm sel6 (At.perm sel6 (At.perm sel6 (At.perm sel6 (At.perm sel8 (At.perm sel8 (At.mergeN (fun P P1 P2=>At.perm sel7 (At.perm sel6 (At.perm sel6 (At.perm sel6 (At.perm sel6 (At.perm sel6 (At.perm sel7 (At.perm sel7 (At.mergeN (fun Q Q1 Q2=>At.sub (L':= [Q,Nt,N33,N21,R]) (.cons_cons _ (.cons_cons _ (.cons_cons _ (.cons _ (.cons_cons _ (.cons _ (.cons_cons _ (.slnil)))))))) ?_))))))))))))))))))))
  refine At.perm sel4 (At.perm sel1 (At.perm sel3 (At.perm sel4 (At.perm sel4 (At.retNE (L1:= [Nt,N21,N33,Q]) rfl .nil rfl (.refl _) (.refl _) ?_)))))
  have e:v≠ []:=fun e=>by rw [e]at hvl;simp at hvl;omega
  have ep:putM k v R0=delM k R0++ [(k,v)]:=if_neg e
  rw [Nat.zero_add]at r19 r31 r21 r33
  rw [←hkl]at r19 r21
  rw [←hvl]at r31 r33
  have el:(putM k v R0).length=(delM k R0).length+1:=by rw [ep,List.length_append];rfl
  refine⟨Nt,N21,N33,Q,rfl,rfl,a21,p21,a33,p33,_,_,by rw [el];exact Bt,by rw [el];exact r21,by rw [el];exact r33,?_,?_,hG0.put (by omega) (by omega)⟩
  ·rw [ep,List.map_append]
   exact(bk.le (Heaplet.le_trans P1 Q1)).one (r19.rsl.le (Heaplet.le_trans P2 Q1))
  ·rw [ep,List.map_append]
   exact(bv.le (Heaplet.le_trans P1 Q1)).one (r31.rsl.le Q2)
 refine At.skip (At.retNE (L1:= [Nt,Nk,Nv,Ne]) rfl .nil rfl (.refl _) (.refl _) ?_)
 have e:v= []:=List.eq_nil_of_length_eq_zero (by omega)
 exact⟨Nt,Nk,Nv,Ne,rfl,rfl,by rw [putM,if_pos e];exact hO⟩
end
end Go.Proofs.Ytdpjbefeabokgaa
