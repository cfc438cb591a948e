/- Several texts in one: see the remarks ahead of each part. No condition but those told there. -/
import Derived.Test.YtalmjkcapecpiaaGreatX1
import Derived.Test.YtalmjkcapecpiaaGreatX14
import Derived.Maps.OwnSet
import Derived.Sort.KeysCollected
import Derived.Test.YtalmjkcapecpiaaGreatX7
import Derived.Test.YtalmjkcapecpiaaGreatX11
import Derived.Test.YtalmjkcapecpiaaGreatX8
import Derived.Test.YtalmjkcapecpiaaGreatX5
set_option linter.unusedSimpArgs false
set_option linter.unusedVariables false
namespace Go.Proofs.YtalmjkcapecpiaaGreat
open Go Go.RowKit
def goesF (g:Nat) (root row:List UInt8) (q:List (List UInt8)):Option (List UInt8×List (List UInt8)):=match nextF root q with
 |none=>none
 |some (x,q')=>if isL x=false∧x.bytes= []then some ([],q')else goF g x row q'
def clashF:Nat→List PR→List PR→Option (List UInt8×List UInt8)
 |0,_,_=>none
 |f+1,a,b=>if (nodeF (f+1) a).form≠(nodeF (f+1) b).form then some ((nodeF (f+1) a).form,(nodeF (f+1) b).form)
  else if a.length<2∨b.length<2 then none
  else if 0<shar a then clashF f (cutR (shar a) a) (cutR (shar a) b)
  else (List.range 16).findSome? fun c=>clashF f (cutR 1 (undR (UInt8.ofNat c) a)) (cutR 1 (undR (UInt8.ofNat c) b))
theorem dis_nodup {l:List PR} (h:Dis l):l.Nodup:=by
 unfold Dis at h
 exact List.Pairwise.imp (fun k e=>k (by rw [e])) (List.pairwise_map.1 h)
theorem perm_mem {a b:List PR} (ha:Dis a) (hb:Dis b) (h: ∀p,p∈a↔p∈b):a.Perm b:=(List.perm_ext_iff_of_nodup (dis_nodup ha) (dis_nodup hb)).2 h
inductive NK (f:Nat) (l:List PR):Prop
 |nil (h:l= []) (e:nodeF (f+1) l=itS [])
 |leaf (p:PR) (h:l= [p]) (e:nodeF (f+1) l=itL [itS (cpt p.1 true),itS p.2])
 |ext (p:PR) (h:p∈l) (h2:2≤l.length) (hs:0<shar l) (e:nodeF (f+1) l=itL [itS (cpt (p.1.take (shar l)) false),linkI (nodeF f (cutR (shar l) l))])
 |bra (h2:2≤l.length) (hs: ¬0<shar l) (e:nodeF (f+1) l=itL ((List.range 16).map (fun c=>linkI (nodeF f (cutR 1 (undR (UInt8.ofNat c) l))))++ [itS (lastV l)]))
def delM (k:List UInt8) (R:List PR):List PR:=R.filter fun p=>p.1 !=k
def putM (k v:List UInt8) (R:List PR):List PR:=if v= []then delM k R else delM k R++ [(k,v)]
def hasM (k:List UInt8) (R:List PR):Bool:=R.any fun p=>p.1==k
theorem mem_del {k:List UInt8} {R:List PR} {p:PR} :p∈delM k R↔p∈R∧p.1≠k:=by simp [delM]
theorem has_iff {k:List UInt8} {R:List PR} :hasM k R=true↔ ∃v,(k,v)∈R:=by
 unfold hasM
 rw [List.any_eq_true]
 constructor
 ·rintro⟨⟨a,v⟩,h,e⟩
  simp only [beq_iff_eq]at e
  exact⟨v,by rw [←e];exact h⟩
 ·rintro⟨v,h⟩;exact⟨(k,v),h,by simp⟩
theorem Dis.del {R:List PR} (h:Dis R) (k:List UInt8):Dis (delM k R):=List.Sublist.nodup ((List.filter_sublist).map _) h
theorem Dis.put {R:List PR} (h:Dis R) (k v:List UInt8):Dis (putM k v R):=by
 unfold putM;split
 ·exact h.del k
 ·unfold Dis
  rw [List.map_append,List.nodup_append]
  refine⟨h.del k,by simp,fun a ha b hb e=>?_⟩
  obtain⟨p,hp,rfl⟩:=List.mem_map.1 ha
  simp only [List.map_cons,List.map_nil,List.mem_singleton]at hb
  exact(mem_del.1 hp).2 (e.trans hb)
theorem del_len: ∀ {R:List PR},Dis R→ ∀k,(delM k R).length+(if hasM k R=true then 1 else 0)=R.length
 | [],_,k=>by simp [delM,hasM]
 |p::R,h,k=>by
  have hn:=List.nodup_cons.1 h
  have ih:=del_len (R:=R) hn.2 k
  by_cases e:p.1=k
  ·have h0:hasM k R=false:=by
    cases hh:hasM k R with
    |false=>rfl
    |true=>
     obtain⟨v,hv⟩:=has_iff.1 hh
     exact absurd (List.mem_map.2 ⟨(k,v),hv,e.symm⟩) hn.1
   have h1:hasM k (p::R)=true:=has_iff.2 ⟨p.2,by rw [←e];exact List.mem_cons_self ..⟩
   have h2:delM k (p::R)=delM k R:=by simp [delM,e]
   rw [h1,h2,if_pos rfl]
   rw [h0,if_neg (by simp)]at ih
   simp only [List.length_cons];omega
  ·have h1:hasM k (p::R)=hasM k R:=by simp [hasM,e]
   have h2:delM k (p::R)=p::delM k R:=by simp [delM,e]
   rw [h1,h2,List.length_cons,List.length_cons];omega
structure Good (R:List PR):Prop where
 dis:Dis R
 key: ∀p∈R,p.1.length≤40
 val: ∀p∈R,p.2≠ []∧p.2.length≤1000000
theorem Good.nil:Good []:=⟨List.nodup_nil,fun p h=>absurd h List.not_mem_nil,fun p h=>absurd h List.not_mem_nil⟩
theorem Good.del {R:List PR} (h:Good R) (k:List UInt8):Good (delM k R):=⟨h.dis.del k,fun p hp=>h.key p (mem_del.1 hp).1,fun p hp=>h.val p (mem_del.1 hp).1⟩
theorem Good.put {R:List PR} (h:Good R) {k v:List UInt8} (hk:k.length≤40) (hv:v.length≤1000000):Good (putM k v R):=by
 refine⟨h.dis.put k v,fun p hp=>?_,fun p hp=>?_⟩
 all_goals (unfold putM at hp;split at hp)
 ·exact h.key p (mem_del.1 hp).1
 ·rcases List.mem_append.1 hp with hp|hp
  ·exact h.key p (mem_del.1 hp).1
  ·rw [List.mem_singleton.1 hp];exact hk
 ·exact h.val p (mem_del.1 hp).1
 ·rename_i h0
  rcases List.mem_append.1 hp with hp|hp
  ·exact h.val p (mem_del.1 hp).1
  ·rw [List.mem_singleton.1 hp];exact⟨h0,hv⟩
theorem Good.perm {R S:List PR} (h:Good R) (p:R.Perm S):Good S:=⟨h.dis.perm p,fun x hx=>h.key x (p.mem_iff.2 hx),fun x hx=>h.val x (p.mem_iff.2 hx)⟩
theorem Good.fit {R:List PR} (h:Good R):Fit 81 (prs R):=by
 refine⟨fun p hp=>?_,fun p hp=>?_,fun p hp=>?_,fun p hp=>?_⟩
 all_goals (obtain⟨x,hx,rfl⟩:=List.mem_map.1 hp)
 ·have:=h.key x hx
  simp only [nibs_length];omega
 ·exact nibs_nib _
 ·exact(h.val x hx).1
 ·have:=h.key x hx
  exact⟨by simp only [nibs_length];omega,(h.val x hx).2⟩
theorem get_has {R:List PR} (h:Dis R) {k:List UInt8} :(getR R k).isSome=hasM k R:=by
 cases hg:getR R k with
 |none=>
  cases hh:hasM k R with
  |false=>rfl
  |true=>
   obtain⟨v,hv⟩:=has_iff.1 hh
   rw [(get_iff h).2 hv]at hg;cases hg
 |some v=>exact(has_iff.2 ⟨v,(get_iff h).1 hg⟩).symm
def rootM (R:List PR):List UInt8:=kec (nodeF 81 (prs R)).form
theorem root_perm {R S:List PR} (h:Dis R) (p:R.Perm S):rootM R=rootM S:=by
 unfold rootM
 rw [node_perm 81 h.prs (p.map _)];rfl
theorem key_str (k:List UInt8):WideAt.IsKeyLit (.string k):=by simp [WideAt.IsKeyLit]
structure MapIs (D:DataW Value) (N:Heaplet) (R:List PR):Prop where
 dis:Dis R
 tidy:Maps.Tidy D
 size:Maps.size D=R.length
 has: ∀k,Maps.has D (.string k)=hasM k R
 val: ∀p∈R, ∃a c,(∀z,D.atKey (.string p.1) z=.held (.slice a p.2.length c))∧RSl N 1 a p.2.length c (u8s p.2)
theorem MapIs.nil (N:Heaplet):MapIs (.map []) N []:=⟨List.nodup_nil,⟨_,rfl,.nil⟩,rfl,fun k=>rfl,fun p h=>absurd h List.not_mem_nil⟩
theorem MapIs.le {D:DataW Value} {N M:Heaplet} {R:List PR} (h:MapIs D N R) (hl:N.le M):MapIs D M R:=
 ⟨h.dis,h.tidy,h.size,h.has,fun p hp=>let ⟨a,c,h1,h2⟩:=h.val p hp;⟨a,c,h1,h2.le hl⟩⟩
theorem MapIs.del {D:DataW Value} {N:Heaplet} {R:List PR} (h:MapIs D N R) (k:List UInt8):MapIs (D.del (.string k)) N (delM k R):=by
 have hs:=Maps.size_del (k:=.string k) h.tidy
 have hl:=del_len h.dis k
 rw [h.has k]at hs
 have hsz:=h.size
 refine⟨h.dis.del k,h.tidy.del _,by omega,fun j=>?_,fun p hp=>?_⟩
 ·by_cases e:j=k
  ·rw [e,Maps.has_del_same]
   cases hh:hasM k (delM k R)with
   |false=>rfl
   |true=>
    obtain⟨v,hv⟩:=has_iff.1 hh
    exact absurd U (mem_del.1 hv).2
  ·rw [Maps.has_del_other (by simpa using e),h.has j,Bool.eq_iff_iff,has_iff,has_iff]
   constructor
   ·rintro⟨v,hv⟩;exact⟨v,mem_del.2 ⟨hv,e⟩⟩
   ·rintro⟨v,hv⟩;exact⟨v,(mem_del.1 hv).1⟩
 ·obtain⟨h1,h2⟩:=mem_del.1 hp
  obtain⟨a,c,h3,h4⟩:=h.val p h1
  exact⟨a,c,fun z=>by rw [Maps.atKey_del_other (by simpa using h2)];exact h3 z,h4⟩
theorem MapIs.put {D:DataW Value} {N:Heaplet} {R:List PR} {k v:List UInt8} {a:Option Addr} {c:Nat} (h:MapIs D N R) (h0:v≠ []) (hr:RSl N 1 a v.length c (u8s v)):MapIs (D.put (.string k) (.held (.slice a v.length c))) N (putM k v R):=by
 have hs:=Maps.size_put (k:=.string k) h.tidy (.held (.slice a v.length c))
 have hl:=del_len h.dis k
 rw [h.has k]at hs
 have hsz:=h.size
 have e:putM k v R=delM k R++ [(k,v)]:=if_neg h0
 refine⟨h.dis.put k v,h.tidy.put (key_str k) _,?_,fun j=>?_,fun p hp=>?_⟩
 ·rw [e,List.length_append,hs]
  simp only [List.length_cons,List.length_nil]
  split<;>simp_all<;>omega
 ·by_cases ej:j=k
  ·rw [ej,Maps.has_put_same h.tidy.isMap (key_str k)]
   exact(has_iff.2 ⟨v,by rw [e];simp⟩).symm
  ·rw [Maps.has_put_other (by simpa using ej),h.has j,Bool.eq_iff_iff,has_iff,has_iff,e]
   constructor
   ·rintro⟨u,hu⟩;exact⟨u,List.mem_append_left _ (mem_del.2 ⟨hu,ej⟩)⟩
   ·rintro⟨u,hu⟩
    rcases List.mem_append.1 hu with hu|hu
    ·exact⟨u,(mem_del.1 hu).1⟩
    ·simp only [List.mem_singleton,Prod.mk.injEq]at hu;exact absurd hu.1 ej
 ·rw [e]at hp
  rcases List.mem_append.1 hp with hp|hp
  ·obtain⟨h1,h2⟩:=mem_del.1 hp
   obtain⟨a',c',h3,h4⟩:=h.val p h1
   exact⟨a',c',fun z=>by rw [Maps.atKey_put_other (by simpa using h2)];exact h3 z,h4⟩
  ·rw [List.mem_singleton.1 hp]
   exact⟨a,c,fun z=>Maps.atKey_put_same h.tidy.isMap (key_str k) _ z,hr⟩
set_option maxRecDepth 100000
theorem formS_lenS (b:List UInt8) (h:b.length≤4294967296):(itS b).form.length≤b.length+9:=by
 have:=rlpHead_le 128 b.length (Nat.lt_of_le_of_lt h (by decide))
 rw [itS,form_false]
 split
 ·omega
 ·rw [List.length_append];omega
theorem formL_lenS (l:List It) (h:(It.forms l).length≤4294967296):(itL l).form.length≤(It.forms l).length+9:=by
 have:=rlpHead_le 192 (It.forms l).length (Nat.lt_of_le_of_lt h (by decide))
 rw [itL,form_true,List.length_append];omega
theorem byteLenWS {x:Nat} (hx:x<WW):(bytesOf x).length≤32:=by
 rw [length_bytesOf]
 exact byteLen_le.2 (by unfold WW at hx;exact hx)
theorem depthSS (b:List UInt8):(itS b).depth=0:=by simp [itS,It.depth]
theorem kecL (l:List UInt8):(kec l).length=32:=kec_len l
def stPair (p:Nat×Nat):List UInt8:=(itS (bytesOf p.2)).form
def stR (sl:List (Nat×Nat)):List PR:=sl.foldl (fun R p=>putM (kec (bytesN 32 p.1)) (stPair p) R) []
def stRoot (sl:List (Nat×Nat)):List UInt8:=rootM (stR sl)
def acIt (w:AcA):It:=itL [itS (bytesOf w.no.toNat),itS (bytesOf w.ba),itS (stRoot w.sl),itS (kec w.co)]
def acR (b:List AcA):List PR:=b.foldl (fun R w=>putM (kec w.ad) (acIt w).form R) []
def acRoot (b:List AcA):List UInt8:=rootM (acR b)
theorem stRoot_len (sl:List (Nat×Nat)):(stRoot sl).length=32:=by
 rw [stRoot,rootM];exact kecL _
theorem forms4 (u v z y:List UInt8) (h1:u.length≤8) (h2:v.length≤32) (h3:z.length=32) (h4:y.length=32):(It.forms [itS u,itS v,itS z,itS y]).length≤200:=by
 have k1:=formS_lenS u (by omega)
 have k2:=formS_lenS v (by omega)
 have k3:=formS_lenS z (by omega)
 have k4:=formS_lenS y (by omega)
 simp only [It.forms,List.length_append,List.length_nil]
 omega
theorem stR_snoc {l:List (Nat×Nat)} {p:Nat×Nat} :stR (l++ [p])=putM (kec (bytesN 32 p.1)) (stPair p) (stR l):=by simp [stR,List.foldl_append]
theorem acR_snoc {l:List AcA} {w:AcA} :acR (l++ [w])=putM (kec w.ad) (acIt w).form (acR l):=by simp [acR,List.foldl_append]
theorem putM_len {k v:List UInt8} {R:List PR} :(putM k v R).length≤R.length+1:=by
 have h:(delM k R).length≤R.length:=List.length_filter_le _ _
 unfold putM
 split
 ·omega
 ·rw [List.length_append];simp only [List.length_cons,List.length_nil];omega
theorem stR_len: ∀(n:Nat) (l:List (Nat×Nat)),l.length=n→(stR l).length≤n
 |0,l,h=>by rw [List.eq_nil_of_length_eq_zero h];exact Nat.le_refl 0
 |n+1,l,h=>by
  rcases List.eq_nil_or_concat l with e|⟨r,p,e⟩
  ·rw [e]at h;cases h
  ·rw [e,List.concat_eq_append,List.length_append]at h
   simp only [List.length_cons,List.length_nil]at h
   have:=stR_len n r (by omega)
   rw [e,List.concat_eq_append,stR_snoc]
   exact Nat.le_trans putM_len (by omega)
theorem acR_len: ∀(n:Nat) (l:List AcA),l.length=n→(acR l).length≤n
 |0,l,h=>by rw [List.eq_nil_of_length_eq_zero h];exact Nat.le_refl 0
 |n+1,l,h=>by
  rcases List.eq_nil_or_concat l with e|⟨r,p,e⟩
  ·rw [e]at h;cases h
  ·rw [e,List.concat_eq_append,List.length_append]at h
   simp only [List.length_cons,List.length_nil]at h
   have:=acR_len n r (by omega)
   rw [e,List.concat_eq_append,acR_snoc]
   exact Nat.le_trans putM_len (by omega)
theorem stPair_len {p:Nat×Nat} (h:p.2<WW):(stPair p).length≤41:=by
 have h1:=byteLenWS h
 have h2:=formS_lenS (bytesOf p.2) (by omega)
 unfold stPair
 omega
theorem acIt_forms (w:AcA) (hb:w.ba<WW):(It.forms [itS (bytesOf w.no.toNat),itS (bytesOf w.ba),itS (stRoot w.sl),itS (kec w.co)]).length≤200:=by
 exact forms4 _ _ _ _ (byteLen8 w.no.toNat_lt) (byteLenWS hb) (stRoot_len _) (kecL _)
theorem acIt_len {w:AcA} (hb:w.ba<WW):(acIt w).form.length≤209:=by
 have h:=acIt_forms w hb
 have:=formL_lenS _ (Nat.le_trans h (by decide))
 unfold acIt
 omega
theorem acIt_depth (w:AcA):(acIt w).depth≤1024:=by
 have h:(acIt w).depth=It.depths [itS (bytesOf w.no.toNat),itS (bytesOf w.ba),itS (stRoot w.sl),itS (kec w.co)]+1:=by simp [acIt,itL,It.depth]
 rw [h]
 have:It.depths [itS (bytesOf w.no.toNat),itS (bytesOf w.ba),itS (stRoot w.sl),itS (kec w.co)]≤0:=depths_le.2 fun t ht=>by
  simp only [List.mem_cons,List.not_mem_nil,or_false]at ht
  rcases ht with rfl|rfl|rfl|rfl<;>exact Nat.le_of_eq (depthSS _)
 omega
theorem srtW_mem {st:List (Nat×Nat)} {k:Nat} :k∈srtW st↔ ∃v,getA k st=some v:=by
 unfold srtW
 rw [(List.mergeSort_perm _ _).mem_iff,mem_keys,Option.isSome_iff_exists]
theorem srtW_len {st:List (Nat×Nat)} :(srtW st).length=st.length:=by
 unfold srtW
 rw [List.length_mergeSort,List.length_map]
theorem stC_len {st:List (Nat×Nat)} :(stC st).length=st.length:=by
 unfold stC
 rw [List.length_map,srtW_len]
theorem stC_at {st:List (Nat×Nat)} {i:Nat} {k:Nat} (h:(srtW st)[i]? =some k):(stC st)[i]? =some (k,(getA k st).getD 0):=by
 unfold stC
 rw [List.getElem?_map,h];rfl
theorem srtB_mem {l:AcL} {k:List UInt8} :k∈srtB l↔ ∃v,getA k l=some v:=by
 unfold srtB
 rw [(List.mergeSort_perm _ _).mem_iff,mem_keys,Option.isSome_iff_exists]
theorem acC_at {l:AcL} {i:Nat} {k:List UInt8} (h:(srtB l)[i]? =some k):(acC l)[i]? =some (((getA k l).getD AcS.z).told k):=by
 unfold acC
 rw [List.getElem?_map,h];rfl
theorem acC_len {l:AcL} :(acC l).length=(srtB l).length:=by
 unfold acC
 rw [List.length_map]
theorem AccO.leS {NX NM NC K:Heaplet} {c xp mb:Nat} {ca:Option Addr} {cc:Nat} {D:DataW Value} {x:AcS} (h:AccO NX NM NC c xp mb ca cc D x) (h1:NX.le K) (h2:NM.le K) (h3:NC.le K):AccO K K K c xp mb ca cc D x:=⟨h.B.le h1,h.M.le h2,h.A,h.C.le h3,h.ln,h.ba,h.st⟩
def AccV (K:Heaplet) (c xp:Nat) (x:AcS):Prop:= ∃mb ca cc D,AccO K K K c xp mb ca cc D x
theorem AccV.le {K J:Heaplet} {c xp:Nat} {x:AcS} (h:AccV K c xp x) (hl:K.le J):AccV J c xp x:=let ⟨mb,ca,cc,D,o⟩:=h;⟨mb,ca,cc,D,o.leS hl hl hl⟩
theorem AccX.see {N:Heaplet} {c xp:Nat} {x:AcS} (h:AccX N c xp x):AccV N c xp x:=by
 obtain⟨NX,NM,NC,mb,ca,cc,D,hs,hN,o⟩:=h
 have hl: ∀M∈ [NX,NM,NC],M.le N:=fun M hM=>by rw [hN];exact le_joinL hs hM
 exact⟨mb,ca,cc,D,o.leS (hl NX (by simp)) (hl NM (by simp)) (hl NC (by simp))⟩
theorem AccsN.see {k:List UInt8} {v:Nat×AcS} : ∀ {l:AcR} {N:Heaplet} {c:Nat},AccsN N l c→getA k l=some v→AccV N c v.1 v.2
 | [],_,_,_,h=>by cases h
 |p::l,N,c,⟨X,R,ha,hN,hX,hR⟩,h=>by
  rw [getA]at h
  split at h
  ·cases h
   rw [hN];exact hX.see.le join2_left
  ·rw [hN];exact(AccsN.see hR h).le (join2_right ha)
theorem MdEq.srt {l:AcR} {M:AcL} (h:MdEq l M) (hl:DisA l) (hM:DisA M):(l.map Prod.fst).mergeSort leB=srtB M:=
 sort_same hl hM (fun a=>by
  rw [mem_keys,mem_keys, ←h a]
  cases getA a l<;>simp) leB_tr leB_tot leB_as
theorem MdEq.len {l:AcR} {M:AcL} (h:MdEq l M) (hl:DisA l) (hM:DisA M):(srtB M).length=l.length:=by
 rw [←h.srt hl hM,List.length_mergeSort,List.length_map]
theorem FPlaces {K:Heaplet} {c xp:Nat} {x:AcS} (h:AccV K c xp x) (hc:c≤1000000):Fn Tryz.prog 46 #[.pointer (some ⟨xp,0,none⟩)] [] [K] (fun v L=> ∃N ao cap,v=.slice ao (srtW x.st).length cap∧L= [N]∧Row N 36 4 ao (srtW x.st).length cap ((srtW x.st).flatMap fun k=>u64s (wl k))):=by
 obtain⟨mb,ca,cc,D,o⟩:=h
 have hB:=o.B
 unfold acK at hB
 refine Fn.enter (vs:= [.pointer (some ⟨xp,0,none⟩)]) Tryz.func46 U U U ?_
 intro E R hR
 have hle:=hR K (by simp)
 have BR:=hB.le hle
 have hM:=o.M.le hle
 change At _ _ E [R] _
 refine aH fun _ s_1=>aB (bV U U (aI (s_1 (aH fun _ s_2=>aB (bC U U (bH aN U U (aJ aN fl71_3 U U (aU aN sc69 U BR U cO U ?_))))))))
 refine bG bT (.cons U .nil) (FKeysW) Tryz.func77 U U (by simp) U ?_
 rintro _ _ ⟨N7,b7,rfl,rfl,B7⟩
 show At _ _ _ [N7,R] _
 refine bG bT (.cons U (.cons U .nil)) (FSortedW B7 hM o.A hc) Tryz.func76 U U (by simp) U ?_
 rintro _ _ ⟨N8,a8,c8,rfl,rfl,r8⟩
 show At _ _ _ [N8,N7,R] _
 refine bV U U (aI (s_2 (cK ((cT (cF (L1:= [N8]) U (.tmp U .nil) (.refl _) aZ ?_))))))
 exact⟨N8,a8,c8,by rw [srtW_len],rfl,by rw [srtW_len];exact r8⟩
structure StV (K:Heaplet) (sp ma c:Nat) (DF:DataW Value) (l:AcR) (cs:List Value):Prop where
 B:Blk K sp 85 (.map (some ma)::cs)
 F:MapV Tryz.prog 33 K ma c DF
 A:MapA keyA okAd ptrV DF l
 N: ∀k v,getA k l=some v→AccV K c v.1 v.2
theorem StV.le {K J:Heaplet} {sp ma c:Nat} {DF:DataW Value} {l:AcR} {cs:List Value} (h:StV K sp ma c DF l cs) (hl:K.le J):StV J sp ma c DF l cs:=⟨h.B.le hl,h.F.le hl,h.A,fun k v hk=>(h.N k v hk).le hl⟩
theorem StO.see {t:SJ} {NS NF NA NT NM NW ND NP NQ NO NL NU NK K:Heaplet} {sp ma c:Nat} {DF:DataW Value} {l:AcR} (h:StO t NS NF NA NT NM NW ND NP NQ NO NL NU NK sp ma c DF l) (h1:NS.le K) (h2:NF.le K) (h3:NA.le K):StV K sp ma c DF l (t.cells ma).tail:=⟨h.J.S.le h1,h.F.le h2,h.A,fun _ _ hk=>(h.N.see hk).le h3⟩
theorem FAddresses {K:Heaplet} {sp ma c:Nat} {DF:DataW Value} {l:AcR} {cs:List Value} {M:AcL} (h:StV K sp ma c DF l cs) (hm:MdEq l M) (hM:DisA M) (hc:c≤1000000):Fn Tryz.prog 45 #[.pointer (some ⟨sp,0,none⟩)] [] [K] (fun v L=> ∃N ao cap,v=.slice ao (srtB M).length cap∧L= [N]∧Row N 33 20 ao (srtB M).length cap ((srtB M).flatMap u8s)):=by
 have hB:=h.B
 have hs:=hm.srt h.A.dis hM
 have hl:=hm.len h.A.dis hM
 refine Fn.enter (vs:= [.pointer (some ⟨sp,0,none⟩)]) Tryz.func45 U U U ?_
 intro E R hR
 have hle:=hR K (by simp)
 have BR:=hB.le hle
 have hF:=h.F.le hle
 change At _ _ E [R] _
 refine aH fun _ s_1=>aB (bV U U (aI (s_1 (aH fun _ s_2=>aB (bC U U (bH aN U U (aJ aN fl85_0 U U (aU aN sc74 U BR U cO U ?_))))))))
 refine bG bT (.cons U .nil) (FKeysA) Tryz.func73 U U (by simp) U ?_
 rintro _ _ ⟨N7,b7,rfl,rfl,B7⟩
 show At _ _ _ [N7,R] _
 refine bG bT (.cons U (.cons U .nil)) (FSortedA B7 hF h.A hc) Tryz.func72 U U (by simp) U ?_
 rintro _ _ ⟨N8,a8,c8,rfl,rfl,r8⟩
 show At _ _ _ [N8,N7,R] _
 refine bV U U (aI (s_2 (cK ((cT (cF (L1:= [N8]) U (.tmp U .nil) (.refl _) aZ ?_))))))
 exact⟨N8,a8,c8,by rw [hl],rfl,by rw [hl, ←hs];exact r8⟩
structure PV where
 ra:Option Addr
 rn:Nat
 rc:Nat
 va:Option Addr
 vn:Nat
 vc:Nat
def PV.cells (x:PV):List Value:= [.slice x.ra x.rn x.rc,.slice x.va x.vn x.vc]
def cellsP (xs:List PV):List Value:=xs.flatMap PV.cells
theorem cellsP_len (xs:List PV):(cellsP xs).length=xs.length*2:=by
 induction xs with
 |nil=>rfl
 |cons x t ih=>simp only [cellsP,List.flatMap_cons,List.length_append,List.length_cons]at ih⊢;rw [ih];simp [PV.cells];omega
theorem cellsP_at {xs:List PV} {k:Nat} {x:PV} (h:xs[k]? =some x):((cellsP xs).drop (k*2)).take 2= [.slice x.ra x.rn x.rc,.slice x.va x.vn x.vc]:=by
 induction xs generalizing k with
 |nil=>simp at h
 |cons y t ih=>
  cases k with
  |zero=>simp at h;subst h;simp [cellsP,PV.cells]
  |succ k=>
   have:=ih (k:=k) (by simpa using h)
   rw [←this]
   have e:cellsP (y::t)=y.cells++cellsP t:=by simp [cellsP]
   have hl:y.cells.length=2:=rfl
   rw [e,show(k+1)*2=y.cells.length+k*2 from by rw [hl];omega,List.drop_append,List.drop_eq_nil_of_le (by omega),List.nil_append,Nat.add_sub_cancel_left]
theorem cellsP_row {xs:List PV} {k:Nat} {x:PV} (h:xs[k]? =some x):(cellsP xs)[k*2+0]? =some (.slice x.ra x.rn x.rc):=by
 have e:=cellsP_at h
 have e2:(((cellsP xs).drop (k*2)).take 2)[0]? =some (.slice x.ra x.rn x.rc):=by rw [e];rfl
 rwa [List.getElem?_take,if_pos (by omega),List.getElem?_drop]at e2
theorem cellsP_val {xs:List PV} {k:Nat} {x:PV} (h:xs[k]? =some x):(cellsP xs)[k*2+1]? =some (.slice x.va x.vn x.vc):=by
 have e:=cellsP_at h
 have e2:(((cellsP xs).drop (k*2)).take 2)[1]? =some (.slice x.va x.vn x.vc):=by rw [e];rfl
 rwa [List.getElem?_take,if_pos (by omega),List.getElem?_drop]at e2
structure PAt (K:Heaplet) (p:PR) (x:PV):Prop where
 rn:x.rn=p.1.length
 row:RSl K 1 x.ra x.rn x.rc (u8s p.1)
 vn:x.vn=p.2.length
 val:RSl K 1 x.va x.vn x.vc (u8s p.2)
theorem PAt.le {N M:Heaplet} (hl:N.le M) {p:PR} {x:PV} (h:PAt N p x):PAt M p x:=⟨h.rn,h.row.le hl,h.vn,h.val.le hl⟩
structure PsN (K:Heaplet) (l:List PR) (xs:List PV):Prop where
 len:xs.length=l.length
 each: ∀(i:Nat) (p:PR) (x:PV),l[i]? =some p→xs[i]? =some x→PAt K p x
theorem PsN.le {N M:Heaplet} (hl:N.le M) {l:List PR} {xs:List PV} (h:PsN N l xs):PsN M l xs:=⟨h.len,fun i p x hp hx=>(h.each i p x hp hx).le hl⟩
theorem PsN.nil (K:Heaplet):PsN K [] []:=⟨rfl,fun i p x h=>by simp at h⟩
theorem PsN.at {K:Heaplet} {l:List PR} {xs:List PV} (h:PsN K l xs) {i:Nat} (hi:i<l.length): ∃p x,l[i]? =some p∧xs[i]? =some x∧PAt K p x:=
 ⟨l[i],xs[i]'(by rw [h.len];exact hi),List.getElem?_eq_getElem hi,List.getElem?_eq_getElem _,h.each i _ _ (List.getElem?_eq_getElem hi) (List.getElem?_eq_getElem _)⟩
theorem PsN.snoc {K:Heaplet} {l:List PR} {xs:List PV} {p:PR} {x:PV} (h:PsN K l xs) (k:PAt K p x):PsN K (l++ [p]) (xs++ [x]):=by
 refine⟨by simp [h.len],fun i q y hq hy=>?_⟩
 rcases Nat.lt_or_ge i l.length with hi|hi
 ·rw [List.getElem?_append_left hi]at hq
  rw [List.getElem?_append_left (by rw [h.len];exact hi)]at hy
  exact h.each i q y hq hy
 ·rw [List.getElem?_append_right hi]at hq
  rw [List.getElem?_append_right (by rw [h.len];exact hi),h.len]at hy
  have h0:i- l.length=0:=by
   obtain⟨h3,_⟩:=List.getElem?_eq_some_iff.1 hq
   simp at h3;omega
  rw [h0]at hq hy
  simp only [List.getElem?_cons_zero,Option.some.injEq]at hq hy
  rw [←hq, ←hy];exact k
def PV.cut (n:Nat) (x:PV):PV:=⟨sadr x.ra n x.rc 1,x.rn- n,x.rc- n,x.va,x.vn,x.vc⟩
theorem PAt.cut {K:Heaplet} {p:PR} {x:PV} (h:PAt K p x) {n:Nat} (hn:n≤p.1.length):PAt K (p.1.drop n,p.2) (x.cut n):=
 ⟨by simp only [PV.cut,List.length_drop,h.rn],h.row.drop8 (by rw [h.rn];exact hn),h.vn,h.val⟩
theorem PsN.take_cut {K:Heaplet} {l:List PR} {xs:List PV} (h:PsN K l xs) {n:Nat} (hn: ∀p∈l,n≤p.1.length):PsN K (cutR n l) (xs.map (PV.cut n)):=by
 refine⟨by simp [cutR,h.len],fun i q y hq hy=>?_⟩
 unfold cutR at hq
 rw [List.getElem?_map]at hq hy
 obtain⟨p,hp,rfl⟩:=Option.map_eq_some_iff.1 hq
 obtain⟨x,hx,rfl⟩:=Option.map_eq_some_iff.1 hy
 exact(h.each i p x hp hx).cut (hn p (List.mem_of_getElem? hp))
def byKeys (R:List PR) (ks:List (List UInt8)):List PR:=ks.map fun k=>(k,(getR R k).getD [])
theorem byKeys_perm {R:List PR} (hd:Dis R) {ks:List (List UInt8)} (h:ks.Perm (R.map Prod.fst)):(byKeys R ks).Perm R:=by
 have h1:(byKeys R ks).Perm ((R.map Prod.fst).map fun k=>(k,(getR R k).getD [])):=h.map _
 have h2:(R.map Prod.fst).map (fun k=>(k,(getR R k).getD []))=R:=by
  rw [List.map_map]
  conv=>rhs;rw [←List.map_id R]
  refine List.map_congr_left fun p hp=>?_
  show(p.1,(getR R p.1).getD [])=p
  rw [(get_iff hd).2 (show(p.1,p.2)∈R from hp)];rfl
 rwa [h2]at h1
theorem byKeys_ris {R:List PR} {ks:List (List UInt8)} (h:ks.Pairwise fun x y=>x≤y) (hn:ks.Nodup):Ris (byKeys R ks):=by
 unfold Ris byKeys
 rw [List.pairwise_map]
 refine List.Pairwise.imp₂ (fun {a b} h1 h2=>?_) h hn
 exact Classical.byContradiction fun k=>h2 (List.le_antisymm h1 (fun q=>k q))
theorem keys_sorted {l:List (List UInt8)} :(l.mergeSort (fun x y=>decide (x≤y))).Pairwise fun x y=>x≤y:=by
 have:=List.pairwise_mergeSort (le:=fun x y:List UInt8=>decide (x≤y)) (fun a b c h1 h2=>by simp only [decide_eq_true_eq]at*;exact List.le_trans h1 h2) (fun a b=>by simp only [Bool.or_eq_true,decide_eq_true_eq];exact List.le_total a b) l
 exact this.imp fun h=>by simpa using h
section
variable {P : Program} {n : Nat} {l : List (Nat × Value)} {E : World} {L Ls : List Heaplet} {X Y : Act → World → Prop} {K : Act → World → Prop} {d : Nat} {t t' ty : TypeId} {x y : Operand}
end
section
variable {P : Program} {n : Nat} {l : List (Nat × Value)} {E : World} {L Ls : List Heaplet} {X Y : Act → World → Prop} {d : Nat} {t ty : TypeId} {x : Operand}
end
theorem shrN4: ∀n:Nat,n<256→(n:Int)/2^(min (4:Int).toNat IntKind.u8.bits)=((n/16:Nat):Int):=by
 intro n h
 show(n:Int)/2^4=_
 omega
theorem andN15: ∀n:Nat,n<256→bits .and .u8 (n:Int) 15=((n % 16:Nat):Int):=by decide+kernel
theorem nibs_take {l:List UInt8} {k:Nat} (h:k<l.length):nibs (l.take (k+1))=nibs (l.take k)++ [l.getD k 0>>>4,l.getD k 0&&&15]:=by
 have e:l.take (k+1)=l.take k++ [l.getD k 0]:=by
  rw [List.take_add_one,List.getD_eq_getElem?_getD,List.getElem?_eq_getElem h];rfl
 rw [e]
 simp [nibs,List.flatMap_append]
theorem u8s_app (a b:List UInt8):u8s (a++b)=u8s a++u8s b:=by simp [u8s]
theorem vb2 {a b:UInt8} {x y:Int} (ha:(a.toNat:Int)=x) (hb:(b.toNat:Int)=y): [Value.int .u8 x,Value.int .u8 y]=u8s [a,b]:=by rw [←ha, ←hb];rfl
section
variable {N : Heaplet} {ao : Option Addr} {n cap : Nat} {l : List UInt8}
theorem FClone (h:RSl N 1 ao n cap (u8s l)) (hn:n≤1099511627776):Fn Tryz.prog 108 #[.slice ao n cap] [] [N] (fun v L=> ∃M a c,v=.slice a n c∧L= [M]∧Row M 5 1 a n c (u8s l)):=by
 refine Fn.enter (vs:= [.slice ao n cap]) Tryz.func108 U U U ?_
 intro E R hR
 have h:=h.le (hR N (by simp))
 change At _ _ E [R] _
 refine aH fun _ s_1=>aB (bV U U (aI (s_1 (aH fun _ s_2=>aH fun _ s_3=>aB (bC U U (op_eqSl aN Tryz.underlying37 U U (aI (s_3 (At.condB U (fun c4=>?_) (fun c4=>?_))))))))))
 ·have h0:n=0:=by
   rcases Nat.eq_zero_or_pos n with h0|h0
   ·exact h0
   ·have:=h.isSome h0
    rw [Option.isNone_iff_eq_none]at c4
    rw [c4]at this;cases this
  refine aH fun _ s_4=>aB (bV U U (aI (s_4 (cK (dC ((At.empty (cF (L1:= [nilH]) U (.tmp U .nil) (.refl _) aZ ?_))))))))
  have e:l= []:=List.eq_nil_of_length_eq_zero (by rw [h.len8];exact h0)
  exact⟨nilH,none,0,by rw [h0],rfl,by rw [h0,e];exact Row.nil _ _ _⟩
 refine cG (aS (s_2 (aH fun _ s_5=>aB (op_lit bT Tryz.underlying37 ze5 sz5 .nil U U (by simp [Value.cells]) U U U (fun N5 a5 r5=>?_)))))
 simp only [flatV,List.flatMap_cons,List.flatMap_nil,Value.cells,List.append_nil,List.cons_append,List.nil_append]at r5
 have s5:=r5.rsl
 refine bC U U ?_
 refine op_append nxQ Tryz.underlying37 Tryz.underlying37 te5 rfl rfl r5 h (by simp) (by first|exact one_u8s _|exact one_u64s _|exact one_u32s _|(intro u hu;simp at hu;subst hu;rfl)) (by omega) (by omega) sel0 rfl (fun N7 a7 p7 r7=>?_)
 have s7:=r7.rsl
 refine bV U U (aI (s_5 (cK ((cF (L1:= [N7]) U (.tmp U .nil) (.refl _) aZ ?_)))))
 rw [Nat.zero_add]at r7⊢
 exact⟨N7,a7,p7,rfl,rfl,r7⟩
theorem FNibs (h:RSl N 1 ao n cap (u8s l)) (hn:n≤1099511627776):Fn Tryz.prog 111 #[.slice ao n cap] [] [N] (fun v L=> ∃M a c,v=.slice a (2*n) c∧L= [M]∧Row M 5 1 a (2*n) c (u8s (nibs l))):=by
 have hlen:=h.len8
 refine Fn.enter (vs:= [.slice ao n cap]) Tryz.func111 U U U ?_
 intro E R hR
 have h:=h.le (hR N (by simp))
 change At _ _ E [R] _
 refine aH fun _ s_1=>aB (bV U U (aI (s_1 (aH fun _ s_2=>aB (bC U U (dB aN se37 U U (op_mulI aN U U (by omega) (by omega) U ?_)))))))
 refine op_make0 bT Tryz.underlying37 te5 U U U (show _=(((2*n:Nat)):Int)from by omega) (by omega) (by unfold maxLen;omega) U (fun N9 a9 r9=>?_)
 have s9:=r9.rsl
 refine bV U U (aI (s_2 (aH fun _ s_3=>aH fun _ s_4=>aB (bC U U (dB aN se37 U U (bC U U (aI (s_4 (bX (At.loop (fun fr_ hp_ ms_=> ∃(k m:Nat) (a:Option Addr) (c:Nat) (Na:Heaplet),fr_= [(3,.slice a m c),(10,.slice ao n cap),(11,.int .i64 (n:Int)),(12,.int .i64 (k:Int))]∧hp_= [Na,R]∧n- k=ms_∧(k≤n)∧(m=2*k)∧(Row Na 5 1 a m c (u8s (nibs (l.take k))))) ?_ aZ ⟨0,0,_,_,N9,rfl,rfl,rfl,Nat.zero_le _,rfl,r9⟩ ?_))))))))))
 ·repeat first|apply cW|exact .nil|exact lkI rfl (by omega)|rfl
 rintro _ _ _ ⟨k,m,a,c,Na,rfl,rfl,rfl,hk,hm,ra⟩
 refine aH fun _ s_5=>aB (op_lss aN U U U (aI (s_5 (aH fun _ s_6=>cD U (fun c13=>?_) (fun c13=>?_)))))
 ·have hx:=(l.getD k 0).toNat_lt
  have e1:=nib_hi (l.getD k 0)
  have e2:=nib_lo (l.getD k 0)
  refine cG (aS (s_6 (aH fun _ s_7=>bX (aH fun _ s_8=>aB (op_idx1 aN se37 U U h (show _=(((k:Nat)):Int)from by omega) (by omega) U ?_)))))
  refine op_loadE aN sc5 U h (by first|exact get8 (by omega)|exact get64 (by omega)|exact get32 (by omega)) (by simp) U ?_
  refine bV U U (aI (s_8 (aB (bC U U (bC U U (op_shrW aN U U (by omega) (by omega) U ?_))))))
  rw [shrN4 _ hx]
  refine bC U U (op_bits (by simp) aN U U U ?_)
  rw [andN15 _ hx]
  refine op_lit bT Tryz.underlying37 ze5 sz5 (.cons U (.cons U .nil)) U U (by simp [Value.cells]) U U U (fun N21 a21 r21=>?_)
  simp only [flatV,List.flatMap_cons,List.flatMap_nil,Value.cells,List.append_nil,List.cons_append,List.nil_append]at r21
  have s21:=r21.rsl
  rw [vb2 (a:=l.getD k 0>>>4) (b:=l.getD k 0&&&15) (by omega) (by omega)]at s21
  refine op_append nxQ Tryz.underlying37 Tryz.underlying37 te5 rfl rfl ra s21 (by simp) (by first|exact one_u8s _|exact one_u64s _|exact one_u32s _|(intro u hu;simp at hu;subst hu;rfl)) (by omega) (by omega) sel1 rfl (fun N22 a22 p22 r22=>?_)
  have s22:=r22.rsl
  rw [←u8s_app, ←nibs_take (by omega)]at r22
  refine bV U U (cE (cJ (aS (s_7 (aB (dD aN U U (by omega) (by omega) U (bC U U (aI (cT (At.back ?_ aZ ⟨k+1,m+2,a22,p22,N22,rfl,rfl,rfl,by omega,by omega,r22⟩ ?_))))))))))
  ·repeat first|apply cW|exact .nil|exact lkI rfl (by omega)|rfl
  ·omega
 refine At.exit (bD (bD (dE (aS (s_3 (aH fun _ s_9=>aB (bC U U (bV U U (aI (s_9 (cK ((cF (L1:= [Na]) U (.tmp U .nil) (.refl _) aZ ?_)))))))))))))
 have e:k=n:=by omega
 subst e
 rw [List.take_of_length_le (by omega),hm]at ra
 exact⟨Na,a,c,by rw [hm],rfl,ra⟩
end
theorem cellsP_one (xs:List PV): ∀u∈cellsP xs,u.oneCell'=true:=fun u hu=>by
 obtain⟨x,_,hx⟩:=List.mem_flatMap.1 hu
 simp only [PV.cells,List.mem_cons,List.not_mem_nil,or_false]at hx
 rcases hx with rfl|rfl<;>rfl
theorem cellsP_app (xs ys:List PV):cellsP (xs++ys)=cellsP xs++cellsP ys:=by rw [cellsP,cellsP,cellsP,List.flatMap_append]
theorem take_next1 {α:Type} {l:List α} {j:Nat} {u:α} (h:l[j]? =some u):l.take (j+1)=l.take j++ [u]:=by
 obtain⟨hlt,rfl⟩:=List.getElem?_eq_some_iff.1 h
 exact List.take_succ_eq_append_getElem hlt
theorem set_two {cs:List Value} {o:Nat} {x y:Value} (h:o+2≤cs.length):(setL cs o [x,y]).take (o+2)=cs.take o++ [x,y]:=by
 simp only [setL]
 refine List.ext_getElem? fun i=>?_
 rw [List.getElem?_take]
 rcases Nat.lt_or_ge i o with hi|hi
 ·rw [if_pos (by omega),List.getElem?_set_ne (by omega),List.getElem?_set_ne (by omega),List.getElem?_append_left (by rw [List.length_take];omega),List.getElem?_take,if_pos hi]
 ·rw [List.getElem?_append_right (by rw [List.length_take];omega),List.length_take,Nat.min_eq_left (by omega)]
  rcases Nat.lt_or_ge i (o+2)with hj|hj
  ·rw [if_pos hj]
   have:i=o∨i=o+1:=by omega
   rcases this with rfl|rfl
   ·rw [List.getElem?_set_ne (by omega),List.getElem?_set_self (by omega),Nat.sub_self];rfl
   ·rw [List.getElem?_set_self (by rw [List.length_set];omega),show o+1- o=1 by omega];rfl
  ·rw [if_neg (by omega),List.getElem?_eq_none (by simp only [List.length_cons,List.length_nil];omega)]
def RowsB (k:Nat) (xs:List PV):Prop:= ∀x∈xs,k≤x.rn∧x.rn≤x.rc∧x.rc≤9223372036854775807
theorem PsN.rows {K:Heaplet} {l:List PR} {xs:List PV} (h:PsN K l xs) {k:Nat} (hk: ∀p∈l,k≤p.1.length):RowsB k xs:=fun x hx=>by
 obtain⟨i,hi,rfl⟩:=List.mem_iff_getElem.1 hx
 obtain⟨p,y,h1,h2,h3⟩:=h.at (i:=i) (by rw [←h.len];exact hi)
 rw [List.getElem?_eq_getElem hi]at h2
 obtain rfl:=Option.some.inj h2
 have:=h3.row.cap63
 exact⟨by rw [h3.rn];exact hk p (List.mem_of_getElem? h1),this.1,this.2⟩
section
variable {N : Heaplet} {ao : Option Addr} {n cap : Nat} {xs : List PV}
def PairsP (xs:List PV) (v:Value) (L:List Heaplet):Prop:= ∃M a c,v=.slice a xs.length c∧L= [M]∧Row M 173 2 a xs.length c (cellsP xs)
set_option maxHeartbeats 1000000 in
theorem FCut (h:RSl N 2 ao n cap (cellsP xs)) (hl:xs.length=n) {k:Nat} (hk:RowsB k xs) (hn:n≤1099511627776):Fn Tryz.prog 128 #[.slice ao n cap,.int .i64 (k:Int)] [] [N] (PairsP (xs.map (PV.cut k))):=by
 refine Fn.enter (vs:= [.slice ao n cap,.int .i64 (k:Int)]) Tryz.func128 U U U ?_
 intro E R hR
 have h:=h.le (hR N (by simp))
 change At _ _ E [R] _
 refine aH fun _ s_1=>aB (bV U U (aI (s_1 (aH fun _ s_2=>aB (bC U U (dB aN se142 U U ?_))))))
 refine op_make bT Tryz.underlying142 te173 U U (show _=(((n:Nat)):Int)from by omega) (show _=(((n:Nat)):Int)from by omega) (by omega) (by unfold maxLen;omega) U (fun N10 a10 r10=>?_)
 skip
 have s10:=r10.rsl
 refine bV U U (aI (s_2 (aH fun _ s_3=>aH fun _ s_4=>aB (bC U U (dB aN se142 U U (bC U U (aI (s_4 (bX (At.loop (fun fr_ hp_ ms_=> ∃(i:Nat) (cs:List Value) (Na:Heaplet),fr_= [(1,.int .i64 (k:Int)),(5,.slice a10 n n),(11,.slice ao n cap),(12,.int .i64 (n:Int)),(13,.int .i64 (i:Int))]∧hp_= [Na,R]∧n- i=ms_∧(i≤n)∧(Row Na 173 2 a10 n n cs)∧(cs.take (i*2)=cellsP ((xs.take i).map (PV.cut k)))) ?_ aZ ⟨0,_,N10,rfl,rfl,rfl,Nat.zero_le _,r10,by simp [cellsP]⟩ ?_))))))))))
 ·repeat first|apply cW|exact .nil|exact lkI rfl (by omega)|rfl
 rintro _ _ _ ⟨i,cs,Na,rfl,rfl,rfl,hi,ra,hcs⟩
 refine aH fun _ s_5=>aB (op_lss aN U U U (aI (s_5 (aH fun _ s_6=>cD U (fun c14=>?_) (fun c14=>?_)))))
 ·obtain⟨x,hx⟩: ∃x,xs[i]? =some x:=⟨_,List.getElem?_eq_getElem (by omega)⟩
  obtain⟨x1,x2,x3⟩:=hk x (List.mem_of_getElem? hx)
  have sa:=ra.rsl
  have hcl:=ra.1
  refine cG (aS (s_6 (aH fun _ s_7=>bX (aH fun _ s_8=>aB (bC U U (op_idxE aN se142 U U h (show _=(((i:Nat)):Int)from by omega) (by omega) U ?_))))))
  refine op_loadAggE (ds:= [.slice x.ra x.rn x.rc,.slice x.va x.vn x.vc]) aN ag173 U h (by exact cellsP_at hx) (by rfl) (by omega) (by simp) U ?_
  refine bZ bT ze173 U (fun N7 b7 B7=>?_)
  change Blk N7 b7 _ [.slice none 0 0,.slice none 0 0]at B7
  refine bV U U (bP nxQ sz173 U U U U U B7 (by simp) sel0 (fun N7 B7=>?_))
  simp only [setL,List.set]at B7
  refine aI (s_8 (bF (cH (bF (cS [N7,R] [10] [] [0,1,2,3,4,5,6,7,8,9,10] (by kernel_rfl) (by kernel_rfl) (.cons _ (.refl _)) (aR (bB U U U) U U (aR (bB U U U) U U (aJ (bB U U U) fl173_0 U U (aU (bB U U U) sc37 U B7 U cO U ?_)))))))))
  refine aR (bB U U U) U U (op_slice (bB U U U) se37 U (.some U (show _=(((k:Nat)):Int)from by omega)) .none .none (by omega) (by omega) (by omega) (by simp) U ?_)
  refine aJ (bB U U U) fl173_1 U U (aU (bB U U U) sc37 U B7 U cO U ?_)
  refine op_build (out:= [_,_]) (bB U U U) ze173 pl173 (.cons U (.cons U .nil)) U U (op_idxE (bB U U U) se142 U U sa (show _=(((i:Nat)):Int)from by omega) (by omega) U ?_)
  refine op_storeE (nxsl U U U U) sz173 U U U U U ra (by simp<;>omega) (by simp) sel0 (fun Na ra=>?_)
  skip
  have sa:=ra.rsl
  refine dH (cJ (aS (s_7 (aB (dD aN U U (by omega) (by omega) U (bC U U (aI (cT ?_))))))))
  refine At.back ?_ aZ ⟨i+1,_,Na,rfl,rfl,rfl,by omega,ra,by rw [show(i+1)*2=i*2+0+2 by omega,set_two (by omega),Nat.add_zero,hcs,take_next1 hx,List.map_append,cellsP_app];rfl⟩ ?_
  ·repeat first|apply cW|exact .nil|exact lkI rfl (by omega)|rfl
  ·omega
 refine At.exit (bD (bD (dE (aS (s_3 (aH fun _ s_9=>aB (bC U U (bV U U (aI (s_9 (cK ((cF (L1:= [Na]) U (.tmp U .nil) (.refl _) aZ ?_)))))))))))))
 have e:i=n:=by omega
 subst e
 rw [List.take_of_length_le (by have:=ra.1;omega),List.take_of_length_le (by omega)]at hcs
 subst hcs
 exact⟨Na,a10,i,by rw [List.length_map,hl],rfl,by rw [List.length_map,hl];exact ra⟩
theorem head_is {p:List UInt8} {c:UInt8} (h0:0<p.length) (h:((p.getD 0 0).toNat:Int)=(c.toNat:Int)):(p.head?==some c)=true:=by
 cases p with
 |nil=>simp at h0
 |cons x r=>
  have e:x=c:=by rw [←UInt8.toNat_inj];simp at h;omega
  rw [e];simp
theorem head_not {p:List UInt8} {c:UInt8} (h: ¬((p.getD 0 0).toNat:Int)=(c.toNat:Int)): ¬(p.head?==some c)=true:=by
 cases p with
 |nil=>simp
 |cons x r=>
  intro k
  simp only [List.head?_cons,beq_iff_eq,Option.some.injEq]at k
  exact h (by rw [k];rfl)
theorem head_none {p:List UInt8} {c:UInt8} (h:p.length=0): ¬(p.head?==some c)=true:=by
 rw [List.eq_nil_of_length_eq_zero h];simp
theorem und_take {c:UInt8} {l:List PR} {i:Nat} {p:PR} (h:l[i]? =some p):undR c (l.take (i+1))=undR c (l.take i)++(if p.1.head?==some c then [p]else []):=by
 simp only [take_next1 h,undR,List.filter_append,List.filter_cons,List.filter_nil]
set_option maxHeartbeats 1000000 in
theorem FUnder {l:List PR} (h:RSl N 2 ao n cap (cellsP xs)) (hP:PsN N l xs) (hn:n≤1099511627776) (c:UInt8):Fn Tryz.prog 130 #[.slice ao n cap,.int .u8 (c.toNat:Int)] [] [N] (fun v L=> ∃ys,PairsP ys v L∧ ∀J:Heaplet,PsN J l xs→PsN J (cutR 1 (undR c l)) ys):=by
 have hxn:xs.length=n:=by have:=h.1;rw [cellsP_len]at this;omega
 have hln:=hP.len
 refine Fn.enter (vs:= [.slice ao n cap,.int .u8 (c.toNat:Int)]) Tryz.func130 U U U ?_
 intro E R hR
 have hNR:=hR N (by simp)
 have h:=h.le hNR
 have hPR:=hP.le hNR
 change At _ _ E [R] _
 refine aH fun _ s_1=>aB (bV U U (aI (s_1 (aH fun _ s_2=>aB (bV U U (aI (s_2 (aH fun _ s_3=>aH fun _ s_4=>aB (bC U U (dB aN se142 U U (bC U U (aI (s_4 (bX (At.empty (At.loop (fun fr_ hp_ ms_=> ∃(i m:Nat) (a:Option Addr) (cp:Nat) (ys:List PV) (Na:Heaplet),fr_= [(1,.int .u8 (c.toNat:Int)),(5,.slice a m cp),(8,.slice ao n cap),(9,.int .i64 (n:Int)),(10,.int .i64 (i:Int))]∧hp_= [Na,R]∧n- i=ms_∧(i≤n)∧(m=ys.length)∧(m≤i)∧(Row Na 173 2 a m cp (cellsP ys))∧(∀J:Heaplet,PsN J l xs→PsN J (undR c (l.take i)) ys)) ?_ aZ ⟨0,0,none,0,[],nilH,rfl,rfl,rfl,Nat.zero_le _,rfl,Nat.le_refl _,Row.nil _ _ _,fun J _=>PsN.nil _⟩ ?_))))))))))))))))
 ·repeat first|apply cW|exact .nil|exact lkI rfl (by omega)|rfl
 rintro _ _ _ ⟨i,m,a,cp,ys,Na,rfl,rfl,rfl,hi,hm,hm2,ra,hy⟩
 refine aH fun _ s_5=>aB (op_lss aN U U U (aI (s_5 (aH fun _ s_6=>cD U (fun c11=>?_) (fun c11=>?_)))))
 ·obtain⟨p,x,hp,hx,hpx⟩:=hPR.at (i:=i) (by omega)
  have hrb:=hpx.row.cap63
  have hrl:=hpx.row.len8
  have srow:=hpx.row
  refine cG (aS (s_6 (aH fun _ s_7=>bX (aH fun _ s_8=>aB (op_idxE aN se142 U U h (show _=(((i:Nat)):Int)from by omega) (by omega) U ?_)))))
  refine op_loadAggE (ds:= [.slice x.ra x.rn x.rc,.slice x.va x.vn x.vc]) aN ag173 U h (by exact cellsP_at hx) (by rfl) (by omega) (by simp) U ?_
  refine bZ bT ze173 U (fun N7 b7 B7=>?_)
  change Blk N7 b7 _ [.slice none 0 0,.slice none 0 0]at B7
  refine bP nxQ sz173 U U U U U B7 (by simp) sel0 (fun N7 B7=>?_)
  simp only [setL,List.set]at B7
  refine aI (s_8 (aH fun _ s_9=>aB (aJ aN fl173_0 U U (aU aN sc37 U B7 U cO U ?_))))
  refine dB aN se37 U U (op_gtr aN U U U (bC U U (At.partP (d:=18) U (fun g18=>?_) (fun g18=>?_))))
  ·refine aJ (nxgf U U U U) fl173_0 U U (aU (nxgf U U U U) sc37 U B7 U cO U ?_)
   refine op_idx1 (nxgf U U U U) se37 U U srow (show _=(((0:Nat)):Int)from by omega) (by omega) U ?_
   refine op_loadE (nxgf U U U U) sc5 U srow (by first|exact get8 (by omega)|exact get64 (by omega)|exact get32 (by omega)) (by simp) U ?_
   refine aR (nxgf U U U U) U U (op_eql (nxgf U U U U) U U U (op_pickT aN U U U (aI (s_9 (cD U (fun c25=>?_) (fun c25=>?_))))))
   ·refine aB (bC U U (aK (ds:= [_,_]) aN ag173 U B7 U U cO U (op_lit bT Tryz.underlying142 ze173 sz173 (.cons U .nil) U U (by simp [Value.cells]) U U U (fun N28 a28 r28=>?_))))
    simp only [flatV,List.flatMap_cons,List.flatMap_nil,Value.cells,List.append_nil,List.cons_append,List.nil_append]at r28
    have s28:=r28.rsl
    change Row N28 _ 2 a28 1 1 (cellsP [x])at r28
    have s28:=r28.rsl
    refine op_append nxQ Tryz.underlying142 Tryz.underlying142 te173 U U ra s28 (by simp) (cellsP_one _) (by omega) (by omega) sel2 U (fun N29 a29 p29 r29=>?_)
    have s29:=r29.rsl
    rw [←cellsP_app]at r29
    refine bV U U (cE (cJ (aS (s_7 (aB (dD aN U U (by omega) (by omega) U (bC U U (aI (dropAt2 (cT ?_))))))))))
    refine At.back ?_ aZ ⟨i+1,m+1,a29,p29,ys++ [x],N29,rfl,rfl,rfl,by omega,by simp [hm],by omega,r29,fun J hJ=>by rw [und_take hp,if_pos (head_is (by omega) c25)];exact(hy J hJ).snoc (hJ.each i p x hp hx)⟩ ?_
    ·repeat first|apply cW|exact .nil|exact lkI rfl (by omega)|rfl
    ·omega
   refine cG (cJ (aS (s_7 (aB (dD aN U U (by omega) (by omega) U (bC U U (aI (dropAt0 ?_))))))))
   refine At.back ?_ aZ ⟨i+1,m,a,cp,ys,Na,rfl,rfl,rfl,by omega,hm,by omega,ra,fun J hJ=>by rw [und_take hp,if_neg (head_not c25),List.append_nil];exact hy J hJ⟩ ?_
   ·repeat first|apply cW|exact .nil|exact lkI rfl (by omega)|rfl
   ·omega
  refine dF U U U U U U U (dF U U U U U U U (dF U U U U U U U (dF U U U U U U U (dF U U U U U U U (dF U U U U U U U (op_pickF aN U U U (aI (s_9 (At.condF U (cG (cJ (aS (s_7 (aB (dD aN U U (by omega) (by omega) U (bC U U (aI (dropAt0 ?_))))))))))))))))))
  refine At.back ?_ aZ ⟨i+1,m,a,cp,ys,Na,rfl,rfl,rfl,by omega,hm,by omega,ra,fun J hJ=>by rw [und_take hp,if_neg (head_none (by omega)),List.append_nil];exact hy J hJ⟩ ?_
  ·repeat first|apply cW|exact .nil|exact lkI rfl (by omega)|rfl
  ·omega
 have hin:i=n:=by omega
 rw [List.take_of_length_le (by omega)]at hy
 have hlen1: ∀q∈undR c l,1≤q.1.length:=fun q hq=>by
  obtain⟨_,r,e⟩:=mem_und.1 hq
  rw [e];simp
 refine At.exit (bD (bD (dE (aS (s_3 (aH fun _ s_10=>aB (bC U U (bG bT (.cons U (.cons U .nil)) (FCut ra.rsl hm.symm ((hy N hP).rows hlen1) (by omega)) Tryz.func128 U U (by simp) U ?_))))))))
 rintro _ _ ⟨M32,a32,c32,rfl,rfl,r32⟩
 show At _ _ _ [M32,Na,R] _
 refine bV U U (aI (s_10 (cK ((cT (cF (L1:= [M32]) U (.tmp U .nil) (.refl _) aZ ?_))))))
 exact⟨_,⟨M32,a32,c32,rfl,rfl,r32⟩,fun J hJ=>(hy J hJ).take_cut hlen1⟩
theorem lcp_stop: ∀ {a b:List UInt8} {i:Nat},i≤lcp a b→ ¬(i<a.length∧i<b.length∧a.getD i 0=b.getD i 0)→lcp a b=i
 | [],b,i,h,_=>by simp [lcp]at h⊢;omega
 |x::a,[],i,h,_=>by simp [lcp]at h⊢;omega
 |x::a,y::b,0,_,k=>by
  have e:x≠y:=fun e=>k ⟨by simp,by simp,by simp [e]⟩
  rw [lcp,if_neg e]
 |x::a,y::b,i+1,h,k=>by
  by_cases e:x=y
  ·rw [lcp,if_pos e]at h⊢
   rw [lcp_stop (i:=i) (by omega) fun⟨k1,k2,k3⟩=>k ⟨by simpa using k1,by simpa using k2,by simpa using k3⟩]
  ·rw [lcp,if_neg e]at h;omega
theorem lcp_go {a b:List UInt8} {i:Nat} (h:i≤lcp a b) (h1:i<a.length) (h2:i<b.length) (h3:((a.getD i 0).toNat:Int)=((b.getD i 0).toNat:Int)):i+1≤lcp a b:=by
 refine Classical.byContradiction fun k=>?_
 have e:lcp a b=i:=by omega
 have h4:=(lcp_iff (k:=i)).1 h
 have:i+1≤lcp a b:=lcp_iff.2 ⟨by omega,by omega,by
  rw [List.take_add_one,List.take_add_one,h4.2.2,List.getElem?_eq_getElem h1,List.getElem?_eq_getElem h2]
  have e1:a.getD i 0=b.getD i 0:=by rw [←UInt8.toNat_inj];omega
  rw [List.getD_eq_getElem?_getD,List.getElem?_eq_getElem h1,List.getD_eq_getElem?_getD,List.getElem?_eq_getElem h2]at e1
  rw [show a[i]=b[i]from e1]⟩
 omega
set_option maxHeartbeats 1000000 in
theorem FShared {l:List PR} (h:RSl N 2 ao n cap (cellsP xs)) (hP:PsN N l xs) (hn:n≤1099511627776) {p q:PR} (hp:l[0]? =some p) (hq:l[l.length- 1]? =some q) (h40:p.1.length≤1099511627776):Fn Tryz.prog 127 #[.slice ao n cap] [] [N] (fun v L=>v=.int .i64 ((lcp p.1 q.1:Nat):Int)∧L= []):=by
 have hxn:xs.length=n:=by have:=h.1;rw [cellsP_len]at this;omega
 have hln:=hP.len
 have h0:0<l.length:=(List.getElem?_eq_some_iff.1 hp).1
 have hcap:=h.cap63
 refine Fn.enter (vs:= [.slice ao n cap]) Tryz.func127 U U U ?_
 intro E R hR
 have hNR:=hR N (by simp)
 have h:=h.le hNR
 have hPR:=hP.le hNR
 obtain⟨p',x,hp',hx,hpx⟩:=hPR.at (i:=0) h0
 obtain rfl:p'=p:=Option.some.inj (hp'.symm.trans hp)
 obtain⟨q',y,hq',hy,hqy⟩:=hPR.at (i:=l.length- 1) (by omega)
 obtain rfl:q'=q:=Option.some.inj (hq'.symm.trans hq)
 have s3:=hpx.row
 have s4:=hqy.row
 have hr3:=hpx.row.cap63
 have hr4:=hqy.row.cap63
 have hl3:=hpx.rn
 have hl4:=hqy.rn
 have hsm:ao.isSome=true:=h.isSome (by omega)
 change At _ _ E [R] _
 refine aH fun _ s_1=>aB (bV U U (aI (s_1 (aH fun _ s_2=>At.drawn [] [0,1,2,3,4,5,6,7,8,9,10,11,12] (by kernel_rfl) (by kernel_rfl) (aR (cX U U U (by kernel_rfl)) U U (op_idxE (cX U U U (by kernel_rfl)) se142 U U h (show _=(((0:Nat)):Int)from by omega) (by omega) U ?_))))))
 refine dA (cX U U U (by kernel_rfl)) fl173_0 U (by first|rfl|assumption) U ?_
 refine op_loadE (cX U U U (by kernel_rfl)) sc37 U h (by first|exact get8 (by omega)|exact get64 (by omega)|exact get32 (by omega)|exact cellsP_row hx) (by simp) U ?_
 refine aR (cX U U U (by kernel_rfl)) U U (aR (cX U U U (by kernel_rfl)) U U (dB (cX U U U (by kernel_rfl)) se142 U U (op_subI (cX U U U (by kernel_rfl)) U U (by omega) (by omega) U (op_idxE (cX U U U (by kernel_rfl)) se142 U U h (show _=(((l.length- 1:Nat)):Int)from by omega) (by omega) U ?_))))
 refine dA (cX U U U (by kernel_rfl)) fl173_0 U (by first|rfl|assumption) U ?_
 refine op_loadE (cX U U U (by kernel_rfl)) sc37 U h (by first|exact get8 (by omega)|exact get64 (by omega)|exact get32 (by omega)|exact cellsP_row hy) (by simp) U ?_
 refine cZ (cX U U U (by kernel_rfl)) U U (cZ (cX U U U (by kernel_rfl)) U U (At.oneNil (aS (s_2 (aH fun _ s_3=>aB (bV U U (aI (s_3 (aH fun _ s_4=>bX (At.loop (fun fr_ hp_ ms_=> ∃(i:Nat),fr_= [(3,.slice x.ra x.rn x.rc),(4,.slice y.ra y.rn y.rc),(5,.int .i64 (i:Int))]∧hp_= [R]∧x.rn- i=ms_∧(i≤lcp p'.1 q'.1)) ?_ aZ ⟨0,rfl,rfl,rfl,Nat.zero_le _⟩ ?_))))))))))
 ·repeat first|apply cW|exact .nil|exact lkI rfl (by omega)|rfl
 rintro _ _ _ ⟨i,rfl,rfl,rfl,hi⟩
 refine aH fun _ s_5=>aH fun _ s_6=>At.drawn [] [0,1,2,3,4,5,6,7,8,9,10,11,12,13,14,15,16,17,18,19,20] (by kernel_rfl) (by kernel_rfl) (aR (cX U U U (by kernel_rfl)) U U (aR (cX U U U (by kernel_rfl)) U U (dB (cX U U U (by kernel_rfl)) se37 U U (op_lss (cX U U U (by kernel_rfl)) U U U (aR (cX U U U (by kernel_rfl)) U U (At.partP (d:=21) U (fun g21=>?_) (fun g21=>?_)))))))
 ·refine aR (nxogf U U U U U U (by kernel_rfl)) U U (aR (nxogf U U U U U U (by kernel_rfl)) U U (dB (nxogf U U U U U U (by kernel_rfl)) se37 U U (op_lss (nxogf U U U U U U (by kernel_rfl)) U U U (op_pickT (cX U U U (by kernel_rfl)) U U U (aR (cX U U U (by kernel_rfl)) U U (At.partP (d:=27) U (fun g27=>?_) (fun g27=>?_)))))))
  ·refine aR (nxogf U U U U U U (by kernel_rfl)) U U (aR (nxogf U U U U U U (by kernel_rfl)) U U (op_idx1 (nxogf U U U U U U (by kernel_rfl)) se37 U U s3 (show _=(((i:Nat)):Int)from by omega) (by omega) U ?_))
   refine op_loadE (nxogf U U U U U U (by kernel_rfl)) sc5 U s3 (by first|exact get8 (by omega)|exact get64 (by omega)|exact get32 (by omega)) (by simp) U ?_
   refine aR (nxogf U U U U U U (by kernel_rfl)) U U (aR (nxogf U U U U U U (by kernel_rfl)) U U (op_idx1 (nxogf U U U U U U (by kernel_rfl)) se37 U U s4 (show _=(((i:Nat)):Int)from by omega) (by omega) U ?_))
   refine op_loadE (nxogf U U U U U U (by kernel_rfl)) sc5 U s4 (by first|exact get8 (by omega)|exact get64 (by omega)|exact get32 (by omega)) (by simp) U ?_
   refine op_eql (nxogf U U U U U U (by kernel_rfl)) U U U (op_pickT (cX U U U (by kernel_rfl)) U U U (At.oneNil (aS (s_6 (cD U (fun c37=>?_) (fun c37=>?_))))))
   ·refine cG (aS (s_5 (bX (aB (bC U U (dD aN U U (by omega) (by omega) U (bV U U (cE (cJ (aS (At.back ?_ aZ ⟨i+1,rfl,rfl,rfl,lcp_go hi (by omega) (by omega) c37⟩ ?_)))))))))))
    ·repeat first|apply cW|exact .nil|exact lkI rfl (by omega)|rfl
    ·omega
   refine At.exit (bD (bD (dE (aS (s_4 (aH fun _ s_7=>aB (bC U U (bV U U (aI (s_7 (cK ((cF (L1:= []) U (.tmp U .nil) (.refl _) aZ ?_)))))))))))))
   exact⟨by rw [lcp_stop hi fun k=>c37 (by rw [k.2.2])],rfl⟩
  refine op_oskip U U U U U U U U (op_oskip U U U U U U U U (op_oskip U U U U U U U U (op_oskip U U U U U U U U (op_oskip U U U U U U U U (op_oskip U U U U U U U U (op_oskip U U U U U U U U (op_oskip U U U U U U U U (op_oskip U U U U U U U U (op_pickF (cX U U U (by kernel_rfl)) U U U (At.oneNil (aS (s_6 (At.condF U (At.exit (bD (bD (dE (aS (s_4 (aH fun _ s_8=>aB (bC U U (bV U U (aI (s_8 (cK ((cF (L1:= []) U (.tmp U .nil) (.refl _) aZ ?_)))))))))))))))))))))))))))
  exact⟨by rw [lcp_stop hi fun k=>g27 (by have:=k.2.1;omega)],rfl⟩
 refine op_oskip U U U U U U U U (op_oskip U U U U U U U U (op_oskip U U U U U U U U (op_oskip U U U U U U U U (op_pickF (cX U U U (by kernel_rfl)) U U U (aR (cX U U U (by kernel_rfl)) U U (op_oskip U U U U U U U U (op_oskip U U U U U U U U (op_oskip U U U U U U U U (op_oskip U U U U U U U U (op_oskip U U U U U U U U (op_oskip U U U U U U U U (op_oskip U U U U U U U U (op_oskip U U U U U U U U (op_oskip U U U U U U U U (op_pickF (cX U U U (by kernel_rfl)) U U U (At.oneNil (aS (s_6 (At.condF U (At.exit (bD (bD (dE (aS (s_4 (aH fun _ s_9=>aB (bC U U (bV U U (aI (s_9 (cK ((cF (L1:= []) U (.tmp U .nil) (.refl _) aZ ?_)))))))))))))))))))))))))))))))))
 exact⟨by rw [lcp_stop hi fun k=>g21 (by have:=k.1;omega)],rfl⟩
end
theorem FNib1 (c:UInt8):Fn Tryz.prog 157 #[.int .u8 (c.toNat:Int)] [] [] (fun v L=>v=.bool (decide ((c.toNat:Int)>15))∧L= []):=by
 refine Fn.enter (vs:= [.int .u8 (c.toNat:Int)]) Tryz.func157 U U U ?_
 intro E R hR
 change At _ _ E [R] _
 refine aH fun _ s_1=>aB (bV U U (aI (s_1 (aH fun _ s_2=>aB (bC U U (op_gtr aN U U U (bV U U (aI (s_2 (cK ((cF (L1:= []) U (.tmp U .nil) (.refl _) aZ ?_))))))))))))
 exact⟨rfl,rfl⟩
theorem FText_t {a:Option Addr} {n c:Nat} :Fn Tryz.prog 124 #[.slice a n c] [] [] (fun v L=>v=.agg #[.bool false,.slice a n c,.slice none 0 0]∧L= []):=by
 refine Fn.enter (vs:= [.slice a n c]) Tryz.func124 U U U ?_
 intro E R hR
 change At _ _ E [R] _
 refine aH fun _ s_1=>aB (bZ bT ze137 U (fun N2 b2 B2=>?_))
 change Blk N2 b2 _ [.bool false,.slice none 0 0,.slice none 0 0]at B2
 refine aI (s_1 (aH fun _ s_2=>aB (bC U U (op_build (out:= [.bool false,_,.slice none 0 0]) aN ze137 pl137 (.cons U .nil) U U (bP nxQ sz137 U U U U U B2 (by simp) sel0 (fun N2 B2=>?_))))))
 simp only [setL,List.set]at B2
 refine aI (s_2 (cK ((cF (L1:= []) U (.cell U (res_agg (ds:= [_,_,_]) ag137 B2 U U cO) .nil) (.cons _ (.refl _)) aZ ?_))))
 exact⟨rfl,rfl⟩
theorem FList_t {a:Option Addr} {n c:Nat} :Fn Tryz.prog 126 #[.slice a n c] [] [] (fun v L=>v=.agg #[.bool true,.slice none 0 0,.slice a n c]∧L= []):=by
 refine Fn.enter (vs:= [.slice a n c]) Tryz.func126 U U U ?_
 intro E R hR
 change At _ _ E [R] _
 refine aH fun _ s_1=>aB (bZ bT ze137 U (fun N2 b2 B2=>?_))
 change Blk N2 b2 _ [.bool false,.slice none 0 0,.slice none 0 0]at B2
 refine aI (s_1 (aH fun _ s_2=>aB (bC U U (op_build (out:= [_,.slice none 0 0,_]) aN ze137 pl137 (.cons U (.cons U .nil)) U U (bP nxQ sz137 U U U U U B2 (by simp) sel0 (fun N2 B2=>?_))))))
 simp only [setL,List.set]at B2
 refine aI (s_2 (cK ((cF (L1:= []) U (.cell U (res_agg (ds:= [_,_,_]) ag137 B2 U U cO) .nil) (.cons _ (.refl _)) aZ ?_))))
 exact⟨rfl,rfl⟩
section
variable {N : Heaplet} {ao : Option Addr} {n cap : Nat} {l : List UInt8}
theorem FIdx (h:RSl N 1 ao n cap (u8s l)):Fn Tryz.prog 177 #[.slice ao n cap,.func (.func 157) #[] #[]] [] [N] (fun v L=> ∃z:Int,v=.int .i64 z∧L= []∧((Nib l∧z= -1)∨(¬Nib l∧0≤z))):=by
 have hlen:=h.len8
 have hcap:=h.cap63
 refine Fn.enter (vs:= [.slice ao n cap,.func (.func 157) #[] #[]]) Tryz.func177 U U U ?_
 intro E R hR
 have h:=h.le (hR N (by simp))
 change At _ _ E [R] _
 refine aH fun _ s_1=>aB (bV U U (aI (s_1 (aH fun _ s_2=>aH fun _ s_3=>aB (bC U U (dB aN se37 U U (bC U U (aI (s_3 (bX (At.loop (fun fr_ hp_ ms_=> ∃(i:Nat),fr_= [(0,.slice ao n cap),(1,.func (.func 157) #[] #[]),(7,.int .i64 (n:Int)),(8,.int .i64 (i:Int))]∧hp_= [R]∧n- i=ms_∧(i≤n)∧(Nib (l.take i))) ?_ aZ ⟨0,rfl,rfl,rfl,Nat.zero_le _,fun x hx=>by simp at hx⟩ ?_)))))))))))
 ·repeat first|apply cW|exact .nil|exact lkI rfl (by omega)|rfl
 rintro _ _ _ ⟨i,rfl,rfl,rfl,hi,hno⟩
 refine aH fun _ s_4=>aB (op_lss aN U U U (aI (s_4 (aH fun _ s_5=>cD U (fun c9=>?_) (fun c9=>?_)))))
 ·have hgx:l[i]? =some (l[i]'(by omega)):=List.getElem?_eq_getElem (by omega)
  have hgd:l.getD i 0=l[i]'(by omega):=by rw [List.getD_eq_getElem?_getD,hgx];rfl
  refine cG (aS (s_5 (aH fun _ s_6=>bX (aH fun _ s_7=>aB (bC U U (bV U U (aI (s_7 (aH fun _ s_8=>aB (bC U U (bC U U (bC U U (op_idx1 aN se37 U U h (show _=(((i:Nat)):Int)from by omega) (by omega) U ?_)))))))))))))
  refine op_loadE aN sc5 U h (by first|exact get8 (by omega)|exact get64 (by omega)|exact get32 (by omega)) (by simp) U ?_
  refine op_callV nxQ U (.cons U .nil) (FNib1 (l.getD i 0)) (F:= [R]) Tryz.func157 U U aZ (by simp) U ?_
  rintro _ _ ⟨rfl,rfl⟩
  show At _ _ _ [R] _
  refine aI (s_8 (cD U (fun c16=>?_) (fun c16=>?_)))
  ·refine aH fun _ s_9=>aB (bC U U (bV U U (aI (s_9 (cK (At.inRet (dC (dC (At.inRet (dC ((cF (L1:= []) U (.tmp U .nil) (.refl _) aZ ?_))))))))))))
   exact⟨_,rfl,rfl,.inr ⟨fun k=>by have:=k _ (List.mem_of_getElem? hgx);rw [←hgd]at this;omega,by omega⟩⟩
  refine cG (cJ (aS (s_6 (aB (dD aN U U (by omega) (by omega) U (bC U U (aI ?_)))))))
  refine At.back ?_ aZ ⟨i+1,rfl,rfl,rfl,by omega,fun x hx=>by rw [take_next1 hgx]at hx;rcases List.mem_append.1 hx with hx|hx;exact hno x hx;rw [List.mem_singleton.1 hx, ←hgd];omega⟩ ?_
  ·repeat first|apply cW|exact .nil|exact lkI rfl (by omega)|rfl
  ·omega
 refine At.exit (bD (bD (dE (aS (s_2 (aH fun _ s_10=>aB (bV U U (aI (s_10 (cK ((cF (L1:= []) U (.tmp U .nil) (.refl _) aZ ?_))))))))))))
 exact⟨_,rfl,rfl,.inl ⟨by rw [List.take_of_length_le (by omega)]at hno;exact hno,rfl⟩⟩
theorem FHasBad (h:RSl N 1 ao n cap (u8s l)):Fn Tryz.prog 156 #[.slice ao n cap,.func (.func 157) #[] #[]] [] [N] (fun v L=> ∃b:Bool,v=.bool b∧L= []∧((Nib l∧b=false)∨(¬Nib l∧b=true))):=by
 refine Fn.enter (vs:= [.slice ao n cap,.func (.func 157) #[] #[]]) Tryz.func156 U U U ?_
 intro E R hR
 have h:=h.le (hR N (by simp))
 change At _ _ E [R] _
 refine aH fun _ s_1=>aB (bV U U (aI (s_1 (aH fun _ s_2=>aB (bC U U (bC U U (bG bT (.cons U (.cons U .nil)) (FIdx h) Tryz.func177 U U (by simp) U ?_)))))))
 rintro _ _ ⟨z,rfl,rfl,hz⟩
 show At _ _ _ [R] _
 refine op_geq aN U U U (bV U U (aI (s_2 (cK ((cF (L1:= []) U (.tmp U .nil) (.refl _) aZ (⟨_,rfl,rfl,?_⟩)))))))
 rcases hz with ⟨h1,h2⟩|⟨h1,h2⟩
 ·exact .inl ⟨h1,decide_eq_false (by omega)⟩
 ·exact .inr ⟨h1,decide_eq_true (by omega)⟩
end
end Go.Proofs.YtalmjkcapecpiaaGreat
