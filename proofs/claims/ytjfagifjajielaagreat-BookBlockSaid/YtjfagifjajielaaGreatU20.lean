/- Several texts in one: see the remarks ahead of each part. No condition but those told there. -/
import Derived.Test.YtjfagifjajielaaGreatU19
import Derived.Test.YtjfagifjajielaaGreatU10
import Derived.Test.YtjfagifjajielaaGreatU15
import Derived.Test.YtjfagifjajielaaGreatU16
import Derived.Test.YtjfagifjajielaaGreatU11
set_option linter.unusedSimpArgs false
set_option linter.unusedVariables false
/- Layer 14: a transaction's list is read. No condition but sizes. -/
namespace Go.Proofs.YtjfagifjajielaaGreat
open Go Go.RowKit
set_option maxRecDepth 100000
section
variable {Np NI Nt : Heaplet} {bp bt : Nat} {its : List It} {zs : List IV}
def txE:Nat→List It→Except Nat TxM
 |0=>tx0
 |1=>tx1
 |2=>tx2
 |3=>tx3
 |_=>fun _=>.error 2
end
end Go.Proofs.YtjfagifjajielaaGreat
/- Plain laws: what is read is the form of what it tells. No condition but that bytes are not longer than a length tells. -/
namespace Go.Proofs.YtjfagifjajielaaGreat
/-- Head and payload. -/
def hf (l:Bool) (p:List UInt8):List UInt8:=if l then rlpHead 192 p.length++p else if small p then p else rlpHead 128 p.length++p
theorem form_hf (bs:List UInt8) (its:List It):(It.mk false bs its).form=hf false bs:=by rw [form_false];rfl
theorem form_hfl (bs:List UInt8) (its:List It):(It.mk true bs its).form=hf true (It.forms its):=by rw [form_true];rfl
theorem drop_split {b:List UInt8} {i n:Nat} :b.drop i=(b.drop i).take n++b.drop (i+n):=by
 conv=>lhs;rw [←List.take_append_drop n (b.drop i)]
 rw [List.drop_drop]
theorem cutF_form {b p r:List UInt8} {l:Bool} (h:cutF b=some (l,p,r)) (hb:b.length<2^64):b=hf l p++r:=by
 cases b with
 |nil=>simp [cutF]at h
 |cons x t=>
  have hx:=x.toNat_lt
  have h0:((x::t).getD 0 0).toNat=x.toNat:=rfl
  have hd:hdr (x::t)=(x.toNat- 128) % 64:=rfl
  rw [cutF,if_neg (by simp)]at h
  by_cases h1:x.toNat<128
  ·rw [if_pos (by rw [h0];exact h1)]at h
   simp only [List.take_succ_cons,List.take_zero,List.drop_succ_cons,List.drop_zero,Option.some.injEq,Prod.mk.injEq]at h
   obtain⟨rfl,rfl,rfl⟩:=h
   have:small [x]=true:=small_iffI.2 ⟨rfl,h1⟩
   simp [hf,this]
  ·rw [if_neg (by rw [h0];exact h1)]at h
   by_cases h55:hdr (x::t)≤55
   ·rw [if_pos h55,cutAt]at h
    split at h
    ·cases h
    ·rename_i hlen
     have hp:((x::t).drop 1).take (hdr (x::t))=t.take (hdr (x::t)):=rfl
     have hl:(t.take (hdr (x::t))).length=hdr (x::t):=by rw [List.length_take];simp at hlen;omega
     have hr:(x::t).drop (1+hdr (x::t))=t.drop (hdr (x::t)):=by rw [Nat.add_comm,List.drop_succ_cons]
     split at h
     ·rename_i h192
      rw [h0]at h192
      simp only [Option.some.injEq,Prod.mk.injEq,hp,hr]at h
      obtain⟨rfl,rfl,rfl⟩:=h
      rw [hf,if_pos rfl,hl,rlpHead,if_pos h55,List.append_assoc,List.take_append_drop]
      have:UInt8.ofNat (192+hdr (x::t))=x:=by rw [←UInt8.toNat_inj,ofNat8 (by omega)];omega
      rw [this];rfl
     ·rename_i h192
      rw [h0]at h192
      split at h
      ·cases h
      ·rename_i hsm
       simp only [Option.some.injEq,Prod.mk.injEq,hp,hr]at h
       obtain⟨rfl,rfl,rfl⟩:=h
       have hs: ¬small (t.take (hdr (x::t)))=true:=fun hs=>by
        obtain⟨h2,h3⟩:=small_iffI.1 hs
        rw [hl]at h2
        apply hsm
        refine⟨h2,?_⟩
        rw [h2]at h3
        cases t with
        |nil=>simp at h3;exact absurd (by simp at hl;omega) (by decide: ¬(0:Nat)=1)
        |cons y u=>exact h3
       rw [hf,if_neg (by decide),if_neg hs,hl,rlpHead,if_pos h55,List.append_assoc,List.take_append_drop]
       have:UInt8.ofNat (128+hdr (x::t))=x:=by rw [←UInt8.toNat_inj,ofNat8 (by omega)];omega
       rw [this];rfl
   ·rw [if_neg h55]at h
    split at h
    ·cases h
    ·rename_i h2
     split at h
     ·cases h
     ·rename_i h3
      generalize hk:hdr (x::t)- 54- 1=k at*
      have hkt:k≤t.length:=by simp at h2;omega
      have e1:hdr (x::t)- 54=k+1:=by omega
      have hlB:(t.take k).length=k:=by rw [List.length_take];omega
      have hB:t.take k=bytesOf (lng (x::t)):=by
       have:lng (x::t)=be (t.take k):=by rw [lng,hk];rfl
       rw [this]
       refine eq_bytesOf fun hh=>h2 (.inr ?_)
       cases t with
       |nil=>simp at hh
       |cons y u=>
        obtain⟨j,rfl⟩: ∃j,k=j+1:=⟨k- 1,by omega⟩
        simp only [List.take_succ_cons,List.head?_cons,Option.some.injEq]at hh
        rw [hh];rfl
      rw [cutAt,e1]at h
      split at h
      ·cases h
      ·rename_i hlen
       have hp:(x::t).drop (k+1)=t.drop k:=rfl
       have hr:(x::t).drop (k+1+lng (x::t))=t.drop (k+lng (x::t)):=by rw [show k+1+lng (x::t)=(k+lng (x::t))+1 by omega,List.drop_succ_cons]
       have hl:((t.drop k).take (lng (x::t))).length=lng (x::t):=by rw [List.length_take,List.length_drop];simp at hlen;omega
       have hall:t=bytesOf (lng (x::t))++((t.drop k).take (lng (x::t))++t.drop (k+lng (x::t))):=by
        rw [←drop_split, ←hB,List.take_append_drop]
       have hBl:(bytesOf (lng (x::t))).length=k:=by rw [←hB];exact hlB
       split at h
       ·rename_i h192
        rw [h0]at h192
        simp only [Option.some.injEq,Prod.mk.injEq,hp,hr]at h
        obtain⟨rfl,rfl,rfl⟩:=h
        rw [hf,if_pos rfl,hl,rlpHead,if_neg (by omega),hBl]
        have:UInt8.ofNat (192+55+k)=x:=by rw [←UInt8.toNat_inj,ofNat8 (by omega)];omega
        rw [this,List.cons_append,List.cons_append,List.append_assoc, ←hall]
       ·rename_i h192
        rw [h0]at h192
        split at h
        ·cases h
        ·rename_i hsm
         simp only [Option.some.injEq,Prod.mk.injEq,hp,hr]at h
         obtain⟨rfl,rfl,rfl⟩:=h
         have hs: ¬small ((t.drop k).take (lng (x::t)))=true:=fun hs=>by
          have h4:=(small_iffI.1 hs).1
          rw [hl]at h4;omega
         rw [hf,if_neg (by decide),if_neg hs,hl,rlpHead,if_neg (by omega),hBl]
         have:UInt8.ofNat (128+55+k)=x:=by rw [←UInt8.toNat_inj,ofNat8 (by omega)];omega
         rw [this,List.cons_append,List.cons_append,List.append_assoc, ←hall]
theorem items_form {dec:List UInt8→Except Nat (It×List UInt8)} {k:Nat} (ih: ∀b t q,b.length<2^64→dec b=.ok (t,q)→t.form++q=b∧t.depth≤k):
 ∀(f:Nat) (p:List UInt8) (ts:List It),p.length<2^64→itemsF dec f p=.ok ts→It.forms ts=p∧It.depths ts≤k
 |f,[],ts,_,h=>by
  cases f<;>(simp only [itemsF,Except.ok.injEq]at h;subst h;simp [It.forms,It.depths])
 |0,c::b,ts,_,h=>by simp [itemsF]at h
 |f+1,c::b,ts,hb,h=>by
  rw [itemsF]at h
  split at h
  ·cases h
  ·rename_i t q he
   obtain⟨h1,h2⟩:=ih _ _ _ hb he
   have hq:q.length<2^64:=by
    have:=congrArg List.length h1
    rw [List.length_append]at this
    omega
   cases hi:itemsF dec f q with
   |error e=>rw [hi]at h;cases h
   |ok us=>
    rw [hi]at h
    simp only [exMap,Except.ok.injEq]at h
    subst h
    obtain⟨h3,h4⟩:=items_form ih f q us hq hi
    exact⟨by rw [It.forms,h3,h1],by rw [It.depths];omega⟩
theorem decF_form: ∀(k:Nat) (b:List UInt8) (t:It) (q:List UInt8),b.length<2^64→decF k b=.ok (t,q)→t.form++q=b∧t.depth≤k:=by
 intro k
 induction k with
 |zero=>
  intro b t q hb h
  unfold decF at h
  split at h
  ·cases h
  ·rename_i hc
   cases h
   exact⟨by rw [form_hf];exact(cutF_form hc hb).symm,by simp [It.depth]⟩
  ·cases h
 |succ k ih=>
  intro b t q hb h
  unfold decF at h
  split at h
  ·cases h
  ·rename_i hc
   cases h
   exact⟨by rw [form_hf];exact(cutF_form hc hb).symm,by simp [It.depth]⟩
  ·rename_i p r hc
   split at h
   ·cases h
   ·rename_i its hi
    cases h
    have hl:=(cutF_len hc).1
    obtain⟨h1,h2⟩:=items_form ih _ _ _ (by omega) hi
    exact⟨by rw [form_hfl,h1];exact(cutF_form hc hb).symm,by rw [It.depth];omega⟩
end Go.Proofs.YtjfagifjajielaaGreat
/- quarrylaw05's Twin, cut: an item in new memory, of not too many parts. No condition. -/
namespace Go.Proofs.YtjfagifjajielaaGreat
open Go Go.RowKit
mutual
/-- A bound of the form's length. -/
def sizeT:It→Nat
 |.mk _ bs its=>9+bs.length+sizesT its
def sizesT:List It→Nat
 | []=>0
 |t::ts=>sizeT t+sizesT ts
end
mutual
theorem form_size: ∀t:It,sizeT t<256^8→t.form.length≤sizeT t
 |.mk false bs its,h=>by
  simp only [sizeT]at h⊢
  rw [form_false]
  split
  ·omega
  ·have:=rlpHead_le 128 bs.length (by omega)
   rw [List.length_append];omega
 |.mk true bs its,h=>by
  simp only [sizeT]at h⊢
  have:=forms_size its (by omega)
  have h9:=rlpHead_le 192 (It.forms its).length (by omega)
  rw [form_true,List.length_append];omega
theorem forms_size: ∀ts:List It,sizesT ts<256^8→(It.forms ts).length≤sizesT ts
 | [],_=>by simp [It.forms,sizesT]
 |t::ts,h=>by
  simp only [sizesT]at h⊢
  have h1:=form_size t (by omega)
  have h2:=forms_size ts (by omega)
  rw [It.forms,List.length_append];omega
end
/-- What Twin tells: an item of a bounded size; what is left is told. -/
def TwinP (bl deep left:Nat) (v:Value) (L:List Heaplet):Prop:=
 ∃Nl M, ∃y:IV, ∃t' left',v=.agg #[.bool y.l,.slice y.ab y.nb y.cb,.slice y.ai y.ni y.ci]∧L= [Nl,M]∧Blk Nl bl 3 [.int .i64 ((left':Nat):Int)]∧ItN M t' y∧t'.depth≤deep+1∧sizeT t'≤409*(left- left')∧left'<left
end Go.Proofs.YtjfagifjajielaaGreat
/- quarrylaw05.RlpEncode answers true. No condition. -/
namespace Go.Proofs.YtjfagifjajielaaGreat
open Go Go.RowKit
end Go.Proofs.YtjfagifjajielaaGreat
/- quarrylaw05.plain; quarrylaw05.RlpBack answers true. No condition. -/
namespace Go.Proofs.YtjfagifjajielaaGreat
open Go Go.RowKit
theorem decodeF_form {t:It} (hl:t.form.length<2^64) (hd:t.depth≤1024):decodeF t.form=.ok t.plain:=by
 have e:=dec_form t 1024 [] hl hd
 rw [List.append_nil]at e
 rw [decodeF,e];rfl
theorem decodeF_back {b:List UInt8} {t:It} (hb:b.length<2^64) (h:decodeF b=.ok t):t.form=b∧t.depth≤1024:=by
 unfold decodeF at h
 split at h
 ·cases h
 ·rename_i u q he
  split at h
  ·rename_i hq
   cases h
   obtain⟨h1,h2⟩:=decF_form 1024 b _ _ hb he
   rw [List.eq_nil_of_length_eq_zero hq,List.append_nil]at h1
   exact⟨h1,h2⟩
  ·cases h
end Go.Proofs.YtjfagifjajielaaGreat
/- rlp.Split, rlp.Envelope, rlp.Of: what they give is the caller's own. No condition but that bytes are not longer than a machine holds. -/
namespace Go.Proofs.YtjfagifjajielaaGreat
open Go Go.RowKit
/-- Two lists of bytes in memory of their own. -/
def SplW (nb:Nat) (v:Value) (L:List Heaplet):Prop:= ∃M1 M2 l n1 n2 a1 c1 a2 c2 p q, ∃e:Int,v=.tuple #[.bool l,.slice a1 n1 c1,.slice a2 n2 c2,.int .i64 e]∧L= [M1,M2]∧Row M1 5 1 a1 n1 c1 (u8s p)∧Row M2 5 1 a2 n2 c2 (u8s q)∧n1≤nb∧n2≤nb
def EnvW (nb:Nat) (v:Value) (L:List Heaplet):Prop:= ∃M k n1 a c p, ∃e:Int,v=.tuple #[.int .i64 k,.slice a n1 c,.int .i64 e]∧L= [M]∧Row M 5 1 a n1 c (u8s p)∧n1≤nb
/-- A call that reads several parts of the memory. -/
theorem Fn.over {P:Program} {f:FuncId} {args:Array Value} {Ns:List Heaplet} {Post:Value→List Heaplet→Prop} (h: ∀J,(∀N∈Ns,N.le J)→Fn P f args [] [J] Post):Fn P f args [] Ns Post:=
 fun E w R hw hr=>h R hr E w R hw fun N hN=>by rw [List.mem_singleton.1 hN];exact Heaplet.le_refl _
end Go.Proofs.YtjfagifjajielaaGreat
