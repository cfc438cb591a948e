/- Nibbles as bytes, and back, of any bytes: 'quarrylaw12.TrieCompact' answers true. No condition. -/
import Derived.Test.YtdpjbefeabokgaaRows
import Derived.Test.YtdpjbefeabokgaaU15
set_option linter.unusedSimpArgs false
set_option linter.unusedVariables false
namespace Go.Proofs.Ytdpjbefeabokgaa.TrieCompact
open Go Go.ChangeShapes Go.WideShapes Go.ChangeAt Go.RowKit
theorem own:ownKnob Try.prog.godebug=none:=by kernel_rfl
theorem laidOut:laidOutB Try.prog=true:=by kernel_rfl
set_option maxRecDepth 100000 in
theorem contract (H:Type) (enc:TypeId×Value→H) (W:World) (base:Nat) (args:Array Value) (ds gs:List (DataW H)) (before:List MemPlace)
 (hval: ∀(j:Nat) t v,Try.f5.params[j]? =some t→args[j]? =some v→Value.okWide Try.prog W .any base t v)
 (hW:DataW.Whole enc Try.prog Try.f5.params.toList Rows.trieCompactSpec.vars false W args.toList ds gs before):
 Calls Try.prog 5 args W fun e W'=> ∃v,e=.returned v∧Rows.trieCompactSpec.post enc Try.prog Try.f5 false true false false W args v W':=by
 have hW':=hW
 obtain⟨p,q,hA0,hV,hpq,hfz,hnd⟩:=hW
 have hA:DataW.TrodAll enc Try.prog W 0 (fun _=>true) true Try.f5.params.toList args.toList ds p:=hA0
 rw [Try.params5]at hA hval
 obtain⟨v0,vs0,d0,ds0,p0,q0,hargs,rfl,_,h0,r0⟩:=trodAll_cons hA
 obtain⟨v1,vs1,d1,ds1,p1,q1,rfl,rfl,_,h1,r1⟩:=trodAll_cons r0
 obtain⟨rfl,rfl,_⟩:=trodAll_nil r1
 obtain rfl:args= #[v0,v1]:=by cases args;simp_all
 obtain⟨rfl,_⟩:=trodVars_none hV
 obtain⟨ao0,n0,c0,l0,rfl,i0⟩:=open_bytes (hval 0 33 v0 rfl rfl) h0
 obtain⟨y1,rfl,rfl,_⟩:=Go.RowKit.open_bool Try.underlying4 (hval 1 4 v1 rfl rfl) h1
 refine(TrieCompact_f i0 y1 W W (whole W) (Hp.whole W) (fun N hN=>by first|(have e:N=whole W:=List.mem_singleton.1 hN;rw [e];exact Heaplet.le_refl _)|exact absurd hN List.not_mem_nil|(have e:N=whole W:=(by simpa using hN);rw [e];exact Heaplet.le_refl _))).mono fun e W' hd=>?_
 obtain⟨v,L1,rfl,⟨rfl,rfl⟩,hp⟩:=hd
 exact⟨_,rfl,law_post hW' rfl rfl (by rfl) rfl (fun _ _ _=>shut_bool Try.underlying4 _) (okWide_bool_mk Try.underlying4 _) laidOut (by rw [Try.params5];decide+kernel) hp.below⟩
set_option maxRecDepth 100000 in
theorem lifted (os:Os) (started:os.Started) (H:Type) (enc:TypeId×Value→H):
 ReturnsInHanded {} Try.checked os 5 .any (Rows.trieCompactSpec.pre6 enc Try.prog Try.f5 Rows.trieCompactRow.domain false) (Rows.trieCompactSpec.post enc Try.prog Try.f5 false true false false):=by
 refine returnsInHanded_of_change (C:=Try.checked) own started (by kernel_rfl) Try.func5
  (ChangeSpec.witness6 (enc:=enc) (C:=Try.checked) false ⟨#[], #[.slice none 0 0,.bool false],[]⟩ 8 (by kernel_rfl) (by kernel_rfl) (by kernel_rfl) (by kernel_rfl)) ?_
 intro W base args ds gs before hval hW _ _
 exact contract H enc W base args ds gs before hval hW
theorem proved:Rows.TrieCompactSaid:=
 OpenClaim.holds_of_wide 5 Try.f5 rfl rfl rfl rfl rfl rfl rfl ⟨rfl,rfl,rfl,rfl,rfl⟩ rfl rfl rfl rfl rfl (by kernel_rfl) Try.func5 (by kernel_rfl)
  (of_decide_eq_true (by kernel_rfl)) (by unfold Func.isWrapper;first|(rw [if_pos (by decide+kernel)];kernel_rfl)|(rw [if_neg (by decide+kernel)];exact⟨rfl,rfl⟩))
  (fun os started H enc _=>lifted os started H enc)
end Go.Proofs.Ytdpjbefeabokgaa.TrieCompact
