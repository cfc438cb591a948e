/- What is handed in stays as it was and is not kept; what is told is the caller's own: 'quarrylaw14.BookOwn' answers true. No condition. -/
import Derived.Test.YtljacjjeinmfnaaRows
import Derived.Test.YtljacjjeinmfnaaU24
import Derived.Test.YtljacjjeinmfnaaU26
set_option linter.unusedSimpArgs false
set_option linter.unusedVariables false
namespace Go.Proofs.Ytljacjjeinmfnaa.BookOwn
open Go Go.ChangeShapes Go.WideShapes Go.ChangeAt Go.RowKit
theorem own:ownKnob Try.prog.godebug=none:=by kernel_rfl
theorem laidOut:laidOutB Try.prog=true:=by kernel_rfl
set_option maxRecDepth 100000 in
theorem contract (H:Type) (enc:TypeId×Value→H) (W:World) (base:Nat) (args:Array Value) (ds gs:List (DataW H)) (before:List MemPlace)
 (hval: ∀(j:Nat) t v,Try.f6.params[j]? =some t→args[j]? =some v→Value.okWide Try.prog W .any base t v)
 (hW:DataW.Whole enc Try.prog Try.f6.params.toList Rows.bookOwnSpec.vars false W args.toList ds gs before):
 Calls Try.prog 6 args W fun e W'=> ∃v,e=.returned v∧Rows.bookOwnSpec.post enc Try.prog Try.f6 false true false false W args v W':=by
 have hW':=hW
 obtain⟨p,q,hA0,hV,hpq,hfz,hnd⟩:=hW
 have hA:DataW.TrodAll enc Try.prog W 0 (fun _=>true) true Try.f6.params.toList args.toList ds p:=hA0
 rw [Try.params6]at hA hval
 obtain⟨v0,vs0,d0,ds0,p0,q0,hargs,rfl,_,h0,r0⟩:=trodAll_cons hA
 obtain⟨v1,vs1,d1,ds1,p1,q1,rfl,rfl,_,h1,r1⟩:=trodAll_cons r0
 obtain⟨rfl,rfl,_⟩:=trodAll_nil r1
 obtain rfl:args= #[v0,v1]:=by cases args;simp_all
 obtain⟨rfl,_⟩:=trodVars_none hV
 obtain⟨m0,td0,ta0,tb0,rfl,k0',t0'⟩:=open_tx (hval 0 58 v0 rfl rfl) h0
 obtain⟨ao1,n1,c1,l1,rfl,i1⟩:=open_bytes (hval 1 27 v1 rfl rfl) h1
 refine(BookOwn_f k0' t0' i1 W W (whole W) (Hp.whole W) (fun N hN=>by first|(have e:N=whole W:=List.mem_singleton.1 hN;rw [e];exact Heaplet.le_refl _)|exact absurd hN List.not_mem_nil|(have e:N=whole W:=(by simpa using hN);rw [e];exact Heaplet.le_refl _))).mono fun e W' hd=>?_
 obtain⟨v,L1,rfl,⟨rfl,rfl⟩,hp⟩:=hd
 exact⟨_,rfl,law_post hW' rfl rfl (by rfl) rfl (fun _ _ _=>shut_bool Try.underlying4 _) (okWide_bool_mk Try.underlying4 _) laidOut (by rw [Try.params6];decide+kernel) hp.below⟩
set_option maxRecDepth 100000 in
theorem lifted (os:Os) (started:os.Started) (H:Type) (enc:TypeId×Value→H):
 ReturnsInHanded {} Try.checked os 6 .any (Rows.bookOwnSpec.pre6 enc Try.prog Try.f6 Rows.bookOwnRow.domain false) (Rows.bookOwnSpec.post enc Try.prog Try.f6 false true false false):=by
 refine returnsInHanded_of_change (C:=Try.checked) own started (by kernel_rfl) Try.func6
  (ChangeSpec.witness6 (enc:=enc) (C:=Try.checked) false ⟨#[], #[.agg ([Value.int .i64 0,Value.int .u64 0,Value.int .u64 0]++List.replicate 9 (Value.int .u64 0)++ [Value.bool false]++List.replicate 20 (Value.int .u8 0)++List.replicate 4 (Value.int .u64 0)++ [Value.slice none 0 0,Value.slice none 0 0]++List.replicate 4 (Value.int .u64 0)++ [Value.slice none 0 0,Value.bool false]++List.replicate 8 (Value.int .u64 0)).toArray,.slice none 0 0],[]⟩ 8 (by kernel_rfl) (by kernel_rfl) (by kernel_rfl) (by kernel_rfl)) ?_
 intro W base args ds gs before hval hW _ _
 exact contract H enc W base args ds gs before hval hW
theorem proved:Rows.BookOwnSaid:=
 OpenClaim.holds_of_wide 6 Try.f6 rfl rfl rfl rfl rfl rfl rfl ⟨rfl,rfl,rfl,rfl,rfl⟩ rfl rfl rfl rfl rfl (by kernel_rfl) Try.func6 (by kernel_rfl)
  (of_decide_eq_true (by kernel_rfl)) (by unfold Func.isWrapper;first|(rw [if_pos (by decide+kernel)];kernel_rfl)|(rw [if_neg (by decide+kernel)];exact⟨rfl,rfl⟩))
  (fun os started H enc _=>lifted os started H enc)
end Go.Proofs.Ytljacjjeinmfnaa.BookOwn
