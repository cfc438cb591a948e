/- 'quarrylaw21.HeadHard' answers true. No condition. -/
import Derived.Test.YtbmlhdecnfplaaaKHL4
import Derived.Test.YtbmlhdecnfplaaaKHZ0
import Derived.Test.YtbmlhdecnfplaaaRows
namespace Go.Proofs.Ytbmlhdecnfplaaa.HeadHard
set_option linter.unusedVariables false
set_option linter.unusedSimpArgs false
open Go Go.ChangeShapes Go.WideShapes Go.ChangeAt Go.RowKit
theorem u64_of {q : Int} (h : 0 ≤ q ∧ q ≤ 18446744073709551615) : ∃ x : UInt64, q = (x.toNat : Int) := ⟨UInt64.ofNat q.toNat, by rw [UInt64.toNat_ofNat']; omega⟩
section
variable {H : Type} {enc : TypeId × Value → H} {w : World} {base : Nat} {spare : Nat → Bool} {held : Bool}
set_option maxRecDepth 100000 in
theorem open_boolv {r : Reach} {b0 : Nat} {v : Value} {d : DataW H} {ps : List MemPlace} (hval : Value.okWide Try.prog w r b0 4 v) (hd : DataW.Trod enc Try.prog w base spare held 4 v d ps) : ∃ b : Bool, v = .bool b :=
  let ⟨b, e, _⟩ := RowKit.open_bool Try.underlying4 hval hd
  ⟨b, e⟩
end
theorem own : ownKnob Try.prog.godebug = none := by kernel_rfl
theorem laidOut : laidOutB Try.prog = true := by kernel_rfl
set_option maxRecDepth 100000 in
theorem contract (H : Type) (enc : TypeId × Value → H) (W : World) (base : Nat) (args : Array Value) (ds gs : List (DataW H)) (before : List MemPlace)
    (hval : ∀ (j : Nat) t v, Try.f3.params[j]? = some t → args[j]? = some v → Value.okWide Try.prog W .any base t v)
    (hW : DataW.Whole enc Try.prog Try.f3.params.toList Rows.headHardSpec.vars false W args.toList ds gs before) :
    Calls Try.prog 3 args W fun e W' => ∃ v, e = .returned v ∧ Rows.headHardSpec.post enc Try.prog Try.f3 false true false false W args v W' := by
  have hW' := hW
  obtain ⟨p, q, hA0, hV, hpq, hfz, hnd⟩ := hW
  have hA : DataW.TrodAll enc Try.prog W 0 (fun _ => true) true Try.f3.params.toList args.toList ds p := hA0
  rw [Try.params3] at hA hval
  obtain ⟨v0, vs0, d0, ds0, p0, q0, hargs, rfl, _, h0, r0⟩ := trodAll_cons hA
  obtain ⟨v1, vs1, d1, ds1, p1, q1, rfl, rfl, _, h1, r1⟩ := trodAll_cons r0
  obtain ⟨v2, vs2, d2, ds2, p2, q2, rfl, rfl, _, h2, r2⟩ := trodAll_cons r1
  obtain ⟨rfl, rfl, _⟩ := trodAll_nil r2
  obtain rfl : args = #[v0, v1, v2] := by cases args; simp_all
  obtain ⟨rfl, _⟩ := trodVars_none hV
  obtain ⟨n0, rfl, rfl, _, w0⟩ := open_int Try.underlying3 (hval 0 3 v0 rfl rfl) h0
  have b0 : -9223372036854775808 ≤ n0 ∧ n0 ≤ 9223372036854775807 := by simpa [Lit.wf, IntKind.min, IntKind.max, IntKind.signed, IntKind.bits] using w0
  obtain ⟨h1, ao1, n1, c1, l1, rfl, k1, i1⟩ := open_hdr (hval 1 33 v1 rfl rfl) h1
  obtain ⟨n2, rfl, rfl, _, w2⟩ := open_int Try.underlying27 (hval 2 27 v2 rfl rfl) h2
  have b2 : 0 ≤ n2 ∧ n2 ≤ 18446744073709551615 := by simpa [Lit.wf, IntKind.min, IntKind.max, IntKind.signed, IntKind.bits] using w2
  obtain ⟨x2, rfl⟩ := u64_of b2
  refine (HeadHard_f k1 i1 n0 x2 W W (whole W) (Hp.whole W) (fun N hN => by first | (have e : N = whole W := List.mem_singleton.1 hN; rw [e]; exact Heaplet.le_refl _) | exact absurd hN List.not_mem_nil | (have e : N = whole W := (by simpa using hN); rw [e]; exact Heaplet.le_refl _))).mono fun e W' hd => ?_
  obtain ⟨v, L1, rfl, ⟨rfl, rfl⟩, hp⟩ := hd
  exact ⟨_, rfl, law_post hW' rfl rfl (by rfl) rfl (fun _ _ _ => shut_bool Try.underlying4 _) (okWide_bool_mk Try.underlying4 _) laidOut (by rw [Try.params3]; decide +kernel) hp.below⟩
set_option maxRecDepth 100000 in
theorem lifted (os : Os) (started : os.Started) (H : Type) (enc : TypeId × Value → H) :
    ReturnsInHanded {} Try.checked os 3 .any (Rows.headHardSpec.pre6 enc Try.prog Try.f3 Rows.headHardRow.domain false) (Rows.headHardSpec.post enc Try.prog Try.f3 false true false false) := by
  refine returnsInHanded_of_change (C := Try.checked) own started (by kernel_rfl) Try.func3
    (ChangeSpec.witness6 (enc := enc) (C := Try.checked) false ⟨#[], #[.int .i64 0, .agg (Value.int .i64 0 :: (List.replicate 436 (Value.int .u8 0) ++ (List.replicate 8 (Value.int .u64 0) ++ Value.slice none 0 0 :: (List.replicate 40 (Value.int .u8 0) ++ (List.replicate 4 (Value.int .u64 0) ++ (List.replicate 32 (Value.int .u8 0) ++ (List.replicate 2 (Value.int .u64 0) ++ List.replicate 32 (Value.int .u8 0)))))))).toArray, .int .u64 0], []⟩ 8 (by kernel_rfl) (by kernel_rfl) (by kernel_rfl) (by kernel_rfl)) ?_
  intro W base args ds gs before hval hW _ _
  exact contract H enc W base args ds gs before hval hW
theorem proved : Rows.HeadHardSaid :=
  OpenClaim.holds_of_wide 3 Try.f3 rfl rfl rfl rfl rfl rfl rfl ⟨rfl, rfl, rfl, rfl, rfl⟩ rfl rfl rfl rfl rfl (by kernel_rfl) Try.func3 (by kernel_rfl)
    (of_decide_eq_true (by kernel_rfl)) (by unfold Func.isWrapper; first | (rw [if_pos (by decide +kernel)]; kernel_rfl) | (rw [if_neg (by decide +kernel)]; exact ⟨rfl, rfl⟩))
    (fun os started H enc _ => lifted os started H enc)
end Go.Proofs.Ytbmlhdecnfplaaa.HeadHard
