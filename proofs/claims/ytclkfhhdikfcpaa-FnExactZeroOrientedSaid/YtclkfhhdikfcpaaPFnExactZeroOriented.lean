/- The law 'FnExactZeroOriented' answers true for every input, and each argument reads afterwards as it read before. Conditions: none. -/
import Derived.Test.YtclkfhhdikfcpaaZorL
import Derived.WalkKit
import Derived.ProofKit
import Derived.OpenShut
import Derived.ShutString
import Derived.ChangeOld
import Derived.Below
namespace Go.Proofs.Ytclkfhhdikfcpaa.fnExactZeroOriented
open Go.ChangeShapes Go.WideShapes Go.ChangeAt Go.RowKit
set_option linter.unusedVariables false
theorem own:ownKnob Try.prog.godebug=none:=by kernel_rfl
theorem laidOut:laidOutB Try.prog=true:=by kernel_rfl
set_option maxRecDepth 100000 in
theorem lifted(os:Os)(started:os.Started)(H:Type)(enc:TypeId×Value→H):
  ReturnsInHanded {} Try.checked os 4 .any (Rows.fnExactZeroOrientedSpec.pre6 enc Try.prog Try.f4 Rows.fnExactZeroOrientedRow.domain false) (Rows.fnExactZeroOrientedSpec.post enc Try.prog Try.f4 false true false false):=by
 refine returnsInHanded_of_change (C:=Try.checked) own started (by kernel_rfl) Try.func4
  (ChangeSpec.witness6 (enc:=enc) (C:=Try.checked) false ⟨#[], #[.agg #[.int .i64 0,.int .i64 0,.slice none 0 0,.slice none 0 0]],[]⟩ 8 (by kernel_rfl) (by kernel_rfl) (by kernel_rfl) (by kernel_rfl)) ?_
 intro W base args ds gs before hval0 hW hcnd _;have hW':=hW;obtain⟨p,q,hA0,hV,rfl,hfz,hnd⟩:=hW;have hA:DataW.TrodAll enc Try.prog W 0 (fun _=>true) true [24] args.toList ds p:=hA0
 have hval: ∀(j:Nat) (t:TypeId) (v:Value),[24][j]? =some t→args.toList[j]? =some v→Value.okWide Try.prog W .any base t v:=
  fun j t v hj hv=>hval0 j t v (by rw [Try.params4];simpa using hj) (by simpa using hv)
 obtain⟨rfl,rfl⟩:=trodVars_none hV;obtain⟨hl,_⟩:=Dv.trodAll_len hA;rcases ds with _|⟨e0,_|⟨_,_⟩⟩<;>simp at hl
 obtain⟨dd,h1,h2,h3⟩:=Dv.args_W (n:=6) qO _ _ _ _ (by kernel_rfl) hval hA
 refine(Dv.law_calls yOk (nk dd h1) (vs:=args) (w:=W) (by simpa using h2) (fun i d hi=>by obtain⟨v,hv,hw⟩:=h3 i d hi;exact⟨v,by simpa using hv,hw⟩)).mono fun e W' ⟨he,bel⟩=> ?_
 subst he
 exact⟨_,rfl,_,_,_,[],_,[],hW',trodAll_mk1 (shut_bool Try.underlying4 _),Dv.trodAll_below laidOut bel (by kernel_rfl) hA,rfl,bel.frame _,fun h=>by cases h⟩
theorem over:Rows.fnExactZeroOrientedRow.holds Try.pinned (OpenSpec.ofChange Rows.fnExactZeroOrientedSpec):=
 OpenClaim.holds_of_wide 4 Try.f4 rfl rfl rfl rfl rfl rfl rfl ⟨rfl,rfl,rfl,rfl,rfl⟩ rfl rfl rfl rfl rfl (by kernel_rfl) Try.func4 (by kernel_rfl)
  (of_decide_eq_true (by kernel_rfl)) (by unfold Func.isWrapper;first|(rw [if_pos (by decide+kernel)];kernel_rfl)|(rw [if_neg (by decide+kernel)];exact⟨rfl,rfl⟩))
  (fun os started H enc _=>lifted os started H enc)
theorem proved:Rows.FnExactZeroOrientedSaid:=over
#print axioms proved
end Go.Proofs.Ytclkfhhdikfcpaa.fnExactZeroOriented
