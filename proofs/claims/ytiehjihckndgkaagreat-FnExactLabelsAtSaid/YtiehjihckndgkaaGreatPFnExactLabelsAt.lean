/- The law 'FnExactLabelsAt' answers true for every input, and each argument reads afterwards as it read before. Conditions: none. -/
import Derived.Test.YtiehjihckndgkaaGreatLaL
import Derived.WalkKit
import Derived.ProofKit
import Derived.OpenShut
import Derived.ShutString
import Derived.ChangeOld
import Derived.Below
namespace Go.Proofs.YtiehjihckndgkaaGreat.fnExactLabelsAt
open Go.ChangeShapes Go.WideShapes Go.ChangeAt Go.RowKit
set_option linter.unusedVariables false
theorem own:ownKnob Tryz.prog.godebug=none:=by kernel_rfl
theorem laidOut:laidOutB Tryz.prog=true:=by kernel_rfl
set_option maxRecDepth 100000 in
theorem lifted(os:Os)(started:os.Started)(H:Type)(enc:TypeId×Value→H):
  ReturnsInHanded {} Tryz.checked os 5 .any (Rows.fnExactLabelsAtSpec.pre6 enc Tryz.prog Tryz.f5 Rows.fnExactLabelsAtRow.domain false) (Rows.fnExactLabelsAtSpec.post enc Tryz.prog Tryz.f5 false true false false):=by
 refine returnsInHanded_of_change (C:=Tryz.checked) own started (by kernel_rfl) Tryz.func5
  (ChangeSpec.witness6 (enc:=enc) (C:=Tryz.checked) false ⟨#[], #[.agg #[.int .i64 0,.int .i64 0,.slice none 0 0,.slice none 0 0],.agg #[.slice none 0 0,.slice none 0 0,.slice none 0 0],.int .i64 0,.int .i64 0],[]⟩ 8 (by kernel_rfl) (by kernel_rfl) (by kernel_rfl) (by kernel_rfl)) ?_
 intro W base args ds gs before hval0 hW hcnd _;have hW':=hW;obtain⟨p,q,hA0,hV,rfl,hfz,hnd⟩:=hW;have hA:DataW.TrodAll enc Tryz.prog W 0 (fun _=>true) true [24,28,3,3] args.toList ds p:=hA0
 have hval: ∀(j:Nat) (t:TypeId) (v:Value),[24,28,3,3][j]? =some t→args.toList[j]? =some v→Value.okWide Tryz.prog W .any base t v:=
  fun j t v hj hv=>hval0 j t v (by rw [Tryz.params5];simpa using hj) (by simpa using hv)
 obtain⟨rfl,rfl⟩:=trodVars_none hV;obtain⟨hl,_⟩:=Dv.trodAll_len hA;rcases ds with _|⟨e0,_|⟨e1,_|⟨e2,_|⟨e3,_|⟨_,_⟩⟩⟩⟩⟩<;>simp at hl
 obtain⟨dd,h1,h2,h3⟩:=Dv.args_W (n:=6) ADH _ _ _ _ (by kernel_rfl) hval hA
 refine(Dv.law_calls yOk (A6U dd h1) (vs:=args) (w:=W) (by simpa using h2) (fun i d hi=>by obtain⟨v,hv,hw⟩:=h3 i d hi;exact⟨v,by simpa using hv,hw⟩)).mono fun e W' ⟨he,bel⟩=> ?_
 subst he
 exact⟨_,rfl,_,_,_,[],_,[],hW',trodAll_mk1 (shut_bool Tryz.underlying4 _),Dv.trodAll_below laidOut bel (by kernel_rfl) hA,rfl,bel.frame _,fun h=>by cases h⟩
theorem over:Rows.fnExactLabelsAtRow.holds Tryz.pinned (OpenSpec.ofChange Rows.fnExactLabelsAtSpec):=
 OpenClaim.holds_of_wide 5 Tryz.f5 rfl rfl rfl rfl rfl rfl rfl ⟨rfl,rfl,rfl,rfl,rfl⟩ rfl rfl rfl rfl rfl (by kernel_rfl) Tryz.func5 (by kernel_rfl)
  (of_decide_eq_true (by kernel_rfl)) (by unfold Func.isWrapper;first|(rw [if_pos (by decide+kernel)];kernel_rfl)|(rw [if_neg (by decide+kernel)];exact⟨rfl,rfl⟩))
  (fun os started H enc _=>lifted os started H enc)
theorem proved:Rows.FnExactLabelsAtSaid:=over
#print axioms proved
end Go.Proofs.YtiehjihckndgkaaGreat.fnExactLabelsAt
