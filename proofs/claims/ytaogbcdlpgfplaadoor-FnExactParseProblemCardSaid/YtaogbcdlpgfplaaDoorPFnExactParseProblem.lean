/- The law 'FnExactParseProblem' answers true for every input, and each argument reads afterwards as it read before; the card ties the listed variables. Conditions: none. -/
import Derived.Test.YtaogbcdlpgfplaaDoorPpL
import Derived.Test.YtaogbcdlpgfplaaDoorCards
import Derived.Test.YtaogbcdlpgfplaaDoorTie
import Derived.WalkKit
import Derived.ProofKit
import Derived.OpenShut
import Derived.ShutString
import Derived.ChangeOld
import Derived.Below
import Derived.LaidMore
import Derived.Lay
import Derived.LaidOnce
import Derived.PinnedBridge
import Derived.LaidHandle
import Derived.MakeChecks
import Derived.Stop.LaidErr
import Derived.Shelf.Vars
import Derived.SevenTiedAt
namespace Go.Proofs.YtaogbcdlpgfplaaDoor.fnExactParseProblem
open Go.ChangeShapes Go.WideShapes Go.ChangeAt Go.RowKit
set_option linter.unusedVariables false
theorem own:ownKnob Tryd.prog.godebug=none:=by kernel_rfl
theorem laidOut:laidOutB Tryd.prog=true:=by kernel_rfl
theorem bT(W:World)(hL:laidMet Tryd.prog Rows.fnExactParseProblemRow.laid W):Lib.TabIs Tryd.prog W "internal/strconv.uint64pow10" .u64 Lib.pow10Tab:=
 Lib.tabIs_of_head (g:=2) (t:=133) (e:=109) (n:=20) (by kernel_rfl) (by kernel_rfl) (by kernel_rfl) (by kernel_rfl) (by kernel_rfl) (by kernel_rfl) ((hL).tail).tail
theorem Me: "*" ++ "errors.errorString" = "*errors.errorString" :=by decide
theorem errRow(u:TypeId)(h:Tryd.prog.typeName? 3 u=some "*errors.errorString"):u=138:=
 typeName_ptr_named (nm:= "errors.errorString") (by rw [Me];kernel_rfl) (by kernel_rfl) (by decide) u (by rw [Me];exact h)
theorem vars(W:World)(hL:laidMet Tryd.prog Rows.fnExactParseProblemRow.laid W)(hsh:W.ShapedOpen Tryd.prog): ∀p∈Y.T.vars,∃o,W.heap[p.1]? =some o∧p.2 o:=by
 intro p hp
 have hp':p∈Ak.vars:=hp
 unfold Ak at hp'
 simp only [List.mem_cons,List.not_mem_nil,or_false]at hp'
 rcases hp' with rfl|rfl|rfl|rfl
 ·have h:=bT W hL
  unfold Lib.TabIs World.var? at h
  rw [show Tryd.prog.globalNamed "internal/strconv.uint64pow10" =some 2 by kernel_rfl,Option.bind_some]at h
  simp only
  split at h
  ·rename_i cs t x ho
   injection h with h
   subst h
   exact⟨_,ho,t,x,rfl⟩
  ·cases h
 ·obtain⟨m,hm⟩:=Go.Proofs.cell_of_shapedOpen_int (g:=3) (t:=3) (zero:= #[.int .i64 0]) hsh (of_decide_eq_true (by kernel_rfl)) (by kernel_rfl) rfl (by kernel_rfl) (by kernel_rfl) (by kernel_rfl)
  obtain⟨cs,t,x,h1,h2⟩:=Dv.obj_of_cell hm
  exact⟨_,h1,cs,t,x,m,rfl,h2⟩
 ·obtain⟨a,s,h1,_⟩:=laid_sentinel (g:=0) (ti:=62) (tp:=138) (te:=140) (ts:=9) (((((hL).tail).tail).tail).tail).tail (by kernel_rfl) (by kernel_rfl) Tryd.underlying62 errRow Tryd.underlying138 Tryd.underlying140 rfl rfl Tryd.underlying9 (by kernel_rfl) (by kernel_rfl)
  obtain⟨cs,t,x,h2,h3⟩:=Dv.obj_of_cell (World.var?_cell (show Tryd.prog.globalNamed "strconv.ErrSyntax" =some 0 by kernel_rfl) h1 0)
  exact⟨_,h2,cs,t,x,_,rfl,h3, .inr ⟨_,_,rfl⟩⟩
 ·obtain⟨a,s,h1,_⟩:=laid_sentinel (g:=1) (ti:=62) (tp:=138) (te:=140) (ts:=9) ((((hL).tail).tail).tail).tail (by kernel_rfl) (by kernel_rfl) Tryd.underlying62 errRow Tryd.underlying138 Tryd.underlying140 rfl rfl Tryd.underlying9 (by kernel_rfl) (by kernel_rfl)
  obtain⟨cs,t,x,h2,h3⟩:=Dv.obj_of_cell (World.var?_cell (show Tryd.prog.globalNamed "strconv.ErrRange" =some 1 by kernel_rfl) h1 0)
  exact⟨_,h2,cs,t,x,_,rfl,h3, .inr ⟨_,_,rfl⟩⟩
theorem wrap{H:Type}{enc:TypeId×Value→H}{a:Assume}{C:Checked}{os:Os}{f:FuncId}{fn:Func}{s:ChangeSpec}{conds:List PathCond}{apart fresh handsOn again:Bool}{X:World→Array Value→Prop}
  (hX: ∀(w w':World) (args:Array Value),w.heap=w'.heap→X w args→X w' args)
  (own:ownKnob C.prog.godebug=none)(started:os.Started)(noInit:C.prog.inits.idxOf? f=none)(hfn:C.prog.funcs[f]? =some fn)
  (witness: ∃(w:World) (tape:Tape) (i:Input),w.os=os∧(w.forCall tape i).Shaped C.prog∧i.vars=[]∧Input.okWide C.prog (w.forCall tape i) .any w.heap.size f i∧
   ((s.pre enc C.prog fn conds apart (w.forCall tape i).memory i.args∧X (w.forCall tape i).memory i.args)∧sizedMet enc C.prog fn (OpenSpec.ofChange s) apart (w.forCall tape i).memory i.args)∧a.holds C.prog (lone (Frame.enter C.prog f i.args .normal) [] (w.forCall tape i)))
  (contract: ∀(W:World) (base:Nat) (args:Array Value) (ds gs:List (DataW H)) (before:List MemPlace),
   (∀(j:Nat) t v,fn.params[j]? =some t→args[j]? =some v→Value.okWide C.prog W .any base t v)→
   DataW.Whole enc C.prog fn.params.toList s.vars apart W args.toList ds gs before→X W args→W.ShapedOpen C.prog→
   Calls C.prog f args W fun e W'=> ∃v,e= .returned v∧s.post enc C.prog fn apart fresh handsOn again W args v W'):
  ReturnsInHanded a C os f .any (fun w args=>(s.pre enc C.prog fn conds apart w args∧X w args)∧sizedMet enc C.prog fn (OpenSpec.ofChange s) apart w args) (s.post enc C.prog fn apart fresh handsOn again):=by
 refine returnsInHanded_of_calls own started noInit witness ?_
 intro w tape i _ hsh _ hok hpre hholds
 obtain⟨_,_,_,fn',hfn',_,_,_,_,hval⟩:=hok
 have e:fn'=fn:=Option.some.inj (hfn'.symm.trans hfn)
 subst e
 obtain⟨⟨⟨ds,gs,before,hw,hc⟩,hx⟩,hz⟩:=hpre
 have hw':=DataW.Whole.of_heap (w':=w.forCall tape i) (by rfl) hw
 refine(contract (w.forCall tape i) w.heap.size i.args ds gs before hval hw' (hX _ _ _ (by rfl) hx) hsh).mono fun e W' ⟨v,he,hp⟩=> ?_
 subst he
 exact ChangeSpec.post_blind hp
set_option maxRecDepth 100000 in
theorem lifted(os:Os)(started:os.Started)(H:Type)(enc:TypeId×Value→H):
  ReturnsInHanded {} Tryd.checked os 6 .any (fun w args=>(Rows.fnExactParseProblemSpec.pre enc Tryd.prog Tryd.f6 [] false w args∧laidMetH Tryd.prog Rows.fnExactParseProblemRow.laid w)∧sizedMet enc Tryd.prog Tryd.f6 (OpenSpec.ofChange Rows.fnExactParseProblemSpec) false w args) (Rows.fnExactParseProblemSpec.post enc Tryd.prog Tryd.f6 false true false false):=by
 refine wrap (C:=Tryd.checked) (X:=fun w _=>laidMetH Tryd.prog Rows.fnExactParseProblemRow.laid w) (fun _ _ _ hh h=>h.of_heap hh) own started (by kernel_rfl) Tryd.func6
  (ChangeSpec.witness_shaped (enc:=enc) (C:=Tryd.checked) (os:=os) (X:=fun w _=>laidMetH Tryd.prog Rows.fnExactParseProblemRow.laid w) false (World.laidAll Tryd.prog os Rows.fnExactParseProblemRow.laid) #[.string ⟨#[]⟩] 8 (World.laidAll_os _ _ _) (World.shaped_of_ZipB (by kernel_rfl) (by kernel_rfl)) (by kernel_rfl) (by kernel_rfl) (by kernel_rfl) (by rw [MakeChecks.laidMetH_plain _ _ _ (by kernel_rfl)];exact laidMet_laidAll _ (by kernel_rfl) (by kernel_rfl))) ?_
 intro W base args ds gs before hval0 hW hLH hsh
 have hL:laidMet Tryd.prog Rows.fnExactParseProblemRow.laid W:=by rw [MakeChecks.laidMetH_plain _ _ _ (by kernel_rfl)]at hLH;exact hLH
 have hW':=hW
 obtain⟨p,q,hA0,hV,rfl,hfz,hnd⟩:=hW
 have hA:DataW.TrodAll enc Tryd.prog W 0 (fun _=>true) true [9] args.toList ds p:=hA0
 have hval: ∀(j:Nat) (t:TypeId) (v:Value),[9][j]? =some t→args.toList[j]? =some v→Value.okWide Tryd.prog W .any base t v:=
  fun j t v hj hv=>hval0 j t v (by rw [Tryd.params6];simpa using hj) (by simpa using hv)
 obtain⟨rfl,rfl⟩:=trodVars_none hV
 obtain⟨hl,_⟩:=Dv.trodAll_len hA
 rcases ds with _|⟨e0,_|⟨_,_⟩⟩<;>simp at hl
 obtain⟨dd,h1,h2,h3⟩:=Dv.args_W (n:=6) vK _ _ _ _ (by kernel_rfl) hval hA
 refine(Dv.law_callsV yOk (ZU dd h1) (vs:=args) (w:=W) (by simpa using h2) (fun i d hi=>by obtain⟨v,hv,hw⟩:=h3 i d hi;exact⟨v,by simpa using hv,hw⟩) (vars W hL hsh)).mono fun e W' ⟨he,bel⟩=> ?_
 subst he
 exact⟨_,rfl,_,_,_,[],_,[],hW',trodAll_mk1 (shut_bool Tryd.underlying4 _),Dv.trodAll_below laidOut bel (by kernel_rfl) hA,rfl,bel.frame _,fun h=>by cases h⟩
theorem over:Rows.fnExactParseProblemRow.holds Tryd.pinned (OpenSpec.ofChange Rows.fnExactParseProblemSpec):=
 OpenClaim.holds_of_wide 6 Tryd.f6 rfl rfl rfl rfl rfl rfl rfl ⟨rfl,rfl,rfl,rfl,rfl⟩ rfl rfl rfl rfl rfl (by kernel_rfl) Tryd.func6 (by kernel_rfl)
  (of_decide_eq_true (by kernel_rfl)) (by unfold Func.isWrapper;first|(rw [if_pos (by decide+kernel)];kernel_rfl)|(rw [if_neg (by decide+kernel)];exact⟨rfl,rfl⟩))
  (fun os started H enc _=>lifted os started H enc)
theorem proved:Rows.FnExactParseProblemCardSaid:=
 Claim7.holds_tied_plain_at .later [] [.data, .data, .data, .data, .sentinel, .sentinel, .pinned] true (true, "80f0a7403ca258d5f9e14ec229b8504510fa57147c1191fad6ecc875468731e6") true
  over (fun _ h=>by cases h) (by kernel_rfl) (fun _ h=>by cases h) fnExactParseProblem_row_tie rfl ⟨rfl,rfl⟩ (by kernel_rfl) rfl
  (fun f fn hf hfn=>by
   obtain rfl:f=6:=Option.some.inj ((show Tryd.prog.funcNamed "loop.example/g01084/laws.FnExactParseProblem" =some 6 by kernel_rfl).symm.trans hf) |>.symm
   obtain rfl:fn=Tryd.f6:=(Option.some.inj (Tryd.func6.symm.trans hfn)).symm
   exact⟨by kernel_rfl,fun j t ht=>by
    rw [Tryd.params6]at ht
    have hm:t∈[9]:=by simpa using Array.mem_of_getElem? ht
    have hall:([9].all fun u=> !Tryd.prog.wantsStandIn u)=true:=by kernel_rfl
    exact(show Tryd.prog.wantsStandIn t=false by simpa using List.all_eq_true.1 hall t hm)⟩)
  (by kernel_rfl)
#print axioms proved
end Go.Proofs.YtaogbcdlpgfplaaDoor.fnExactParseProblem
