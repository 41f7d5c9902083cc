/- The law FnExactUnfoldTrace answers true for every input that its statement speaks of. No condition. -/
import Derived.Test.YtacgehaipacehaaRows
import Derived.Test.YtacgehaipacehaaQFnExactUnfoldTracec
import Derived.Test.YtacgehaipacehaaQFnExactUnfoldTracewOpen
import Derived.WalkKit
import Derived.ProofKit
import Derived.OpenShut
import Derived.ShutString
import Derived.ChangeOld
import Derived.Below
import Derived.SizedLaws
section
namespace Go.Proofs.Ytacgehaipacehaa.fnExactUnfoldTrace
open Go.ChangeShapes Go.WideShapes Go.ChangeAt Go.RowKit
open Go.ChangeMaps (open_string shut_string)
open Go.Proofs.Ytacgehaipacehaa.P Go.Proofs.YtacgehaipacehaaW.PrintWords
set_option linter.unusedVariables false
set_option linter.unusedSimpArgs false
theorem own : ownKnob Try.prog.godebug = none:=by kernel_rfl
theorem laidOut : laidOutB Try.prog = true:=by kernel_rfl
theorem opens107 (H : Type) : Opens H Try.prog k107 (fun y=>(y.f0.size ≤ maxLen ∧ (Lit.int .i64 y.f1).wf = true)) 107 :=
 Opens.iso (fun x : S107=>(x.f0,x.f1)) (fun p=>⟨p.1,p.2⟩) (fun _=>rfl) (Opens.struct (size:=2) Try.underlying107 (by kernel_rfl) (OpensF.cons (by kernel_rfl) (Opens.string Try.underlying9) (OpensF.one (by kernel_rfl) (by kernel_rfl) (Opens.int Try.underlying3))))
theorem opens109 (H : Type) : Opens H Try.prog k109 (fun y=>((y.f0.f0.size ≤ maxLen ∧ (Lit.int .i64 y.f0.f1).wf = true) ∧ (Lit.int .i64 y.f1).wf = true)) 109 :=
 Opens.iso (fun x : S109=>(x.f0,x.f1)) (fun p=>⟨p.1,p.2⟩) (fun _=>rfl) (Opens.struct (size:=3) Try.underlying109 (by kernel_rfl) (OpensF.cons (by kernel_rfl) (opens107 H) (OpensF.one (by kernel_rfl) (by kernel_rfl) (Opens.int Try.underlying3))))
set_option maxRecDepth 100000 in
theorem lifted (os : Os) (started : os.Started) (H : Type) (enc : TypeId × Value → H) :
  ReturnsInHanded {} Try.checked os 5 .any (Rows.fnExactUnfoldTraceSpec.pre6 enc Try.prog Try.f5 Rows.fnExactUnfoldTraceRow.domain false) (Rows.fnExactUnfoldTraceSpec.post enc Try.prog Try.f5 false true false false):=by
 refine returnsInHanded_of_change_sized (C:=Try.checked) own started (by kernel_rfl) Try.func5
  (ChangeSpec.witness6 (enc:=enc) (C:=Try.checked) false ⟨#[],#[.slice none 0 0],[]⟩ 8 (by kernel_rfl) (by kernel_rfl) (by kernel_rfl) (by kernel_rfl)) ?_
 intro W base args ds gs before hval0 hW hcnd hsz0 _
 have hval : ∀ (j : Nat) t v,Try.f5.params[j]? = some t → args[j]? = some v → Value.okWide Try.prog W .any base t v:=hval0
 have hW':=hW
 obtain ⟨p,q,hA0,hV,rfl,hfz,hnd⟩:=hW
 have hA : DataW.TrodAll enc Try.prog W 0 (fun _=>true) true Try.f5.params.toList args.toList ds p:=hA0
 rw [Try.params5] at hA hval
 obtain ⟨v0,vs0,d0,ds0,p0,q0,hargs,rfl,rfl,h0,r0⟩:=trodAll_cons hA
 obtain ⟨rfl,rfl,rfl⟩:=trodAll_nil r0
 obtain rfl : args = #[v0]:=by cases args;simp_all
 obtain ⟨rfl,rfl⟩:=trodVars_none hV
 have k0:=h0
 have lt0 : ∀ x ∈ p0,x.block < W.heap.size:=by obtain ⟨m,hm⟩:=k0;exact DataW.trod_lt m _ _ _ hm
 obtain ⟨fuel0,hf0⟩:=h0
 obtain ⟨b0,len0,cap0,rfl⟩:=okWide_slice Try.underlying49 (hval 0 49 v0 rfl rfl)
 obtain ⟨l0,⟨A0,c0,e0,hc0,hr0⟩,g0⟩:=(Opens.slice 109 Try.underlying49 (by kernel_rfl) (opens109 H)) enc W _ _ _ hf0
 simp only [Value.cells,List.cons.injEq,and_true] at e0
 obtain ⟨rfl,rfl,rfl⟩:=Value.slice.inj e0
 clear hA0 hval0 hsz0
 obtain ⟨k,hP⟩:=Pure.FnExactUnfoldTrace (l0) g0
 refine (laws_FnExactUnfoldTrace.calls k _ _ (l0) true W hr0 hc0 hP).mono fun e W' ⟨he,bel⟩=>?_
 subst he
 exact ⟨_,rfl,_,_,_,[],_,[],hW',trodAll_mk1 (shut_bool Try.underlying4 _),(trodAll_cons_mk (Below.trod laidOut (by kernel_rfl) (of_decide_eq_true (by kernel_rfl)) k0 bel lt0) trodAll_mk0),rfl,bel.frame _,fun h=>by cases h⟩
theorem named_ : Try.pinned.checked.prog.funcNamed Rows.fnExactUnfoldTraceRow.func = some 5:=by kernel_rfl
set_option maxHeartbeats 4000000 in
theorem closed_ : joinedFacts Try.pinned.checked.prog 5 Try.f5 Rows.fnExactUnfoldTraceSpec Rows.fnExactUnfoldTraceRow = true:=by
 unfold joinedFacts
 repeat' with_reducible refine Bool.and_eq_true_iff.2 ⟨?_,?_⟩
 all_goals as_aux_lemma=>kernel_rfl
theorem wrap_ : Try.f5.isWrapper Try.pinned.checked.prog Rows.fnExactUnfoldTraceRow.wrapper Rows.fnExactUnfoldTraceRow.mainSum:=by
 unfold Func.isWrapper
 first | (rw [if_pos (by decide +kernel)];kernel_rfl) | (rw [if_neg (by decide +kernel)];exact ⟨rfl,rfl⟩)
theorem inst_ : Try.f5.isInstance Try.pinned.checked.prog Rows.fnExactUnfoldTraceRow.origin Rows.fnExactUnfoldTraceRow.targs:=of_decide_eq_true (by kernel_rfl)
theorem over : Rows.fnExactUnfoldTraceRow.holds Try.pinned (OpenSpec.ofChange Rows.fnExactUnfoldTraceSpec) :=
 OpenClaim.holds_of_wide 5 Try.f5 rfl rfl rfl rfl rfl rfl rfl ⟨rfl,rfl,rfl,rfl,rfl⟩ rfl rfl rfl rfl rfl named_ Try.func5 closed_ inst_ wrap_
  (fun os started H enc _=>lifted os started H enc)
theorem proved : Rows.FnExactUnfoldTraceSaid:=over
#print axioms proved
end Go.Proofs.Ytacgehaipacehaa.fnExactUnfoldTrace
namespace Go.Proofs.Ytacgehaipacehaa
theorem fnExactUnfoldTrace_holds : Rows.FnExactUnfoldTraceSaid:=fnExactUnfoldTrace.proved
end Go.Proofs.Ytacgehaipacehaa
end
