/- The law FnExactEscapesOf answers true for every input that its statement speaks of. No condition. -/
import Derived.Test.YtjcodcimodnbjaaRows
import Derived.Test.YtjcodcimodnbjaaQFnExactEscapesOfd
import Derived.Test.YtjcodcimodnbjaaQFnExactEscapesOfwOpen
import Derived.WalkKit
import Derived.ProofKit
import Derived.OpenShut
import Derived.ShutString
import Derived.ChangeOld
import Derived.Below
import Derived.SizedLaws
section
namespace Go.Proofs.Ytjcodcimodnbjaa.fnExactEscapesOf
open Go.ChangeShapes Go.WideShapes Go.ChangeAt Go.RowKit
open Go.ChangeMaps (open_string shut_string)
open Go.Proofs.Ytjcodcimodnbjaa.P Go.Proofs.YtjcodcimodnbjaaW.PrintWords
set_option linter.unusedVariables false
set_option linter.unusedSimpArgs false
theorem own : ownKnob Try.prog.godebug = none:=by kernel_rfl
theorem laidOut : laidOutB Try.prog = true:=by kernel_rfl
theorem opens73 (H : Type) : Opens H Try.prog k73 (fun y=>(y.f0.size ≤ maxLen ∧ (Lit.int .i64 y.f1).wf = true)) 73 :=
 Opens.iso (fun x : S73=>(x.f0,x.f1)) (fun p=>⟨p.1,p.2⟩) (fun _=>rfl) (Opens.struct (size:=2) Try.underlying73 (by kernel_rfl) (OpensF.cons (by kernel_rfl) (Opens.string Try.underlying9) (OpensF.one (by kernel_rfl) (by kernel_rfl) (Opens.int Try.underlying3))))
theorem opens27 (H : Type) : Opens H Try.prog k27 (fun y=>((Lit.int .i64 y.f0).wf = true ∧ (Lit.int .i64 y.f1).wf = true ∧ (Lit.int .i64 y.f2).wf = true)) 27 :=
 Opens.iso (fun x : S27=>(x.f0,x.f1,x.f2)) (fun p=>⟨p.1,p.2.1,p.2.2⟩) (fun _=>rfl) (Opens.struct (size:=3) Try.underlying27 (by kernel_rfl) (OpensF.cons (by kernel_rfl) (Opens.int Try.underlying3) (OpensF.cons (by kernel_rfl) (Opens.int Try.underlying3) (OpensF.one (by kernel_rfl) (by kernel_rfl) (Opens.int Try.underlying3)))))
set_option maxRecDepth 100000 in
theorem lifted (os : Os) (started : os.Started) (H : Type) (enc : TypeId × Value → H) :
  ReturnsInHanded {} Try.checked os 6 .any (Rows.fnExactEscapesOfSpec.pre6 enc Try.prog Try.f6 Rows.fnExactEscapesOfRow.domain false) (Rows.fnExactEscapesOfSpec.post enc Try.prog Try.f6 false true false false):=by
 refine returnsInHanded_of_change_sized (C:=Try.checked) own started (by kernel_rfl) Try.func6
  (ChangeSpec.witness6 (enc:=enc) (C:=Try.checked) false ⟨#[],#[.agg #[.slice none 0 0],.slice none 0 0],[]⟩ 8 (by kernel_rfl) (by kernel_rfl) (by kernel_rfl) (by kernel_rfl)) ?_
 intro W base args ds gs before hval0 hW hcnd hsz0 _
 have hval : ∀ (j : Nat) t v,Try.f6.params[j]? = some t → args[j]? = some v → Value.okWide Try.prog W .any base t v:=hval0
 have hW':=hW
 obtain ⟨p,q,hA0,hV,rfl,hfz,hnd⟩:=hW
 have hA : DataW.TrodAll enc Try.prog W 0 (fun _=>true) true Try.f6.params.toList args.toList ds p:=hA0
 rw [Try.params6] at hA hval
 obtain ⟨v0,vs0,d0,ds0,p0,q0,hargs,rfl,rfl,h0,r0⟩:=trodAll_cons hA
 obtain ⟨v1,vs1,d1,ds1,p1,q1,rfl,rfl,rfl,h1,r1⟩:=trodAll_cons r0
 obtain ⟨rfl,rfl,rfl⟩:=trodAll_nil r1
 obtain rfl : args = #[v0,v1]:=by cases args;simp_all
 obtain ⟨rfl,rfl⟩:=trodVars_none hV
 have k0:=h0
 have lt0 : ∀ x ∈ p0,x.block < W.heap.size:=by obtain ⟨m,hm⟩:=k0;exact DataW.trod_lt m _ _ _ hm
 obtain ⟨fuel0,hf0⟩:=h0
 obtain ⟨cs0,rfl,_⟩:=okWide_struct Try.underlying24 (hval 0 24 v0 rfl rfl)
 obtain ⟨z0,K0,G0⟩:=(Opens.struct (size:=1) Try.underlying24 (by kernel_rfl) (OpensF.one (by kernel_rfl) (by kernel_rfl) (Opens.slice 73 Try.underlying22 (by kernel_rfl) (opens73 H)))) enc W _ _ _ hf0
 have K0_0:=K0
 have G0_0:=G0
 obtain ⟨A0_0,c0_0,q0_0,hc0_0,hr0_0⟩:=K0_0
 obtain rfl : cs0 = #[.slice A0_0 (z0).length c0_0]:=Array.toList_inj.1 q0_0
 have k1:=h1
 have lt1 : ∀ x ∈ p1,x.block < W.heap.size:=by obtain ⟨m,hm⟩:=k1;exact DataW.trod_lt m _ _ _ hm
 obtain ⟨fuel1,hf1⟩:=h1
 obtain ⟨b1,len1,cap1,rfl⟩:=okWide_slice Try.underlying25 (hval 1 25 v1 rfl rfl)
 obtain ⟨l1,⟨A1,c1,e1,hc1,hr1⟩,g1⟩:=(Opens.slice 27 Try.underlying25 (by kernel_rfl) (opens27 H)) enc W _ _ _ hf1
 simp only [Value.cells,List.cons.injEq,and_true] at e1
 obtain ⟨rfl,rfl,rfl⟩:=Value.slice.inj e1
 clear hA0 hval0 hsz0
 obtain ⟨k,hP⟩:=Pure.FnExactEscapesOf (z0) (l1) G0_0 g1
 refine (laws_FnExactEscapesOf.calls k _ _ (z0) _ _ (l1) true W hr0_0 hc0_0 hr1 hc1 hP).mono fun e W' ⟨he,bel⟩=>?_
 subst he
 exact ⟨_,rfl,_,_,_,[],_,[],hW',trodAll_mk1 (shut_bool Try.underlying4 _),(trodAll_cons_mk (Below.trod laidOut (by kernel_rfl) (of_decide_eq_true (by kernel_rfl)) k0 bel lt0) (trodAll_cons_mk (Below.trod laidOut (by kernel_rfl) (of_decide_eq_true (by kernel_rfl)) k1 bel lt1) trodAll_mk0)),rfl,bel.frame _,fun h=>by cases h⟩
theorem named_ : Try.pinned.checked.prog.funcNamed Rows.fnExactEscapesOfRow.func = some 6:=by kernel_rfl
set_option maxHeartbeats 4000000 in
theorem closed_ : joinedFacts Try.pinned.checked.prog 6 Try.f6 Rows.fnExactEscapesOfSpec Rows.fnExactEscapesOfRow = true:=by
 unfold joinedFacts
 repeat' with_reducible refine Bool.and_eq_true_iff.2 ⟨?_,?_⟩
 all_goals as_aux_lemma=>kernel_rfl
theorem wrap_ : Try.f6.isWrapper Try.pinned.checked.prog Rows.fnExactEscapesOfRow.wrapper Rows.fnExactEscapesOfRow.mainSum:=by
 unfold Func.isWrapper
 first | (rw [if_pos (by decide +kernel)];kernel_rfl) | (rw [if_neg (by decide +kernel)];exact ⟨rfl,rfl⟩)
theorem inst_ : Try.f6.isInstance Try.pinned.checked.prog Rows.fnExactEscapesOfRow.origin Rows.fnExactEscapesOfRow.targs:=of_decide_eq_true (by kernel_rfl)
theorem over : Rows.fnExactEscapesOfRow.holds Try.pinned (OpenSpec.ofChange Rows.fnExactEscapesOfSpec) :=
 OpenClaim.holds_of_wide 6 Try.f6 rfl rfl rfl rfl rfl rfl rfl ⟨rfl,rfl,rfl,rfl,rfl⟩ rfl rfl rfl rfl rfl named_ Try.func6 closed_ inst_ wrap_
  (fun os started H enc _=>lifted os started H enc)
theorem proved : Rows.FnExactEscapesOfSaid:=over
#print axioms proved
end Go.Proofs.Ytjcodcimodnbjaa.fnExactEscapesOf
namespace Go.Proofs.Ytjcodcimodnbjaa
theorem fnExactEscapesOf_holds : Rows.FnExactEscapesOfSaid:=fnExactEscapesOf.proved
end Go.Proofs.Ytjcodcimodnbjaa
end
