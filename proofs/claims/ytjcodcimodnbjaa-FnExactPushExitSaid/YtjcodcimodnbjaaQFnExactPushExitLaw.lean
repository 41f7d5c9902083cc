/- The law FnExactPushExit answers true for every input that its statement speaks of. No condition. -/
import Derived.Test.YtjcodcimodnbjaaRows
import Derived.Test.YtjcodcimodnbjaaQFnExactPushExitc
import Derived.Test.YtjcodcimodnbjaaWOpen
import Derived.WalkKit
import Derived.ProofKit
import Derived.OpenShut
import Derived.ShutString
import Derived.ChangeOld
import Derived.Below
import Derived.SizedLaws
section
namespace Go.Proofs.Ytjcodcimodnbjaa.fnExactPushExit
open Go.ChangeShapes Go.WideShapes Go.ChangeAt Go.RowKit
open Go.ChangeMaps (open_string shut_string)
open Go.Proofs.Ytjcodcimodnbjaa.P Go.Proofs.YtjcodcimodnbjaaW.PrintWords
set_option linter.unusedVariables false
set_option linter.unusedSimpArgs false
theorem own : ownKnob Try.prog.godebug = none:=by kernel_rfl
theorem laidOut : laidOutB Try.prog = true:=by kernel_rfl
theorem opens73 (H : Type) : Opens H Try.prog k73 (fun y=>(y.f0.size ≤ maxLen ∧ (Lit.int .i64 y.f1).wf = true)) 73 :=
 Opens.iso (fun x : S73=>(x.f0,x.f1)) (fun p=>⟨p.1,p.2⟩) (fun _=>rfl) (Opens.struct (size:=2) Try.underlying73 (by kernel_rfl) (OpensF.cons (by kernel_rfl) (Opens.string Try.underlying9) (OpensF.one (by kernel_rfl) (by kernel_rfl) (Opens.int Try.underlying3))))
theorem opens27 (H : Type) : Opens H Try.prog k27 (fun y=>((Lit.int .i64 y.f0).wf = true ∧ (Lit.int .i64 y.f1).wf = true ∧ (Lit.int .i64 y.f2).wf = true)) 27 :=
 Opens.iso (fun x : S27=>(x.f0,x.f1,x.f2)) (fun p=>⟨p.1,p.2.1,p.2.2⟩) (fun _=>rfl) (Opens.struct (size:=3) Try.underlying27 (by kernel_rfl) (OpensF.cons (by kernel_rfl) (Opens.int Try.underlying3) (OpensF.cons (by kernel_rfl) (Opens.int Try.underlying3) (OpensF.one (by kernel_rfl) (by kernel_rfl) (Opens.int Try.underlying3)))))
set_option maxRecDepth 100000 in
theorem lifted (os : Os) (started : os.Started) (H : Type) (enc : TypeId × Value → H) :
  ReturnsInHanded {} Try.checked os 3 .any (Rows.fnExactPushExitSpec.pre6 enc Try.prog Try.f3 Rows.fnExactPushExitRow.domain false) (Rows.fnExactPushExitSpec.post enc Try.prog Try.f3 false true false false):=by
 refine returnsInHanded_of_change_sized (C:=Try.checked) own started (by kernel_rfl) Try.func3
  (ChangeSpec.witness6 (enc:=enc) (C:=Try.checked) false ⟨#[],#[.agg #[.slice none 0 0],.slice none 0 0,.agg #[.int .i64 0,.int .i64 0,.int .i64 0]],[]⟩ 8 (by kernel_rfl) (by kernel_rfl) (by kernel_rfl) (by kernel_rfl)) ?_
 intro W base args ds gs before hval0 hW hcnd hsz0 _
 have hval : ∀ (j : Nat) t v,Try.f3.params[j]? = some t → args[j]? = some v → Value.okWide Try.prog W .any base t v:=hval0
 have hW':=hW
 obtain ⟨p,q,hA0,hV,rfl,hfz,hnd⟩:=hW
 have hA : DataW.TrodAll enc Try.prog W 0 (fun _=>true) true Try.f3.params.toList args.toList ds p:=hA0
 rw [Try.params3] at hA hval
 obtain ⟨v0,vs0,d0,ds0,p0,q0,hargs,rfl,rfl,h0,r0⟩:=trodAll_cons hA
 obtain ⟨v1,vs1,d1,ds1,p1,q1,rfl,rfl,rfl,h1,r1⟩:=trodAll_cons r0
 obtain ⟨v2,vs2,d2,ds2,p2,q2,rfl,rfl,rfl,h2,r2⟩:=trodAll_cons r1
 obtain ⟨rfl,rfl,rfl⟩:=trodAll_nil r2
 obtain rfl : args = #[v0,v1,v2]:=by cases args;simp_all
 obtain ⟨rfl,rfl⟩:=trodVars_none hV
 have k0:=h0
 have lt0 : ∀ x ∈ p0,x.block < W.heap.size:=by obtain ⟨m,hm⟩:=k0;exact DataW.trod_lt m _ _ _ hm
 obtain ⟨fuel0,hf0⟩:=h0
 obtain ⟨cs0,rfl,_⟩:=okWide_struct Try.underlying24 (hval 0 24 v0 rfl rfl)
 obtain ⟨z0,K0,G0⟩:=(Opens.struct (size:=1) Try.underlying24 (by kernel_rfl) (OpensF.one (by kernel_rfl) (by kernel_rfl) (Opens.slice 73 Try.underlying22 (by kernel_rfl) (opens73 H)))) enc W _ _ _ hf0
 have K0_0:=K0
 have G0_0:=G0
 obtain ⟨A0_0,c0_0,q0_0,hc0_0,hr0_0⟩:=K0_0
 obtain rfl : cs0 = #[.slice A0_0 (z0).length c0_0]:=Array.toList_inj.1 q0_0
 have k1:=h1
 have lt1 : ∀ x ∈ p1,x.block < W.heap.size:=by obtain ⟨m,hm⟩:=k1;exact DataW.trod_lt m _ _ _ hm
 obtain ⟨fuel1,hf1⟩:=h1
 obtain ⟨b1,len1,cap1,rfl⟩:=okWide_slice Try.underlying25 (hval 1 25 v1 rfl rfl)
 obtain ⟨l1,⟨A1,c1,e1,hc1,hr1⟩,g1⟩:=(Opens.slice 27 Try.underlying25 (by kernel_rfl) (opens27 H)) enc W _ _ _ hf1
 simp only [Value.cells,List.cons.injEq,and_true] at e1
 obtain ⟨rfl,rfl,rfl⟩:=Value.slice.inj e1
 have k2:=h2
 have lt2 : ∀ x ∈ p2,x.block < W.heap.size:=by obtain ⟨m,hm⟩:=k2;exact DataW.trod_lt m _ _ _ hm
 obtain ⟨fuel2,hf2⟩:=h2
 obtain ⟨cs2,rfl,_⟩:=okWide_struct Try.underlying27 (hval 2 27 v2 rfl rfl)
 obtain ⟨z2,K2,G2⟩:=(Opens.struct (size:=3) Try.underlying27 (by kernel_rfl) (OpensF.cons (by kernel_rfl) (Opens.int Try.underlying3) (OpensF.cons (by kernel_rfl) (Opens.int Try.underlying3) (OpensF.one (by kernel_rfl) (by kernel_rfl) (Opens.int Try.underlying3))))) enc W _ _ _ hf2
 obtain ⟨u2_0,r2_0,e2_0,K2_0,⟨u2_1,r2_1,e2_1,K2_1,K2_2⟩⟩:=K2
 obtain ⟨G2_0,G2_1,G2_2⟩:=G2
 have q2_0 : u2_0 = [.int .i64 (z2.1)]:=K2_0
 have q2_1 : u2_1 = [.int .i64 (z2.2.1)]:=K2_1
 have q2_2 : r2_1 = [.int .i64 (z2.2.2)]:=K2_2
 obtain rfl : cs2 = #[.int .i64 (z2.1),.int .i64 (z2.2.1),.int .i64 (z2.2.2)]:=by
  apply Array.toList_inj.1
  simp only [Value.cells,List.drop_zero] at *
  simp_all
 clear hA0 hval0 hsz0
 obtain ⟨k,hP⟩:=Pure.FnExactPushExit (z0) (l1) (z2.1) (z2.2.1) (z2.2.2) G0_0 g1 G2_0 G2_1 G2_2
 refine (laws_FnExactPushExit.calls k _ _ (z0) _ _ (l1) (z2.1) (z2.2.1) (z2.2.2) true W hr0_0 hc0_0 hr1 hc1 hP).mono fun e W' ⟨he,bel⟩=>?_
 subst he
 exact ⟨_,rfl,_,_,_,[],_,[],hW',trodAll_mk1 (shut_bool Try.underlying4 _),(trodAll_cons_mk (Below.trod laidOut (by kernel_rfl) (of_decide_eq_true (by kernel_rfl)) k0 bel lt0) (trodAll_cons_mk (Below.trod laidOut (by kernel_rfl) (of_decide_eq_true (by kernel_rfl)) k1 bel lt1) (trodAll_cons_mk (Below.trod laidOut (by kernel_rfl) (of_decide_eq_true (by kernel_rfl)) k2 bel lt2) trodAll_mk0))),rfl,bel.frame _,fun h=>by cases h⟩
theorem named_ : Try.pinned.checked.prog.funcNamed Rows.fnExactPushExitRow.func = some 3:=by kernel_rfl
set_option maxHeartbeats 4000000 in
theorem closed_ : joinedFacts Try.pinned.checked.prog 3 Try.f3 Rows.fnExactPushExitSpec Rows.fnExactPushExitRow = true:=by
 unfold joinedFacts
 repeat' with_reducible refine Bool.and_eq_true_iff.2 ⟨?_,?_⟩
 all_goals as_aux_lemma=>kernel_rfl
theorem wrap_ : Try.f3.isWrapper Try.pinned.checked.prog Rows.fnExactPushExitRow.wrapper Rows.fnExactPushExitRow.mainSum:=by
 unfold Func.isWrapper
 first | (rw [if_pos (by decide +kernel)];kernel_rfl) | (rw [if_neg (by decide +kernel)];exact ⟨rfl,rfl⟩)
theorem inst_ : Try.f3.isInstance Try.pinned.checked.prog Rows.fnExactPushExitRow.origin Rows.fnExactPushExitRow.targs:=of_decide_eq_true (by kernel_rfl)
theorem over : Rows.fnExactPushExitRow.holds Try.pinned (OpenSpec.ofChange Rows.fnExactPushExitSpec) :=
 OpenClaim.holds_of_wide 3 Try.f3 rfl rfl rfl rfl rfl rfl rfl ⟨rfl,rfl,rfl,rfl,rfl⟩ rfl rfl rfl rfl rfl named_ Try.func3 closed_ inst_ wrap_
  (fun os started H enc _=>lifted os started H enc)
theorem proved : Rows.FnExactPushExitSaid:=over
#print axioms proved
end Go.Proofs.Ytjcodcimodnbjaa.fnExactPushExit
namespace Go.Proofs.Ytjcodcimodnbjaa
theorem fnExactPushExit_holds : Rows.FnExactPushExitSaid:=fnExactPushExit.proved
end Go.Proofs.Ytjcodcimodnbjaa
end
