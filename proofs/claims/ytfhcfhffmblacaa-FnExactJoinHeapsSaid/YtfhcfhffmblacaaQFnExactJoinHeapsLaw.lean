/- The law FnExactJoinHeaps answers true for every input that its statement speaks of. No condition. -/
import Derived.Test.YtfhcfhffmblacaaRows
import Derived.Test.YtfhcfhffmblacaaQFnExactJoinHeapse
import Derived.Test.YtfhcfhffmblacaaQFnExactJoinHeapsf
import Derived.Test.YtfhcfhffmblacaaQFnExactJoinHeapswOpen
import Derived.WalkKit
import Derived.ProofKit
import Derived.OpenShut
import Derived.ShutString
import Derived.ChangeOld
import Derived.Below
import Derived.SizedLaws
section
namespace Go.Proofs.Ytfhcfhffmblacaa.fnExactJoinHeaps
open Go.ChangeShapes Go.WideShapes Go.ChangeAt Go.RowKit
open Go.ChangeMaps (open_string shut_string)
open Go.Proofs.Ytfhcfhffmblacaa.P Go.Proofs.YtfhcfhffmblacaaW.PrintWords
set_option linter.unusedVariables false
set_option linter.unusedSimpArgs false
theorem own : ownKnob Try.prog.godebug = none:=by kernel_rfl
theorem laidOut : laidOutB Try.prog = true:=by kernel_rfl
theorem opens103 (H : Type) : Opens H Try.prog k103 (fun y=>(y.f0.size ≤ maxLen ∧ (Lit.int .i64 y.f1).wf = true)) 103 :=
 Opens.iso (fun x : S103=>(x.f0,x.f1)) (fun p=>⟨p.1,p.2⟩) (fun _=>rfl) (Opens.struct (size:=2) Try.underlying103 (by kernel_rfl) (OpensF.cons (by kernel_rfl) (Opens.string Try.underlying9) (OpensF.one (by kernel_rfl) (by kernel_rfl) (Opens.int Try.underlying3))))
theorem opens109 (H : Type) : Opens H Try.prog k109 (fun y=>((Lit.int .i64 y.f0).wf = true ∧ (Lit.int .i64 y.f1).wf = true ∧ (Lit.int .i64 y.f2).wf = true ∧ (Lit.int .i64 y.f3).wf = true ∧ True)) 109 :=
 Opens.iso (fun x : S109=>(x.f0,x.f1,x.f2,x.f3,x.f4)) (fun p=>⟨p.1,p.2.1,p.2.2.1,p.2.2.2.1,p.2.2.2.2⟩) (fun _=>rfl) (Opens.struct (size:=5) Try.underlying109 (by kernel_rfl) (OpensF.cons (by kernel_rfl) (Opens.int Try.underlying3) (OpensF.cons (by kernel_rfl) (Opens.int Try.underlying3) (OpensF.cons (by kernel_rfl) (Opens.int Try.underlying3) (OpensF.cons (by kernel_rfl) (Opens.int Try.underlying3) (OpensF.one (by kernel_rfl) (by kernel_rfl) (Opens.bool Try.underlying4)))))))
set_option maxRecDepth 100000 in
theorem lifted (os : Os) (started : os.Started) (H : Type) (enc : TypeId × Value → H) :
  ReturnsInHanded {} Try.checked os 12 .any (Rows.fnExactJoinHeapsSpec.pre6 enc Try.prog Try.f12 Rows.fnExactJoinHeapsRow.domain false) (Rows.fnExactJoinHeapsSpec.post enc Try.prog Try.f12 false true false false):=by
 refine returnsInHanded_of_change_sized (C:=Try.checked) own started (by kernel_rfl) Try.func12
  (ChangeSpec.witness6 (enc:=enc) (C:=Try.checked) false ⟨#[],#[.agg #[.slice none 0 0],.agg #[.slice none 0 0],.agg #[.slice none 0 0]],[]⟩ 8 (by kernel_rfl) (by kernel_rfl) (by kernel_rfl) (by kernel_rfl)) ?_
 intro W base args ds gs before hval0 hW hcnd hsz0 _
 have hval : ∀ (j : Nat) t v,Try.f12.params[j]? = some t → args[j]? = some v → Value.okWide Try.prog W .any base t v:=hval0
 have hW':=hW
 obtain ⟨p,q,hA0,hV,rfl,hfz,hnd⟩:=hW
 have hA : DataW.TrodAll enc Try.prog W 0 (fun _=>true) true Try.f12.params.toList args.toList ds p:=hA0
 rw [Try.params12] at hA hval
 obtain ⟨v0,vs0,d0,ds0,p0,q0,hargs,rfl,rfl,h0,r0⟩:=trodAll_cons hA
 obtain ⟨v1,vs1,d1,ds1,p1,q1,rfl,rfl,rfl,h1,r1⟩:=trodAll_cons r0
 obtain ⟨v2,vs2,d2,ds2,p2,q2,rfl,rfl,rfl,h2,r2⟩:=trodAll_cons r1
 obtain ⟨rfl,rfl,rfl⟩:=trodAll_nil r2
 obtain rfl : args = #[v0,v1,v2]:=by cases args;simp_all
 obtain ⟨rfl,rfl⟩:=trodVars_none hV
 have k0:=h0
 have lt0 : ∀ x ∈ p0,x.block < W.heap.size:=by obtain ⟨m,hm⟩:=k0;exact DataW.trod_lt m _ _ _ hm
 obtain ⟨fuel0,hf0⟩:=h0
 obtain ⟨cs0,rfl,_⟩:=okWide_struct Try.underlying24 (hval 0 24 v0 rfl rfl)
 obtain ⟨z0,K0,G0⟩:=(Opens.struct (size:=1) Try.underlying24 (by kernel_rfl) (OpensF.one (by kernel_rfl) (by kernel_rfl) (Opens.slice 103 Try.underlying22 (by kernel_rfl) (opens103 H)))) enc W _ _ _ hf0
 have K0_0:=K0
 have G0_0:=G0
 obtain ⟨A0_0,c0_0,q0_0,hc0_0,hr0_0⟩:=K0_0
 obtain rfl : cs0 = #[.slice A0_0 (z0).length c0_0]:=Array.toList_inj.1 q0_0
 have k1:=h1
 have lt1 : ∀ x ∈ p1,x.block < W.heap.size:=by obtain ⟨m,hm⟩:=k1;exact DataW.trod_lt m _ _ _ hm
 obtain ⟨fuel1,hf1⟩:=h1
 obtain ⟨cs1,rfl,_⟩:=okWide_struct Try.underlying27 (hval 1 27 v1 rfl rfl)
 obtain ⟨z1,K1,G1⟩:=(Opens.struct (size:=1) Try.underlying27 (by kernel_rfl) (OpensF.one (by kernel_rfl) (by kernel_rfl) (Opens.slice 109 Try.underlying25 (by kernel_rfl) (opens109 H)))) enc W _ _ _ hf1
 have K1_0:=K1
 have G1_0:=G1
 obtain ⟨A1_0,c1_0,q1_0,hc1_0,hr1_0⟩:=K1_0
 obtain rfl : cs1 = #[.slice A1_0 (z1).length c1_0]:=Array.toList_inj.1 q1_0
 have k2:=h2
 have lt2 : ∀ x ∈ p2,x.block < W.heap.size:=by obtain ⟨m,hm⟩:=k2;exact DataW.trod_lt m _ _ _ hm
 obtain ⟨fuel2,hf2⟩:=h2
 obtain ⟨cs2,rfl,_⟩:=okWide_struct Try.underlying27 (hval 2 27 v2 rfl rfl)
 obtain ⟨z2,K2,G2⟩:=(Opens.struct (size:=1) Try.underlying27 (by kernel_rfl) (OpensF.one (by kernel_rfl) (by kernel_rfl) (Opens.slice 109 Try.underlying25 (by kernel_rfl) (opens109 H)))) enc W _ _ _ hf2
 have K2_0:=K2
 have G2_0:=G2
 obtain ⟨A2_0,c2_0,q2_0,hc2_0,hr2_0⟩:=K2_0
 obtain rfl : cs2 = #[.slice A2_0 (z2).length c2_0]:=Array.toList_inj.1 q2_0
 clear hA0 hval0 hsz0
 obtain ⟨k,hP⟩:=Pure.FnExactJoinHeaps (z0) (z1) (z2) G0_0 G1_0 G2_0
 refine (laws_FnExactJoinHeaps.calls k _ _ (z0) _ _ (z1) _ _ (z2) true W hr0_0 hc0_0 hr1_0 hc1_0 hr2_0 hc2_0 hP).mono fun e W' ⟨he,bel⟩=>?_
 subst he
 exact ⟨_,rfl,_,_,_,[],_,[],hW',trodAll_mk1 (shut_bool Try.underlying4 _),(trodAll_cons_mk (Below.trod laidOut (by kernel_rfl) (of_decide_eq_true (by kernel_rfl)) k0 bel lt0) (trodAll_cons_mk (Below.trod laidOut (by kernel_rfl) (of_decide_eq_true (by kernel_rfl)) k1 bel lt1) (trodAll_cons_mk (Below.trod laidOut (by kernel_rfl) (of_decide_eq_true (by kernel_rfl)) k2 bel lt2) trodAll_mk0))),rfl,bel.frame _,fun h=>by cases h⟩
theorem named_ : Try.pinned.checked.prog.funcNamed Rows.fnExactJoinHeapsRow.func = some 12:=by kernel_rfl
set_option maxHeartbeats 4000000 in
theorem closed_ : joinedFacts Try.pinned.checked.prog 12 Try.f12 Rows.fnExactJoinHeapsSpec Rows.fnExactJoinHeapsRow = true:=by
 unfold joinedFacts
 repeat' with_reducible refine Bool.and_eq_true_iff.2 ⟨?_,?_⟩
 all_goals as_aux_lemma=>kernel_rfl
theorem wrap_ : Try.f12.isWrapper Try.pinned.checked.prog Rows.fnExactJoinHeapsRow.wrapper Rows.fnExactJoinHeapsRow.mainSum:=by
 unfold Func.isWrapper
 first | (rw [if_pos (by decide +kernel)];kernel_rfl) | (rw [if_neg (by decide +kernel)];exact ⟨rfl,rfl⟩)
theorem inst_ : Try.f12.isInstance Try.pinned.checked.prog Rows.fnExactJoinHeapsRow.origin Rows.fnExactJoinHeapsRow.targs:=of_decide_eq_true (by kernel_rfl)
theorem over : Rows.fnExactJoinHeapsRow.holds Try.pinned (OpenSpec.ofChange Rows.fnExactJoinHeapsSpec) :=
 OpenClaim.holds_of_wide 12 Try.f12 rfl rfl rfl rfl rfl rfl rfl ⟨rfl,rfl,rfl,rfl,rfl⟩ rfl rfl rfl rfl rfl named_ Try.func12 closed_ inst_ wrap_
  (fun os started H enc _=>lifted os started H enc)
theorem proved : Rows.FnExactJoinHeapsSaid:=over
#print axioms proved
end Go.Proofs.Ytfhcfhffmblacaa.fnExactJoinHeaps
namespace Go.Proofs.Ytfhcfhffmblacaa
theorem fnExactJoinHeaps_holds : Rows.FnExactJoinHeapsSaid:=fnExactJoinHeaps.proved
end Go.Proofs.Ytfhcfhffmblacaa
end
