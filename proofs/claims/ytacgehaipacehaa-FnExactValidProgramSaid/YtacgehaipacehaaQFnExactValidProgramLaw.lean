/- The law FnExactValidProgram answers true for every input that its statement speaks of. No condition. -/
import Derived.Test.YtacgehaipacehaaRows
import Derived.Test.YtacgehaipacehaaQFnExactValidPrograme
import Derived.Test.YtacgehaipacehaaQFnExactValidProgramwOpen
import Derived.WalkKit
import Derived.ProofKit
import Derived.OpenShut
import Derived.ShutString
import Derived.ChangeOld
import Derived.Below
import Derived.SizedLaws
section
namespace Go.Proofs.Ytacgehaipacehaa.fnExactValidProgram
open Go.ChangeShapes Go.WideShapes Go.ChangeAt Go.RowKit
open Go.ChangeMaps (open_string shut_string)
open Go.Proofs.Ytacgehaipacehaa.P Go.Proofs.YtacgehaipacehaaW.PrintWords
set_option linter.unusedVariables false
set_option linter.unusedSimpArgs false
theorem own : ownKnob Try.prog.godebug = none:=by kernel_rfl
theorem laidOut : laidOutB Try.prog = true:=by kernel_rfl
theorem opens153 (H : Type) : Opens H Try.prog k153 (fun y=>(y.f0.size ≤ maxLen ∧ (Lit.int .i64 y.f1).wf = true)) 153 :=
 Opens.iso (fun x : S153=>(x.f0,x.f1)) (fun p=>⟨p.1,p.2⟩) (fun _=>rfl) (Opens.struct (size:=2) Try.underlying153 (by kernel_rfl) (OpensF.cons (by kernel_rfl) (Opens.string Try.underlying9) (OpensF.one (by kernel_rfl) (by kernel_rfl) (Opens.int Try.underlying3))))
theorem opens129 (H : Type) : Opens H Try.prog k129 (fun y=>((Lit.int .i64 y.f0).wf = true ∧ (Lit.int .i64 y.f1).wf = true ∧ (Lit.int .i64 y.f2).wf = true ∧ (Lit.int .i64 y.f3).wf = true)) 129 :=
 Opens.iso (fun x : S129=>(x.f0,x.f1,x.f2,x.f3)) (fun p=>⟨p.1,p.2.1,p.2.2.1,p.2.2.2⟩) (fun _=>rfl) (Opens.struct (size:=4) Try.underlying129 (by kernel_rfl) (OpensF.cons (by kernel_rfl) (Opens.int Try.underlying3) (OpensF.cons (by kernel_rfl) (Opens.int Try.underlying3) (OpensF.cons (by kernel_rfl) (Opens.int Try.underlying3) (OpensF.one (by kernel_rfl) (by kernel_rfl) (Opens.int Try.underlying3))))))
set_option maxRecDepth 100000 in
theorem lifted (os : Os) (started : os.Started) (H : Type) (enc : TypeId × Value → H) :
  ReturnsInHanded {} Try.checked os 7 .any (Rows.fnExactValidProgramSpec.pre6 enc Try.prog Try.f7 Rows.fnExactValidProgramRow.domain false) (Rows.fnExactValidProgramSpec.post enc Try.prog Try.f7 false true false false):=by
 refine returnsInHanded_of_change_sized (C:=Try.checked) own started (by kernel_rfl) Try.func7
  (ChangeSpec.witness6 (enc:=enc) (C:=Try.checked) false ⟨#[],#[.agg #[.slice none 0 0],.slice none 0 0],[]⟩ 8 (by kernel_rfl) (by kernel_rfl) (by kernel_rfl) (by kernel_rfl)) ?_
 intro W base args ds gs before hval0 hW hcnd hsz0 _
 have hval : ∀ (j : Nat) t v,Try.f7.params[j]? = some t → args[j]? = some v → Value.okWide Try.prog W .any base t v:=hval0
 have hW':=hW
 obtain ⟨p,q,hA0,hV,rfl,hfz,hnd⟩:=hW
 have hA : DataW.TrodAll enc Try.prog W 0 (fun _=>true) true Try.f7.params.toList args.toList ds p:=hA0
 rw [Try.params7] at hA hval
 obtain ⟨v0,vs0,d0,ds0,p0,q0,hargs,rfl,rfl,h0,r0⟩:=trodAll_cons hA
 obtain ⟨v1,vs1,d1,ds1,p1,q1,rfl,rfl,rfl,h1,r1⟩:=trodAll_cons r0
 obtain ⟨rfl,rfl,rfl⟩:=trodAll_nil r1
 obtain rfl : args = #[v0,v1]:=by cases args;simp_all
 obtain ⟨rfl,rfl⟩:=trodVars_none hV
 have k0:=h0
 have lt0 : ∀ x ∈ p0,x.block < W.heap.size:=by obtain ⟨m,hm⟩:=k0;exact DataW.trod_lt m _ _ _ hm
 obtain ⟨fuel0,hf0⟩:=h0
 obtain ⟨cs0,rfl,_⟩:=okWide_struct Try.underlying38 (hval 0 38 v0 rfl rfl)
 obtain ⟨z0,K0,G0⟩:=(Opens.struct (size:=1) Try.underlying38 (by kernel_rfl) (OpensF.one (by kernel_rfl) (by kernel_rfl) (Opens.slice 153 Try.underlying36 (by kernel_rfl) (opens153 H)))) enc W _ _ _ hf0
 have K0_0:=K0
 have G0_0:=G0
 obtain ⟨A0_0,c0_0,q0_0,hc0_0,hr0_0⟩:=K0_0
 obtain rfl : cs0 = #[.slice A0_0 (z0).length c0_0]:=Array.toList_inj.1 q0_0
 have k1:=h1
 have lt1 : ∀ x ∈ p1,x.block < W.heap.size:=by obtain ⟨m,hm⟩:=k1;exact DataW.trod_lt m _ _ _ hm
 obtain ⟨fuel1,hf1⟩:=h1
 obtain ⟨b1,len1,cap1,rfl⟩:=okWide_slice Try.underlying65 (hval 1 65 v1 rfl rfl)
 obtain ⟨l1,⟨A1,c1,e1,hc1,hr1⟩,g1⟩:=(Opens.slice 129 Try.underlying65 (by kernel_rfl) (opens129 H)) enc W _ _ _ hf1
 simp only [Value.cells,List.cons.injEq,and_true] at e1
 obtain ⟨rfl,rfl,rfl⟩:=Value.slice.inj e1
 clear hA0 hval0 hsz0
 obtain ⟨k,hP⟩:=Pure.FnExactValidProgram (z0) (l1) G0_0 g1
 refine (laws_FnExactValidProgram.calls k _ _ (z0) _ _ (l1) true W hr0_0 hc0_0 hr1 hc1 hP).mono fun e W' ⟨he,bel⟩=>?_
 subst he
 exact ⟨_,rfl,_,_,_,[],_,[],hW',trodAll_mk1 (shut_bool Try.underlying4 _),(trodAll_cons_mk (Below.trod laidOut (by kernel_rfl) (of_decide_eq_true (by kernel_rfl)) k0 bel lt0) (trodAll_cons_mk (Below.trod laidOut (by kernel_rfl) (of_decide_eq_true (by kernel_rfl)) k1 bel lt1) trodAll_mk0)),rfl,bel.frame _,fun h=>by cases h⟩
theorem named_ : Try.pinned.checked.prog.funcNamed Rows.fnExactValidProgramRow.func = some 7:=by kernel_rfl
set_option maxHeartbeats 4000000 in
theorem closed_ : joinedFacts Try.pinned.checked.prog 7 Try.f7 Rows.fnExactValidProgramSpec Rows.fnExactValidProgramRow = true:=by
 unfold joinedFacts
 repeat' with_reducible refine Bool.and_eq_true_iff.2 ⟨?_,?_⟩
 all_goals as_aux_lemma=>kernel_rfl
theorem wrap_ : Try.f7.isWrapper Try.pinned.checked.prog Rows.fnExactValidProgramRow.wrapper Rows.fnExactValidProgramRow.mainSum:=by
 unfold Func.isWrapper
 first | (rw [if_pos (by decide +kernel)];kernel_rfl) | (rw [if_neg (by decide +kernel)];exact ⟨rfl,rfl⟩)
theorem inst_ : Try.f7.isInstance Try.pinned.checked.prog Rows.fnExactValidProgramRow.origin Rows.fnExactValidProgramRow.targs:=of_decide_eq_true (by kernel_rfl)
theorem over : Rows.fnExactValidProgramRow.holds Try.pinned (OpenSpec.ofChange Rows.fnExactValidProgramSpec) :=
 OpenClaim.holds_of_wide 7 Try.f7 rfl rfl rfl rfl rfl rfl rfl ⟨rfl,rfl,rfl,rfl,rfl⟩ rfl rfl rfl rfl rfl named_ Try.func7 closed_ inst_ wrap_
  (fun os started H enc _=>lifted os started H enc)
theorem proved : Rows.FnExactValidProgramSaid:=over
#print axioms proved
end Go.Proofs.Ytacgehaipacehaa.fnExactValidProgram
namespace Go.Proofs.Ytacgehaipacehaa
theorem fnExactValidProgram_holds : Rows.FnExactValidProgramSaid:=fnExactValidProgram.proved
end Go.Proofs.Ytacgehaipacehaa
end
