/- The law FnTopTreeUpto answers true for every input that its statement speaks of. No condition. -/
import Derived.Test.YtacgehaipacehaaRows
import Derived.Test.YtacgehaipacehaaQFnTopTreeUptob
import Derived.Test.YtacgehaipacehaaQFnTopTreeUptoa
import Derived.WalkKit
import Derived.ProofKit
import Derived.OpenShut
import Derived.ShutString
import Derived.ChangeOld
import Derived.Below
import Derived.SizedLaws
import Derived.JoinedCond
section
namespace Go.Proofs.Ytacgehaipacehaa.Pure
open Go.RowKit Go.Proofs.Ytacgehaipacehaa.P
set_option linter.unusedVariables false
theorem FnTopTreeUpto (s : ByteArray) (hw : s.size ≤ 1048576) : ∃ k,laws_FnTopTree.f k s = some true:=by
 refine Ev.out (F:=fun k=>laws_FnTopTree.f k s) ?_
 unfold laws_FnTopTree.f
 have hI:=impl_ParseTree_ev s (by omega)
 have hS:=spec_ParseTree_ev s (by omega)
 cases hp : parP s with
 | mk t ok =>
  rw [hp] at hI hS
  cases ok with
  | false =>
   obtain rfl:=parP_no hp
   refine Ev.bind hI ?_
   refine Ev.bind hS ?_
   refine Ev.bind (laws_equalTree_ev [] (by simp)) ?_
   refine Ev.pos rfl ?_
   refine Ev.neg (by simp) ?_
   refine Ev.succ ?_
   simp only [laws_FnTopTree.j0]
   refine Ev.pos rfl ?_
   refine Ev.bind (laws_equalTree_ev [] (by simp)) ?_
   exact Ev.pos rfl (Ev.const (by rfl))
  | true =>
   obtain ⟨hv,he⟩:=parP_yes hp
   have hsm:=vT_small hv
   have hl:=vT_len hv
   have hT:=impl_TreeText_ev t hsm
   have e : textP t = s:=by unfold textP;rw [hv,if_pos rfl];exact he
   rw [e] at hT
   have hV : impl_ValidTree.f t = some true:=by rw [impl_ValidTree.f,if_pos hsm,hv]
   refine Ev.bind hI ?_
   refine Ev.bind hS ?_
   refine Ev.bind (laws_equalTree_ev t (by omega)) ?_
   refine Ev.pos rfl ?_
   refine Ev.neg (by simp) ?_
   refine Ev.succ ?_
   simp only [laws_FnTopTree.j0]
   refine Ev.neg (by simp) ?_
   refine Ev.bind (Ev.const hT) ?_
   refine Ev.pos rfl ?_
   exact Ev.bind (Ev.const hV) (Ev.const rfl)
end Go.Proofs.Ytacgehaipacehaa.Pure
namespace Go.Proofs.Ytacgehaipacehaa.fnTopTreeUpto
open Go.ChangeShapes Go.WideShapes Go.ChangeAt Go.RowKit
open Go.ChangeMaps (open_string shut_string)
set_option linter.unusedVariables false
theorem own : ownKnob Try.prog.godebug = none:=by kernel_rfl
theorem short {H : Type} {s : ByteArray} (hk : Rows.uptoSmall H [.lit (.string s.data.toList)] = true) : s.size ≤ 1048576:=by
 have h : Rows.uptoBulkAll [DataW.lit (H:=H) (.string s.data.toList)] ≤ 1048576:=of_decide_eq_true hk
 simp only [Rows.uptoBulkAll,Rows.uptoBulk] at h
 have e : s.data.toList.length = s.size:=by rw [Array.length_toList];rfl
 omega
set_option maxRecDepth 100000 in
theorem contract (H : Type) (enc : TypeId × Value → H) (W : World) (base : Nat) (args : Array Value) (ds gs : List (DataW H)) (before : List MemPlace)
  (hval : ∀ (j : Nat) t v,Try.f11.params[j]? = some t → args[j]? = some v → Value.okWide Try.prog W .any base t v)
  (hW : DataW.Whole enc Try.prog Try.f11.params.toList Rows.fnTopTreeSpec.vars false W args.toList ds gs before) (hk : Rows.uptoSmall H (ds ++ gs) = true) :
  Calls Try.prog 11 args W fun e W'=>∃ v,e = .returned v ∧ Rows.fnTopTreeSpec.post enc Try.prog Try.f11 false true false false W args v W':=by
 have hW':=hW
 obtain ⟨p,q,hA0,hV,rfl,hfz,hnd⟩:=hW
 have hA : DataW.TrodAll enc Try.prog W 0 (fun _=>true) true Try.f11.params.toList args.toList ds p:=hA0
 rw [Try.params11] at hA hval
 obtain ⟨v0,vs0,d0,ds0,p0,q0,hargs,rfl,rfl,h0,r0⟩:=trodAll_cons hA
 obtain ⟨rfl,rfl,rfl⟩:=trodAll_nil r0
 obtain rfl : args = #[v0]:=by cases args;simp_all
 obtain ⟨rfl,rfl⟩:=trodVars_none hV
 obtain ⟨s,rfl,rfl,rfl,hmax⟩:=open_string Try.underlying9 (hval 0 9 v0 rfl rfl) h0
 clear hA0
 have hk' : Rows.uptoSmall H [.lit (.string s.data.toList)] = true:=by simpa only [List.append_nil] using hk
 obtain ⟨k,hP⟩:=Pure.FnTopTreeUpto s (short hk')
 refine (P.laws_FnTopTree.calls k s true W hP).mono fun e W' ⟨he,bel⟩=>?_
 subst he
 exact ⟨_,rfl,_,_,_,[],_,[],hW',trodAll_mk1 (shut_bool Try.underlying4 _),(trodAll_cons_mk (shut_string Try.underlying9 hmax) trodAll_mk0),rfl,bel.frame _,fun h=>by cases h⟩
set_option maxRecDepth 100000 in
theorem lifted (os : Os) (started : os.Started) (H : Type) (enc : TypeId × Value → H) (F : Stop.Interp) :
  ReturnsInHanded {} Try.checked os 11 .any ((Rows.OpenSpec.upto Rows.fnTopTreeSpec).pre6 enc Try.prog Try.f11 Rows.fnTopTreeUptoRow.domain false) (((Rows.OpenSpec.upto Rows.fnTopTreeSpec).at F).post enc Try.prog Try.f11 false true false false):=by
 refine returnsInHanded_of_cond (C:=Try.checked) (s:=Rows.OpenSpec.upto Rows.fnTopTreeSpec) (k:=Rows.uptoSmall) rfl own started (by kernel_rfl) Try.func11
  (OpenSpec.witness (enc:=enc) (C:=Try.checked) (s:=Rows.OpenSpec.upto Rows.fnTopTreeSpec) (k:=Rows.uptoSmall) rfl false ⟨#[],#[.string .empty],[]⟩ 8 (by kernel_rfl) (by kernel_rfl) (by kernel_rfl)
   (x:=([.lit (.string [])],[],[])) (by kernel_rfl) rfl (by kernel_rfl)) ?_
 intro W base args ds gs before hval hW _ hk _
 exact contract H enc W base args ds gs before hval hW hk
set_option maxRecDepth 100000 in
theorem proved : Rows.FnTopTreeUptoSaid :=
 OpenClaim.holds_of_cond 11 Try.f11 rfl rfl rfl rfl rfl rfl rfl ⟨rfl,rfl,rfl,rfl,rfl⟩ rfl rfl rfl rfl rfl (by kernel_rfl) Try.func11 (by kernel_rfl)
  (of_decide_eq_true (by kernel_rfl)) (by unfold Func.isWrapper;first | (rw [if_pos (by decide +kernel)];kernel_rfl) | (rw [if_neg (by decide +kernel)];exact ⟨rfl,rfl⟩))
  (fun os started H enc _ F=>lifted os started H enc F)
#print axioms proved
end Go.Proofs.Ytacgehaipacehaa.fnTopTreeUpto
namespace Go.Proofs.Ytacgehaipacehaa
theorem fnTopTreeUpto_holds : Rows.FnTopTreeUptoSaid:=fnTopTreeUpto.proved
end Go.Proofs.Ytacgehaipacehaa
end
