/- Texts under the proof of FnExactJoinHeaps: helper words, the functions' contracts and the plain laws. No condition. -/
import Derived.Test.YtfhcfhffmblacaaQFnExactJoinHeapsd
import Derived.Test.YtfhcfhffmblacaaQFnExactJoinHeapse
import Derived.Test.YtfhcfhffmblacaaQFnExactJoinHeapsa
import Derived.Test.YtfhcfhffmblacaaQFnExactJoinHeapsb
import Derived.Test.YtfhcfhffmblacaaQFnExactJoinHeapsc
namespace Go.Proofs.Ytfhcfhffmblacaa.Pure
open Go.RowKit Go.Proofs.Ytfhcfhffmblacaa.P
open Go.Proofs.YtfhcfhffmblacaaW.PrintWords (rd rdOf wrap_succ wrap_pred wrap_in toL_beq idxP)
set_option linter.unusedVariables false
theorem FnExactJoinHeaps (l0_0 : List S103) (l1_0 : List S109) (l2_0 : List S109) (G0_0 : (l0_0.length ≤ maxLen ∧ ∀ x ∈ l0_0,(x.f0.size ≤ maxLen ∧ (Lit.int .i64 x.f1).wf = true))) (G1_0 : (l1_0.length ≤ maxLen ∧ ∀ x ∈ l1_0,((Lit.int .i64 x.f0).wf = true ∧ (Lit.int .i64 x.f1).wf = true ∧ (Lit.int .i64 x.f2).wf = true ∧ (Lit.int .i64 x.f3).wf = true ∧ True))) (G2_0 : (l2_0.length ≤ maxLen ∧ ∀ x ∈ l2_0,((Lit.int .i64 x.f0).wf = true ∧ (Lit.int .i64 x.f1).wf = true ∧ (Lit.int .i64 x.f2).wf = true ∧ (Lit.int .i64 x.f3).wf = true ∧ True))) : ∃ k,laws_FnExactJoinHeaps.f k l0_0 l1_0 l2_0 = some true:=by
 have hmax : maxLen = 9223372036854775807:=by decide
 rw [hmax] at G0_0 G1_0 G2_0
 refine Ev.out (F:=fun k=>laws_FnExactJoinHeaps.f k l0_0 l1_0 l2_0) ?_
 unfold laws_FnExactJoinHeaps.f
 obtain ⟨v0,hv0,hg0⟩:=laws_szTree_ev l0_0 1048576 (by omega) (by omega) G0_0.1 (fun x hx=>(G0_0.2 x hx).1)
 refine Ev.bind hv0 ?_
 by_cases hn0 : v0 < 0
 ·exact Ev.pos hn0 (Ev.const rfl)
 refine Ev.neg hn0 ?_
 obtain ⟨hva0,hl0,hs⟩:=hg0 (by omega)
 obtain ⟨v1,hv1,hg1⟩:=laws_szHeap_ev l1_0 v0 (by omega) (by omega) G1_0.1
 refine Ev.bind hv1 ?_
 by_cases hn1 : v1 < 0
 ·exact Ev.pos hn1 (Ev.const rfl)
 refine Ev.neg hn1 ?_
 obtain ⟨hva1,hl1⟩:=hg1 (by omega)
 obtain ⟨v2,hv2,hg2⟩:=laws_szHeap_ev l2_0 v1 (by omega) (by omega) G2_0.1
 refine Ev.bind hv2 ?_
 by_cases hn2 : v2 < 0
 ·exact Ev.pos hn2 (Ev.const rfl)
 refine Ev.neg hn2 ?_
 obtain ⟨hva2,hl2⟩:=hg2 (by omega)
 have hT0:=laws_toTree_ev l0_0 (by omega)
 have hm0 : (l0_0.map toC).length ≤ 1048576:=by rw [List.length_map];omega
 have hT1:=laws_toHeap_ev l1_0 (by omega)
 have hm1 : (l1_0.map toFault).length ≤ 1048576:=by rw [List.length_map];omega
 have hT2:=laws_toHeap_ev l2_0 (by omega)
 have hm2 : (l2_0.map toFault).length ≤ 1048576:=by rw [List.length_map];omega
 have hsm:=smT_of hs
 have hS : Ev (fun _=>spec_JoinHeaps.f (l0_0.map toC) (l1_0.map toFault) (l2_0.map toFault)) (joiP (l0_0.map toC) (l1_0.map toFault) (l2_0.map toFault)):=spec_JoinHeaps_ev (l0_0.map toC) (l1_0.map toFault) (l2_0.map toFault) hsm (by omega) (by omega) (by omega)
 have hG : Ev (fun k=>impl_JoinHeaps.f (l0_0.map toC) (l1_0.map toFault) (l2_0.map toFault)) (joiP (l0_0.map toC) (l1_0.map toFault) (l2_0.map toFault)):=Ev.const (impl_JoinHeaps_ev (l0_0.map toC) (l1_0.map toFault) (l2_0.map toFault) hsm (by omega) (by omega))
 have hrl:=joiP_len (l0_0.map toC) (l1_0.map toFault) (l2_0.map toFault)
 generalize joiP (l0_0.map toC) (l1_0.map toFault) (l2_0.map toFault) = r at hS hG hrl
 obtain ⟨r0,r1⟩:=r
 simp only at hrl
 have hEr0:=laws_eqHeap_ev r0 (by omega)
 obtain ⟨l',hM0⟩:=laws_markTree_ev (l0_0.map toC) (1) (by omega) (by omega)
 have hM1:=laws_markHeap_ev (l1_0.map toFault) (1 + 2 * (l0_0.map toC).length) (by omega) (by omega)
 have hM2:=laws_markHeap_ev (l2_0.map toFault) (1 + 2 * (l0_0.map toC).length + 5 * (l1_0.map toFault).length) (by omega) (by omega)
 have hm9r0:=laws_markHeap_ev r0 (1) (by omega) (by omega)
 have hhr0:=laws_heldHeap_ev (1) r0.length (by omega) (by omega)
 refine Ev.bind hT0 (Ev.bind hT1 (Ev.bind hT2 (Ev.bind hS (Ev.bind hT0 (Ev.bind hT1 (Ev.bind hT2 (Ev.bind hG (Ev.bind hEr0 (Ev.pos rfl ?_)))))))))
 refine Ev.succ ?_
 simp only [laws_FnExactJoinHeaps.j0]
 refine Ev.neg (by simp) (Ev.bind hT0 (Ev.bind (laws_eqTree_ev _ (by omega)) (Ev.pos rfl (Ev.bind hT1 (Ev.bind (laws_eqHeap_ev _ (by omega)) (Ev.pos rfl (Ev.bind hT2 (Ev.bind (laws_eqHeap_ev _ (by omega)) (Ev.pos rfl (Ev.bind hM0 (Ev.bind hM1 (Ev.bind hM2 (Ev.neg (by show ¬ (_ < (0 : Int));omega) (Ev.bind hEr0 (Ev.pos rfl ?_)))))))))))))))
 refine Ev.succ ?_
 simp only [laws_FnExactJoinHeaps.j1]
 refine Ev.neg (by simp) (Ev.bind hm9r0 (Ev.bind hhr0 (Ev.neg (by omega) (Ev.pos rfl (Ev.bind hT0 (Ev.bind hT1 (Ev.bind hT2 (Ev.bind hG (Ev.bind hEr0 (Ev.pos rfl ?_))))))))))
 refine Ev.succ ?_
 simp only [laws_FnExactJoinHeaps.j2]
 exact Ev.neg (by simp) (Ev.bind hhr0 (Ev.neg (by omega) (Ev.pos rfl (Ev.const rfl))))
end Go.Proofs.Ytfhcfhffmblacaa.Pure
