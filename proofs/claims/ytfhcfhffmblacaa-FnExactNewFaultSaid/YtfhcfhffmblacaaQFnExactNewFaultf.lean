/- Texts under the proof of FnExactNewFault: helper words, the functions' contracts and the plain laws. No condition. -/
import Derived.Test.YtfhcfhffmblacaaQFnExactNewFaulte
namespace Go.Proofs.Ytfhcfhffmblacaa.Pure
open Go.RowKit Go.Proofs.Ytfhcfhffmblacaa.P
set_option linter.unusedVariables false
theorem FnExactNewFault (l0_0 : List S103) (l1_0 : List S109) (a2 : Int) (a3 : Int) (G0_0 : (l0_0.length ≤ maxLen ∧ ∀ x ∈ l0_0,(x.f0.size ≤ maxLen ∧ (Lit.int .i64 x.f1).wf = true))) (G1_0 : (l1_0.length ≤ maxLen ∧ ∀ x ∈ l1_0,((Lit.int .i64 x.f0).wf = true ∧ (Lit.int .i64 x.f1).wf = true ∧ (Lit.int .i64 x.f2).wf = true ∧ (Lit.int .i64 x.f3).wf = true ∧ True))) (w2 : (Lit.int .i64 a2).wf = true) (w3 : (Lit.int .i64 a3).wf = true) : ∃ k,laws_FnExactNewFault.f k l0_0 l1_0 a2 a3 = some true:=by
 have hmax : maxLen = 9223372036854775807:=by decide
 rw [hmax] at G0_0 G1_0
 refine Ev.out (F:=fun k=>laws_FnExactNewFault.f k l0_0 l1_0 a2 a3) ?_
 unfold laws_FnExactNewFault.f
 obtain ⟨v0,hv0,hg0⟩:=laws_szTree_ev l0_0 1048576 (by omega) (by omega) G0_0.1 (fun x hx=>(G0_0.2 x hx).1)
 refine Ev.bind hv0 ?_
 by_cases hn0 : v0 < 0
 ·exact Ev.pos hn0 (Ev.const rfl)
 refine Ev.neg hn0 ?_
 obtain ⟨hva0,hl0,hs⟩:=hg0 (by omega)
 obtain ⟨v1,hv1,hg1⟩:=laws_szHeap_ev l1_0 v0 (by omega) (by omega) G1_0.1
 refine Ev.bind hv1 ?_
 by_cases hn1 : v1 < 0
 ·exact Ev.pos hn1 (Ev.const rfl)
 refine Ev.neg hn1 ?_
 obtain ⟨hva1,hl1⟩:=hg1 (by omega)
 have hT0:=laws_toTree_ev l0_0 (by omega)
 have hm0 : (l0_0.map toC).length ≤ 1048576:=by rw [List.length_map];omega
 have hT1:=laws_toHeap_ev l1_0 (by omega)
 have hm1 : (l1_0.map toFault).length ≤ 1048576:=by rw [List.length_map];omega
 have hsm:=smT_of hs
 have hS : Ev (fun k=>spec_NewFault.f k (l0_0.map toC) (l1_0.map toFault) a2 a3) (newP (l0_0.map toC) (l1_0.map toFault) a2 a3):=spec_NewFault_ev (l0_0.map toC) (l1_0.map toFault) a2 a3 hsm (by omega) (by omega)
 have hG : Ev (fun k=>impl_NewFault.f (l0_0.map toC) (l1_0.map toFault) a2 a3) (newP (l0_0.map toC) (l1_0.map toFault) a2 a3):=Ev.const (impl_NewFault_ev (l0_0.map toC) (l1_0.map toFault) a2 a3 hsm (by omega))
 have hrl:=newP_len (l0_0.map toC) (l1_0.map toFault) a2 a3
 generalize newP (l0_0.map toC) (l1_0.map toFault) a2 a3 = r at hS hG hrl
 obtain ⟨r0,r1,r2⟩:=r
 simp only at hrl
 have hEr0:=laws_eqHeap_ev r0 (by omega)
 obtain ⟨l',hM0⟩:=laws_markTree_ev (l0_0.map toC) (1) (by omega) (by omega)
 have hM1:=laws_markHeap_ev (l1_0.map toFault) (1 + 2 * (l0_0.map toC).length) (by omega) (by omega)
 have hm9r0:=laws_markHeap_ev r0 (1) (by omega) (by omega)
 have hhr0:=laws_heldHeap_ev (1) r0.length (by omega) (by omega)
 refine Ev.bind hT0 (Ev.bind hT1 (Ev.bind hS (Ev.bind hT0 (Ev.bind hT1 (Ev.bind hG (Ev.bind hEr0 (Ev.pos rfl (Ev.pos (by trivial) ?_))))))))
 refine Ev.succ ?_
 simp only [laws_FnExactNewFault.j0]
 refine Ev.neg (by simp) (Ev.bind hT0 (Ev.bind (laws_eqTree_ev _ (by omega)) (Ev.pos rfl (Ev.bind hT1 (Ev.bind (laws_eqHeap_ev _ (by omega)) (Ev.pos rfl (Ev.bind hM0 (Ev.bind hM1 (Ev.neg (by show ¬ (_ < (0 : Int));omega) (Ev.bind hEr0 (Ev.pos rfl (Ev.pos (by trivial) ?_))))))))))))
 refine Ev.succ ?_
 simp only [laws_FnExactNewFault.j1]
 refine Ev.neg (by simp) (Ev.bind hm9r0 (Ev.bind hhr0 (Ev.neg (by omega) (Ev.pos rfl (Ev.bind hT0 (Ev.bind hT1 (Ev.bind hG (Ev.bind hEr0 (Ev.pos rfl (Ev.pos (by trivial) ?_))))))))))
 refine Ev.succ ?_
 simp only [laws_FnExactNewFault.j2]
 exact Ev.neg (by simp) (Ev.bind hhr0 (Ev.neg (by omega) (Ev.pos rfl (Ev.const rfl))))
end Go.Proofs.Ytfhcfhffmblacaa.Pure
