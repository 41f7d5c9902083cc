/- Texts under the proof of FnValidHeap: helper words, the functions' contracts and the plain laws. No condition. -/
import Derived.Test.YtmiholmfbjalfaaQFnValidHeapa
import Derived.Test.YtmiholmfbjalfaaQFnValidHeapd
namespace Go.Proofs.Ytmiholmfbjalfaa.P
open Go.RowKit Go.Proofs.YtmiholmfbjalfaaW.PrintWords Go.Proofs.YtmiholmfbjalfaaW.PrintLast Go.Proofs.YtmiholmfbjalfaaW.PrintMore
attribute [local go_sem] max2_int min2_int max_two min_two max_three min_three max_four min_four
set_option linter.unusedVariables false
set_option linter.unusedSimpArgs false
theorem named_ahead (t : List Cls) (i : Nat) (hi : i < t.length) : (named (t.take i) t[i].f0 ≥ 0) ↔ ¬ named t t[i].f0 = (i : Int):=by
 have hself : (t[i].f0.toList == t[i].f0.toList) = true:=beq_self_eq_true _
 have hd:=idxP_nonneg (fun x : Cls=>x.f0.toList == t[i].f0.toList) (t.take i)
 unfold named
 by_cases hA : ∀ j (hj : j < t.length),j < i → (t[j].f0.toList == t[i].f0.toList) = false
 ·have h1 : idxP (fun x : Cls=>x.f0.toList == t[i].f0.toList) t = (i : Int):=idxP_hit _ t i hi hself hA
  have h2 : (t.take i).any (fun x : Cls=>x.f0.toList == t[i].f0.toList) = false:=by
   rw [List.any_eq_false]
   intro x hx
   obtain ⟨j,hj,rfl⟩:=List.getElem_of_mem hx
   have hj2 : j < i ∧ j < t.length:=by simp at hj;omega
   rw [List.getElem_take]
   simp [hA j hj2.2 hj2.1]
  rw [h2,decide_eq_false_iff_not] at hd
  constructor
  ·intro h;exact absurd h hd
  ·intro h;exact absurd h1 h
 ·have hex : ∃ j,∃ hj : j < t.length,j < i ∧ (t[j].f0.toList == t[i].f0.toList) = true:=by
   apply Classical.byContradiction
   intro hn
   apply hA
   intro j hj hji
   cases hb : (t[j].f0.toList == t[i].f0.toList) with
   | false=>rfl
   | true=>exact absurd ⟨j,hj,hji,hb⟩ hn
  obtain ⟨j,hj,hji,hb⟩:=hex
  have h2 : (t.take i).any (fun x : Cls=>x.f0.toList == t[i].f0.toList) = true:=by
   rw [List.any_eq_true]
   exact ⟨t[j],List.mem_take_iff_getElem.2 ⟨j,by omega,rfl⟩,hb⟩
  rw [h2,decide_eq_true_eq] at hd
  constructor
  ·intro _ h
   unfold idxP at h
   cases hf : t.findIdx? (fun x : Cls=>x.f0.toList == t[i].f0.toList) with
   | none=>rw [hf] at h;simp at h
   | some m =>
    rw [hf] at h
    have hm : m = i:=by have h' : (m : Int) = (i : Int):=h;omega
    subst hm
    rw [List.findIdx?_eq_some_iff_getElem] at hf
    obtain ⟨_,_,hf⟩:=hf
    exact absurd hb (by simpa using hf j hji)
  ·intro _;exact hd
def spec_validTree.f (l0_0 : List (S87)) : Option Bool:=if smT l0_0 = true then some (vT l0_0) else none
set_option maxHeartbeats 4000000 in
set_option maxRecDepth 100000 in
theorem spec_validTree.calls (A0_0 : Option Addr) (c0_0 : Nat) (l0_0 : List (S87)) (r : Bool) (w : World) (hr0_0 : Kd.C k87 w A0_0 l0_0.length l0_0) (hc0_0 : l0_0.length ≤ c0_0) (h : spec_validTree.f l0_0 = some r) :
  Calls Try.prog 74 #[.agg #[.slice A0_0 l0_0.length c0_0]] w fun e w'=>e = .returned (.bool r) ∧ Below w.heap.size w w':=by
 have hu31:=Try.underlying25
 have hsm : smT l0_0 = true:=by
  apply Classical.byContradiction
  intro hn
  rw [spec_validTree.f,if_neg hn] at h
  cases h
 rw [spec_validTree.f,if_pos hsm] at h
 have HRr:=a0_ (Option.some.inj h)
 have HSM:=a0_ hsm
 have HR:=a0_ hr0_0
 have hmax : l0_0.length ≤ 9223372036854775807:=hr0_0.2.1
 clear h hsm hr0_0
 go_enter Try.func74,Try.ntmps74
 go_wp2
 go_loopg [3] l0_0.length (fun gg s3 wr=>∃ kk : Nat,kk ≤ l0_0.length ∧ l0_0.length - kk ≤ gg ∧ s3 = .int .i64 kk ∧ Aside0 (Below w.heap.size w wr) ∧ Aside0 (wr.heap[w.heap.size]? = some (.cells #[.slice A0_0 l0_0.length c0_0] 25 (0,0))) ∧ Aside0 (∀ j,j < kk → okCls l0_0 j (l0_0.getD j z87) = true))
 case atStart=>exact ⟨0,Nat.zero_le _,by omega,rfl,⟨below1 w _⟩,⟨heap_new1 w _⟩,⟨fun j hj=>absurd hj (Nat.not_lt_zero _)⟩⟩
 case round =>
  obtain ⟨kk,hkk,hg,rfl,BW,BK,HA⟩:=hrel
  have hcz : wr.cell? ⟨w.heap.size,0,none⟩ = some (.slice A0_0 l0_0.length c0_0):=(blk_cell BK.out 0).trans rfl
  by_cases hlt : kk < l0_0.length
  ·have hltz : (kk : Int) < (l0_0.length : Int):=by omega
   obtain ⟨ad,ea,hx0,hx1⟩:=at_T87 HR.out (kk : Int) (by omega) (by omega)
   cases ea
   have hrd : rd_T87 l0_0 (kk : Int) = l0_0[kk]:=by simp [rd_T87,hlt]
   rw [hrd] at hx0 hx1
   rw [Int.toNat_natCast] at hx0 hx1
   replace hx0:=(BW.out.cell (World.block_lt_of_cell? w _ hx0)).trans hx0
   replace hx1:=(BW.out.cell (World.block_lt_of_cell? w _ hx1)).trans hx1
   clear hrd
   generalize hy : l0_0[kk] = y at hx0 hx1
   have B:=a0_ hy
   clear hy
   go_upto_region 5 with (fail)
   have hW1:=a0_ (below_alloc BW.out (.cells #[.string y.f0,.int .i64 y.f1] 87))
   have hW2:=a0_ (blk_alloc BK.out (.cells #[.string y.f0,.int .i64 y.f1] 87))
   have hW3:=(blk_cell hW2.out 0).trans rfl
   have hW4:=(blk_cell (heap_new1 wr (.cells #[.string y.f0,.int .i64 y.f1] 87)) 0).trans rfl
   have hW5:=(blk_cell (heap_new1 wr (.cells #[.string y.f0,.int .i64 y.f1] 87)) 1).trans rfl
   clear hcz hx0 hx1 BW BK
   generalize wr.alloc (.cells #[.string y.f0,.int .i64 y.f1] 87) = W1 at hW1 hW2 hW3 hW4 hW5 ⊢
   generalize wr.heap.size = gb at hW4 hW5 ⊢
   have hy1 : y.f0.size ≤ 9223372036854775806:=by rw [← B.out];exact smT_at HSM.out kk hlt
   have A1:=a0_ (spec_validName_ev y.f0 (by omega))
   have hlen : (l0_0.take kk).length = kk:=by simp;omega
   have hcn0:=fun (W : World) (hW : Below w.heap.size w W)=>spec_classNamed.calls _ (some ad) c0_0 (l0_0.take kk) y.f0 _ W (by
    have h1:=Kd.C_take (Kd.C_below HR.out hW) (show kk ≤ l0_0.length by omega)
    exact h1) (by rw [hlen];omega) (spec_classNamed_ev (l0_0.take kk) y.f0 (by rw [hlen];omega))
   rw [hlen] at hcn0
   have hahead:=named_ahead l0_0 kk hlt
   rw [B.out] at hahead
   have hok : okCls l0_0 kk (l0_0.getD kk z87) = okCls l0_0 kk y:=by
    rw [← B.out];simp [List.getD,hlt]
   have hdef : okCls l0_0 kk y = (okName y.f0 && (decide (named l0_0 y.f0 = (kk : Int)) && (if kk = 0 then decide (y.f1 = -1) else decide (0 ≤ y.f1) && decide (y.f1 ≤ (kk : Int) - 1)))):=rfl
   generalize hnn : named (l0_0.take kk) y.f0 = nn at hcn0 hahead
   have HCN:=a0_ hcn0
   have HAH:=a0_ hahead
   have HOK:=a0_ hok
   have HDF:=a0_ hdef
   clear hcn0 hahead hok hdef hnn hlen hy1
   have hcut : ∀ W : World,(Instr.slice 23 (.slice (some ad) l0_0.length c0_0) none (some (.int .i64 (kk : Int))) none).run Try.prog W = .ok (.slice (some ad) kk c0_0) W:=by
    obtain ⟨i0,hi0,_,hsz,_⟩:=info_parts info87
    have h1:=cut_to (P:=Try.prog) 23 87 .i64 Try.underlying23 hi0 (some ad) l0_0.length c0_0 (kk : Int) (by omega) (by omega) hc0_0
    rw [Int.toNat_natCast] at h1
    exact h1
   go_cut [51] (fun v51 wc=>v51 = .bool (!okCls l0_0 kk y) ∧ Aside0 (Below w.heap.size w wc) ∧ Aside0 (wc.heap[w.heap.size]? = some (.cells #[.slice (some ad) l0_0.length c0_0] 25 (0,0))))
   case first =>
    have hw1 : IntKind.i64.wrap ((kk : Int) - 1) = (kk : Int) - 1:=by rw [IntKind.wrap_i64];omega
    have A2:=a0_ (show spec_inRange.f y.f1 0 ((kk : Int) - 1) = some (decide (0 ≤ y.f1) && decide (y.f1 ≤ (kk : Int) - 1)) by
     unfold spec_inRange.f
     by_cases h0 : 0 ≤ y.f1
     ·rw [if_pos h0];simp [h0]
     ·rw [if_neg h0];simp [h0])
    cases hb1 : okName y.f0 with
    | false =>
     rw [hb1] at A1
     have BV : okCls l0_0 kk y = false:=by rw [HDF.out,hb1];rfl
     clear HDF HAH HOK
     go_quiet (first
     | (go_at_call 83;(with_reducible refine (spec_validName.calls _ y.f0 _ _ A1.out).mono ?_);rintro e w' ⟨rfl,⟨nd,rfl⟩⟩;exact ⟨rfl,_,World.drewN_drewN _ _ _⟩)
     | (go_at_call 84;(with_reducible refine (HCN.out _ (pw_below_drewN hW1.out _)).mono ?_);rintro e w' ⟨rfl,⟨nd,rfl⟩⟩;exact ⟨rfl,_,World.drewN_drewN _ _ _⟩)
     | (go_at_call 71;(with_reducible refine (spec_inRange.calls y.f1 0 ((kk : Int) - 1) _ _ A2.out).mono ?_);rintro e w' ⟨rfl,⟨nd,rfl⟩⟩;exact ⟨rfl,_,World.drewN_drewN _ _ _⟩))
     go_wp2
     go_meet
     case rel=>exact ⟨by (rw [BV]);first | rfl | (simp [*];done),⟨pw_below_drewN hW1.out _⟩,⟨blk_drewN hW2.out _⟩⟩
    | true =>
     rw [hb1] at A1
     by_cases hb2 : nn ≥ 0
     ·have BV : okCls l0_0 kk y = false:=by rw [HDF.out,hb1,decide_eq_false (HAH.out.1 hb2)];rfl
      have d2 : decide (0 ≤ nn) = true:=decide_eq_true hb2
      clear HDF HAH HOK hb2
      go_quiet (first
     | (go_at_call 83;(with_reducible refine (spec_validName.calls _ y.f0 _ _ A1.out).mono ?_);rintro e w' ⟨rfl,⟨nd,rfl⟩⟩;exact ⟨rfl,_,World.drewN_drewN _ _ _⟩)
     | (go_at_call 84;(with_reducible refine (HCN.out _ (pw_below_drewN hW1.out _)).mono ?_);rintro e w' ⟨rfl,⟨nd,rfl⟩⟩;exact ⟨rfl,_,World.drewN_drewN _ _ _⟩)
     | (go_at_call 71;(with_reducible refine (spec_inRange.calls y.f1 0 ((kk : Int) - 1) _ _ A2.out).mono ?_);rintro e w' ⟨rfl,⟨nd,rfl⟩⟩;exact ⟨rfl,_,World.drewN_drewN _ _ _⟩))
      go_wp2
      go_meet
      case rel=>exact ⟨by (rw [BV]);first | rfl | (simp [*];done),⟨pw_below_drewN hW1.out _⟩,⟨blk_drewN hW2.out _⟩⟩
     ·have hnm : named l0_0 y.f0 = (kk : Int):=Classical.byContradiction fun hn=>hb2 (HAH.out.2 hn)
      have d2 : decide (0 ≤ nn) = false:=decide_eq_false hb2
      have BV0 : okCls l0_0 kk y = (if kk = 0 then decide (y.f1 = -1) else decide (0 ≤ y.f1) && decide (y.f1 ≤ (kk : Int) - 1)):=by rw [HDF.out,hb1,decide_eq_true hnm];rfl
      clear HDF HAH HOK hb2 hnm
      by_cases hk0 : kk = 0
      ·have BV : okCls l0_0 kk y = decide (y.f1 = -1):=by rw [BV0,if_pos hk0]
       have e0 : ((kk : Int) == 0) = true:=beq_iff_eq.2 (by omega)
       have e1 : decide (0 < (kk : Int)) = false:=decide_eq_false (by omega)
       have e1n : decide (0 < kk) = false:=decide_eq_false (by omega)
       clear BV0
       by_cases hp : y.f1 = -1
       ·have e2 : (y.f1 != -1) = false:=by rw [hp];rfl
        have e3 : (y.f1 == -1) = true:=by rw [hp];rfl
        rw [decide_eq_true hp] at BV
        clear hp hk0
        go_quiet (first
     | (go_at_call 83;(with_reducible refine (spec_validName.calls _ y.f0 _ _ A1.out).mono ?_);rintro e w' ⟨rfl,⟨nd,rfl⟩⟩;exact ⟨rfl,_,World.drewN_drewN _ _ _⟩)
     | (go_at_call 84;(with_reducible refine (HCN.out _ (pw_below_drewN hW1.out _)).mono ?_);rintro e w' ⟨rfl,⟨nd,rfl⟩⟩;exact ⟨rfl,_,World.drewN_drewN _ _ _⟩)
     | (go_at_call 71;(with_reducible refine (spec_inRange.calls y.f1 0 ((kk : Int) - 1) _ _ A2.out).mono ?_);rintro e w' ⟨rfl,⟨nd,rfl⟩⟩;exact ⟨rfl,_,World.drewN_drewN _ _ _⟩))
        go_wp2
        go_meet
        case rel=>exact ⟨by (rw [BV]);first | rfl | (simp [*];done),⟨pw_below_drewN hW1.out _⟩,⟨blk_drewN hW2.out _⟩⟩
       ·have e2 : (y.f1 != -1) = true:=bne_iff_ne.2 hp
        have e3 : (y.f1 == -1) = false:=beq_eq_false_iff_ne.2 hp
        rw [decide_eq_false hp] at BV
        clear hp hk0
        go_quiet (first
     | (go_at_call 83;(with_reducible refine (spec_validName.calls _ y.f0 _ _ A1.out).mono ?_);rintro e w' ⟨rfl,⟨nd,rfl⟩⟩;exact ⟨rfl,_,World.drewN_drewN _ _ _⟩)
     | (go_at_call 84;(with_reducible refine (HCN.out _ (pw_below_drewN hW1.out _)).mono ?_);rintro e w' ⟨rfl,⟨nd,rfl⟩⟩;exact ⟨rfl,_,World.drewN_drewN _ _ _⟩)
     | (go_at_call 71;(with_reducible refine (spec_inRange.calls y.f1 0 ((kk : Int) - 1) _ _ A2.out).mono ?_);rintro e w' ⟨rfl,⟨nd,rfl⟩⟩;exact ⟨rfl,_,World.drewN_drewN _ _ _⟩))
        go_wp2
        go_meet
        case rel=>exact ⟨by (rw [BV]);first | rfl | (simp [*];done),⟨pw_below_drewN hW1.out _⟩,⟨blk_drewN hW2.out _⟩⟩
      ·have BV : okCls l0_0 kk y = (decide (0 ≤ y.f1) && decide (y.f1 ≤ (kk : Int) - 1)):=by rw [BV0,if_neg hk0]
       have e0 : ((kk : Int) == 0) = false:=beq_eq_false_iff_ne.2 (by omega)
       have e1 : decide (0 < (kk : Int)) = true:=decide_eq_true (by omega)
       have e1n : decide (0 < kk) = true:=decide_eq_true (by omega)
       rw [← BV] at A2
       clear BV BV0 hk0
       cases BV : okCls l0_0 kk y with
       | false =>
        rw [BV] at A2
        go_quiet (first
     | (go_at_call 83;(with_reducible refine (spec_validName.calls _ y.f0 _ _ A1.out).mono ?_);rintro e w' ⟨rfl,⟨nd,rfl⟩⟩;exact ⟨rfl,_,World.drewN_drewN _ _ _⟩)
     | (go_at_call 84;(with_reducible refine (HCN.out _ (pw_below_drewN hW1.out _)).mono ?_);rintro e w' ⟨rfl,⟨nd,rfl⟩⟩;exact ⟨rfl,_,World.drewN_drewN _ _ _⟩)
     | (go_at_call 71;(with_reducible refine (spec_inRange.calls y.f1 0 ((kk : Int) - 1) _ _ A2.out).mono ?_);rintro e w' ⟨rfl,⟨nd,rfl⟩⟩;exact ⟨rfl,_,World.drewN_drewN _ _ _⟩))
        go_wp2
        go_meet
        case rel=>exact ⟨by (rw [BV]);first | rfl | (simp [*];done),⟨pw_below_drewN hW1.out _⟩,⟨blk_drewN hW2.out _⟩⟩
       | true =>
        rw [BV] at A2
        go_quiet (first
     | (go_at_call 83;(with_reducible refine (spec_validName.calls _ y.f0 _ _ A1.out).mono ?_);rintro e w' ⟨rfl,⟨nd,rfl⟩⟩;exact ⟨rfl,_,World.drewN_drewN _ _ _⟩)
     | (go_at_call 84;(with_reducible refine (HCN.out _ (pw_below_drewN hW1.out _)).mono ?_);rintro e w' ⟨rfl,⟨nd,rfl⟩⟩;exact ⟨rfl,_,World.drewN_drewN _ _ _⟩)
     | (go_at_call 71;(with_reducible refine (spec_inRange.calls y.f1 0 ((kk : Int) - 1) _ _ A2.out).mono ?_);rintro e w' ⟨rfl,⟨nd,rfl⟩⟩;exact ⟨rfl,_,World.drewN_drewN _ _ _⟩))
        go_wp2
        go_meet
        case rel=>exact ⟨by (rw [BV]);first | rfl | (simp [*];done),⟨pw_below_drewN hW1.out _⟩,⟨blk_drewN hW2.out _⟩⟩
   case rest =>
    obtain ⟨rfl,hW,hK⟩:=hcut
    have hb:=HOK.out
    cases BV : okCls l0_0 kk y with
    | false =>
     go_wp2
     go_ret
     refine ⟨?_,hW.out⟩
     rw [← HRr.out]
     have : vT l0_0 = false:=by
      cases hv : vT l0_0 with
      | false=>rfl
      | true=>have:=vT_at hv kk hlt;rw [HOK.out,BV] at this;cases this
     rw [this];rfl
    | true =>
     go_wp2
     go_roundg (l0_0.length - (kk + 1))
     case measure=>omega
     case rel =>
      refine ⟨kk + 1,by omega,by omega,by go_num,⟨hW.out⟩,⟨hK.out⟩,⟨fun j hj=>?_⟩⟩
      by_cases e : j = kk
      ·subst e;rw [HOK.out,BV]
      ·exact HA.out j (by omega)
  ·have hltz : ¬ (kk : Int) < (l0_0.length : Int):=by omega
   have : kk = l0_0.length:=by omega
   subst this
   have A3:=a0_ (show spec_inRange.f (l0_0.length : Int) 1 8 = some (vT l0_0) by
    have hall : (List.range l0_0.length).all (fun i=>okCls l0_0 i (l0_0.getD i z87)) = true:=by
     rw [List.all_eq_true];intro i hi;exact HA.out i (by simpa using hi)
    unfold spec_inRange.f vT
    rw [hall]
    by_cases h1 : (1 : Int) ≤ l0_0.length
    ·rw [if_pos h1]
     have h1' : 1 ≤ l0_0.length:=by omega
     by_cases h8 : l0_0.length ≤ 8
     ·simp [h1',h8];omega
     ·simp [h8];omega
    ·rw [if_neg h1]
     have h1' : ¬ 1 ≤ l0_0.length:=by omega
     simp [h1'])
   rw [HRr.out] at A3
   go_wp2_with (go_at_call 71;(with_reducible refine (spec_inRange.calls (l0_0.length : Int) 1 8 _ _ A3.out).mono ?_);rintro e w' ⟨rfl,⟨nd,rfl⟩⟩)
   go_ret
   exact ⟨rfl,pw_below_drewN BW.out _⟩
end Go.Proofs.Ytmiholmfbjalfaa.P
namespace Go.Proofs.Ytmiholmfbjalfaa.P
open Go.RowKit Go.Proofs.YtmiholmfbjalfaaW.PrintWords Go.Proofs.YtmiholmfbjalfaaW.PrintLast Go.Proofs.YtmiholmfbjalfaaW.PrintMore
attribute [local go_sem] max2_int min2_int max_two min_two max_three min_three max_four min_four
set_option linter.unusedVariables false
set_option linter.unusedSimpArgs false
mutual
def spec_validHeap.l0 : Nat → Int → List (S87) → List (S43) → Option (Bool)
 | 0,_,_,_=>none
 | k + 1,x5,x2000,x3000=>if x5 < (x3000.length : Int) then (if 0 ≤ x5 then ((spec_hasClass.f x2000 ((rd_T43 x3000 x5).f0)).bind fun t5=>(if t5 = true then ((spec_inRange.f ((rd_T43 x3000 x5).f1) 0 99).bind fun t6=>(if t6 = true then ((spec_validLinks.f x3000 x5).bind fun t7=>(if t7 = true then (spec_validHeap.l0 k (wrap64 (x5 + 1)) x2000 x3000) else (some false))) else (some false))) else (some false))) else (none)) else (spec_validHeap.l1 k 0 x2000 x3000)
def spec_validHeap.l1 : Nat → Int → List (S87) → List (S43) → Option (Bool)
 | 0,_,_,_=>none
 | k + 1,x7,x2000,x3000=>if x7 < (x3000.length : Int) then ((spec_contexts.f k x3000 x7).bind fun t8=>(if 0 ≤ (wrap64 ((t8.length : Int) - 1)) then (if (wrap64 ((t8.length : Int) - 1)) < (t8.length : Int) then (if 0 ≤ (rd t8 (wrap64 ((t8.length : Int) - 1))) then (if (rd t8 (wrap64 ((t8.length : Int) - 1))) < (x3000.length : Int) then (if ((rd_T43 x3000 (rd t8 (wrap64 ((t8.length : Int) - 1)))).f3) ≥ 0 then (some false) else (spec_validHeap.l1 k (wrap64 (x7 + 1)) x2000 x3000)) else (none)) else (none)) else (none)) else (none))) else ((spec_validTree.f x2000).bind fun t13=>(if t13 = true then (some (decide ((x3000.length : Int) ≤ 24))) else (some false)))
end
def spec_validHeap.f (k : Nat) (l0_0 : List (S87)) (l1_0 : List (S43)) : Option (Bool):=spec_validHeap.l0 k 0 l0_0 l1_0
theorem spec_validHeap.mono_l : ∀ k,(∀ y0 y1 y2,LeO (spec_validHeap.l0 k y0 y1 y2) (spec_validHeap.l0 (k + 1) y0 y1 y2)) ∧ (∀ y0 y1 y2,LeO (spec_validHeap.l1 k y0 y1 y2) (spec_validHeap.l1 (k + 1) y0 y1 y2))
 | 0=>⟨fun _ _ _ r h=>by simp [spec_validHeap.l0] at h,fun _ _ _ r h=>by simp [spec_validHeap.l1] at h⟩
 | k + 1=>by
  obtain ⟨ih0,ih1⟩:=spec_validHeap.mono_l k
  refine ⟨?_,?_⟩
  ·intro y0 y1 y2
   unfold spec_validHeap.l0
   repeat' first
   | (with_reducible exact ih0 _ _ _)
   | (with_reducible exact ih1 _ _ _)
   | (with_reducible exact spec_contexts.mono _ _ _)
   | (with_reducible exact LeO.refl _)
   | (with_reducible exact LeO.none _)
   | (with_reducible refine LeO.ite ?_ ?_)
   | (with_reducible refine LeO.bind ?_ (fun _=>?_))
   | exact ih0 _ _ _
   | exact ih1 _ _ _
   | exact spec_contexts.mono _ _ _
   | exact LeO.none _
   | refine LeO.ite ?_ ?_
   | refine LeO.bind ?_ (fun _=>?_)
  ·intro y0 y1 y2
   unfold spec_validHeap.l1
   repeat' first
   | (with_reducible exact ih0 _ _ _)
   | (with_reducible exact ih1 _ _ _)
   | (with_reducible exact spec_contexts.mono _ _ _)
   | (with_reducible exact LeO.refl _)
   | (with_reducible exact LeO.none _)
   | (with_reducible refine LeO.ite ?_ ?_)
   | (with_reducible refine LeO.bind ?_ (fun _=>?_))
   | exact ih0 _ _ _
   | exact ih1 _ _ _
   | exact spec_contexts.mono _ _ _
   | exact LeO.none _
   | refine LeO.ite ?_ ?_
   | refine LeO.bind ?_ (fun _=>?_)
theorem spec_validHeap.mono : ∀ a0 a1 k,LeO (spec_validHeap.f k a0 a1) (spec_validHeap.f (k + 1) a0 a1):=by
 intro a0 a1 k
 obtain ⟨ih0,ih1⟩:=spec_validHeap.mono_l k
 unfold spec_validHeap.f
 repeat' first
   | (with_reducible exact ih0 _ _ _)
   | (with_reducible exact ih1 _ _ _)
   | (with_reducible exact spec_contexts.mono _ _ _)
   | (with_reducible exact LeO.refl _)
   | (with_reducible exact LeO.none _)
   | (with_reducible refine LeO.ite ?_ ?_)
   | (with_reducible refine LeO.bind ?_ (fun _=>?_))
   | exact ih0 _ _ _
   | exact ih1 _ _ _
   | exact spec_contexts.mono _ _ _
   | exact LeO.none _
   | refine LeO.ite ?_ ?_
   | refine LeO.bind ?_ (fun _=>?_)
set_option maxHeartbeats 8000000 in
set_option maxRecDepth 100000 in
theorem spec_validHeap.calls (k : Nat) (A0_0 : Option Addr) (c0_0 : Nat) (l0_0 : List (S87)) (A1_0 : Option Addr) (c1_0 : Nat) (l1_0 : List (S43)) (r : Bool) (w : World) (hr0_0 : Kd.C k87 w A0_0 l0_0.length l0_0) (hc0_0 : l0_0.length ≤ c0_0) (hr1_0 : Kd.C k43 w A1_0 l1_0.length l1_0) (hc1_0 : l1_0.length ≤ c1_0) (h : spec_validHeap.f k l0_0 l1_0 = some r) :
  Calls Try.prog 46 #[.agg #[.slice A0_0 l0_0.length c0_0],.agg #[.slice A1_0 l1_0.length c1_0]] w fun e w'=>e = .returned (.bool r) ∧ Below w.heap.size w w':=by
 have hu25:=Try.underlying25
 have hu28:=Try.underlying28
 have hu43:=Try.underlying43
 have HR0_0:=a0_ hr0_0
 have HC0_0:=a0_ hc0_0
 clear hr0_0 hc0_0
 have HR1_0:=a0_ hr1_0
 have HC1_0:=a0_ hc1_0
 clear hr1_0 hc1_0
 have HB:=a0_ (Below.refl w.heap.size w)
 have H : (spec_validHeap.l0 k 0 l0_0 l1_0) = some r:=h
 clear h
 have H':=a0_ H
 clear H
 go_enter Try.func46,Try.ntmps46
 go_wp2_with (first | ((with_reducible refine gate_dst (N:=2) rfl ?_);(try (refine gate_guard (by rfl) ?_;dsimp only));refine box_event ?hg (N:=2) ?hd (cs:=#[.slice A0_0 l0_0.length c0_0]) (t:=25) ?hr ?_;(case hd=>rfl);(case hg=>rfl);(case hr=>first | (go_simp;done) | (go_simp;rfl));intro gb1 hg w3 hbox hb;have BK1:=a0_ (hbox);have GW1:=a0_ ((by rw [hg];exact (below_size hb_) : w.heap.size ≤ gb1));have GE1:=a0_ ((by rw [hg];exact (below_size hb_) : w.heap.size ≤ gb1));replace HB:=a0_ (below_step hb_ hb);clear hb hbox hg) | ((with_reducible refine gate_dst (N:=3) rfl ?_);(try (refine gate_guard (by rfl) ?_;dsimp only));refine box_event ?hg (N:=3) ?hd (cs:=#[.slice A1_0 l1_0.length c1_0]) (t:=28) ?hr ?_;(case hd=>rfl);(case hg=>rfl);(case hr=>first | (go_simp;done) | (go_simp;rfl));intro gb2 hg w4 hbox hb;have n0_:=kb_ BK1 hb;have n1_:=a0_ (below_step hb_ hb);have n2_:=a0_ (hbox);have n3_:=a0_ ((by rw [hg];exact (below_size hb_) : w.heap.size ≤ gb2));have n4_:=a0_ ((by rw [hg];exact (below_size hb_) : w.heap.size ≤ gb2));have n5_:=a0_ ((by rw [hg];exact Nat.ne_of_lt (blk_lt (bb_ BK1.out)) : gb1 ≠ gb2));have n6_:=a0_ ((by rw [hg];exact Nat.ne_of_gt (blk_lt (bb_ BK1.out)) : gb2 ≠ gb1));clear BK1 HB;have BK1:=n0_;have HB:=n1_;have BK2:=n2_;have GW2:=n3_;have GE2:=n4_;have NB1_2:=n5_;have NB2_1:=n6_;clear n0_ n1_ n2_ n3_ n4_ n5_ n6_;clear hb hbox hg))
 repeat (go_quiet (first | ((with_reducible refine gate_dst (N:=2) rfl ?_);(try (refine gate_guard (by rfl) ?_;dsimp only));refine box_event ?hg (N:=2) ?hd (cs:=#[.slice A0_0 l0_0.length c0_0]) (t:=25) ?hr ?_;(case hd=>rfl);(case hg=>rfl);(case hr=>first | (go_simp;done) | (go_simp;rfl));intro gb1 hg w3 hbox hb;have BK1:=a0_ (hbox);have GW1:=a0_ ((by rw [hg];exact (below_size hb_) : w.heap.size ≤ gb1));have GE1:=a0_ ((by rw [hg];exact (below_size hb_) : w.heap.size ≤ gb1));replace HB:=a0_ (below_step hb_ hb);clear hb hbox hg) | ((with_reducible refine gate_dst (N:=3) rfl ?_);(try (refine gate_guard (by rfl) ?_;dsimp only));refine box_event ?hg (N:=3) ?hd (cs:=#[.slice A1_0 l1_0.length c1_0]) (t:=28) ?hr ?_;(case hd=>rfl);(case hg=>rfl);(case hr=>first | (go_simp;done) | (go_simp;rfl));intro gb2 hg w4 hbox hb;have n0_:=kb_ BK1 hb;have n1_:=a0_ (below_step hb_ hb);have n2_:=a0_ (hbox);have n3_:=a0_ ((by rw [hg];exact (below_size hb_) : w.heap.size ≤ gb2));have n4_:=a0_ ((by rw [hg];exact (below_size hb_) : w.heap.size ≤ gb2));have n5_:=a0_ ((by rw [hg];exact Nat.ne_of_lt (blk_lt (bb_ BK1.out)) : gb1 ≠ gb2));have n6_:=a0_ ((by rw [hg];exact Nat.ne_of_gt (blk_lt (bb_ BK1.out)) : gb2 ≠ gb1));clear BK1 HB;have BK1:=n0_;have HB:=n1_;have BK2:=n2_;have GW2:=n3_;have GE2:=n4_;have NB1_2:=n5_;have NB2_1:=n6_;clear n0_ n1_ n2_ n3_ n4_ n5_ n6_;clear hb hbox hg));try go_wp2_with (first | ((with_reducible refine gate_dst (N:=2) rfl ?_);(try (refine gate_guard (by rfl) ?_;dsimp only));refine box_event ?hg (N:=2) ?hd (cs:=#[.slice A0_0 l0_0.length c0_0]) (t:=25) ?hr ?_;(case hd=>rfl);(case hg=>rfl);(case hr=>first | (go_simp;done) | (go_simp;rfl));intro gb1 hg w3 hbox hb;have BK1:=a0_ (hbox);have GW1:=a0_ ((by rw [hg];exact (below_size hb_) : w.heap.size ≤ gb1));have GE1:=a0_ ((by rw [hg];exact (below_size hb_) : w.heap.size ≤ gb1));replace HB:=a0_ (below_step hb_ hb);clear hb hbox hg) | ((with_reducible refine gate_dst (N:=3) rfl ?_);(try (refine gate_guard (by rfl) ?_;dsimp only));refine box_event ?hg (N:=3) ?hd (cs:=#[.slice A1_0 l1_0.length c1_0]) (t:=28) ?hr ?_;(case hd=>rfl);(case hg=>rfl);(case hr=>first | (go_simp;done) | (go_simp;rfl));intro gb2 hg w4 hbox hb;have n0_:=kb_ BK1 hb;have n1_:=a0_ (below_step hb_ hb);have n2_:=a0_ (hbox);have n3_:=a0_ ((by rw [hg];exact (below_size hb_) : w.heap.size ≤ gb2));have n4_:=a0_ ((by rw [hg];exact (below_size hb_) : w.heap.size ≤ gb2));have n5_:=a0_ ((by rw [hg];exact Nat.ne_of_lt (blk_lt (bb_ BK1.out)) : gb1 ≠ gb2));have n6_:=a0_ ((by rw [hg];exact Nat.ne_of_gt (blk_lt (bb_ BK1.out)) : gb2 ≠ gb1));clear BK1 HB;have BK1:=n0_;have HB:=n1_;have BK2:=n2_;have GW2:=n3_;have GE2:=n4_;have NB1_2:=n5_;have NB2_1:=n6_;clear n0_ n1_ n2_ n3_ n4_ n5_ n6_;clear hb hbox hg)))
 go_loopg [5] k (fun kq v5 w'=>∃ (x5_1 : Int),v5 = .int .i64 x5_1 ∧ Aside0 (spec_validHeap.l0 kq x5_1 l0_0 l1_0 = some r) ∧ Aside0 (kq ≤ k) ∧ Aside0 (w'.heap[gb1]? = some (.cells #[(.slice A0_0 l0_0.length c0_0)] 25 (0,0))) ∧ Aside0 (w'.heap[gb2]? = some (.cells #[(.slice A1_0 l1_0.length c1_0)] 28 (0,0))) ∧ Aside0 (Below w.heap.size w w'))
 case atStart=>exact ⟨(0),(by first | rfl | (simp;done) | (simp [*];done)),H',⟨Nat.le_refl _⟩,⟨by (with_reducible repeat (first | refine blk_drewN ?_ _ | refine blk_drew ?_ | refine blk_alloc ?_ _));exact BK1.out⟩,⟨by (with_reducible repeat (first | refine blk_drewN ?_ _ | refine blk_drew ?_ | refine blk_alloc ?_ _));exact BK2.out⟩,⟨hb_⟩⟩
 case round =>
  clear H'
  try clear c1
  try clear p2
  try clear c4
  obtain ⟨x5_1,rfl,HA,HK1,BK1,BK2,HB⟩:=hrel
  cases gk with
  | zero=>exact absurd HA.out (by simp [spec_validHeap.l0])
  | succ k1 =>
   have H:=HA.out
   clear HA
   simp only [spec_validHeap.l0] at H
   by_cases c5 : x5_1 < (l1_0.length : Int)
   ·rw [if_pos c5] at H
    have c5b0 : decide (x5_1 < (l1_0.length : Int)) = true:=decide_eq_true c5
    clear c5
    by_cases c6 : 0 ≤ x5_1
    ·rw [if_pos c6] at H
     have c6b0 : decide (0 ≤ x5_1) = true:=decide_eq_true c6
     clear c6
     replace H:=Option.bind_eq_some_iff.mp H
     obtain ⟨t5,A70,H⟩:=H
     try dsimp only at H
     have A7:=a0_ A70
     clear A70
     by_cases c8 : t5 = true
     ·subst c8
      have H1 : ((spec_inRange.f ((rd_T43 l1_0 x5_1).f1) 0 99).bind fun t6=>(if t6 = true then ((spec_validLinks.f l1_0 x5_1).bind fun t7=>(if t7 = true then (spec_validHeap.l0 k1 (wrap64 (x5_1 + 1)) l0_0 l1_0) else (some false))) else (some false))) = some r:=by rw [if_pos rfl] at H;exact H
      clear H
      have H:=H1
      clear H1
      replace H:=Option.bind_eq_some_iff.mp H
      obtain ⟨t6,A90,H⟩:=H
      try dsimp only at H
      have A9:=a0_ A90
      clear A90
      by_cases c10 : t6 = true
      ·subst c10
       have H1 : ((spec_validLinks.f l1_0 x5_1).bind fun t7=>(if t7 = true then (spec_validHeap.l0 k1 (wrap64 (x5_1 + 1)) l0_0 l1_0) else (some false))) = some r:=by rw [if_pos rfl] at H;exact H
       clear H
       have H:=H1
       clear H1
       replace H:=Option.bind_eq_some_iff.mp H
       obtain ⟨t7,A110,H⟩:=H
       try dsimp only at H
       have A11:=a0_ A110
       clear A110
       by_cases c12 : t7 = true
       ·subst c12
        have H1 : (spec_validHeap.l0 k1 (wrap64 (x5_1 + 1)) l0_0 l1_0) = some r:=by rw [if_pos rfl] at H;exact H
        clear H
        have H:=H1
        clear H1
        have H':=a0_ H
        clear H
        have hnb13:=NB2_1.out
        have hnc13:=NB1_2.out
        have hcz14_0 : wr.cell? ⟨gb2,0,none⟩ = some (.slice A1_0 l1_0.length c1_0):=(blk_cell BK2.out 0).trans rfl
        have hfz14_0:=blk_frozen BK2.out 0
        have p3 : 0 ≤ (x5_1 : Int):=of_decide_eq_true (by first | (with_reducible assumption) | assumption)
        have q3 : x5_1 < (l1_0.length : Int):=of_decide_eq_true (by first | (with_reducible assumption) | assumption)
        obtain ⟨ad3,e3,hx3_0,hx3_1,hx3_2,hx3_3,hx3_4⟩:=at_T43 HR1_0.out x5_1 p3 q3
        cases e3
        replace hx3_0:=(HB.out.cell (World.block_lt_of_cell? w _ hx3_0)).trans hx3_0
        replace hx3_1:=(HB.out.cell (World.block_lt_of_cell? w _ hx3_1)).trans hx3_1
        replace hx3_2:=(HB.out.cell (World.block_lt_of_cell? w _ hx3_2)).trans hx3_2
        replace hx3_3:=(HB.out.cell (World.block_lt_of_cell? w _ hx3_3)).trans hx3_3
        replace hx3_4:=(HB.out.cell (World.block_lt_of_cell? w _ hx3_4)).trans hx3_4
        replace p3:=eq_true p3
        replace q3:=eq_true q3
        go_wp2_with (first | ((with_reducible refine gate_dst (N:=6) rfl ?_);(try (refine gate_guard (by rfl) ?_;dsimp only));refine box_event ?hg (N:=6) ?hd (cs:=#[.int .i64 0,.int .i64 0,.int .i64 0,.int .i64 0,.bool false]) (t:=43) ?hr ?_;(case hd=>rfl);(case hg=>rfl);(case hr=>first | (go_simp;done) | (go_simp;rfl));intro gb4 hg w15 hbox hb;have n0_:=kb_ BK1 hb;have n1_:=kb_ BK2 hb;have n2_:=a0_ (below_step hb_ hb);have n3_:=a0_ (hbox);have n4_:=a0_ ((by rw [hg];exact (below_size hb_) : w.heap.size ≤ gb4));have n5_:=a0_ ((by rw [hg];exact (below_size hb_) : w.heap.size ≤ gb4));have n6_:=a0_ ((by rw [hg];exact Nat.ne_of_lt (blk_lt (bb_ BK1.out)) : gb1 ≠ gb4));have n7_:=a0_ ((by rw [hg];exact Nat.ne_of_gt (blk_lt (bb_ BK1.out)) : gb4 ≠ gb1));have n8_:=a0_ ((by rw [hg];exact Nat.ne_of_lt (blk_lt (bb_ BK2.out)) : gb2 ≠ gb4));have n9_:=a0_ ((by rw [hg];exact Nat.ne_of_gt (blk_lt (bb_ BK2.out)) : gb4 ≠ gb2));clear BK1 BK2 HB;have BK1:=n0_;have BK2:=n1_;have HB:=n2_;have BK4:=n3_;have GW4:=n4_;have GE4:=n5_;have NB1_4:=n6_;have NB4_1:=n7_;have NB2_4:=n8_;have NB4_2:=n9_;clear n0_ n1_ n2_ n3_ n4_ n5_ n6_ n7_ n8_ n9_;clear hb hbox hg;have hnb16:=NB4_1.out;have hnc16:=NB1_4.out;have hnb17:=NB4_2.out;have hnc17:=NB2_4.out;have hcz18_0 : w15.cell? ⟨gb4,0,none⟩ = some (.int .i64 0):=(blk_cell BK4.out 0).trans rfl;have hcz18_1 : w15.cell? ⟨gb4,1,none⟩ = some (.int .i64 0):=(blk_cell BK4.out 1).trans rfl;have hcz18_2 : w15.cell? ⟨gb4,2,none⟩ = some (.int .i64 0):=(blk_cell BK4.out 2).trans rfl;have hcz18_3 : w15.cell? ⟨gb4,3,none⟩ = some (.int .i64 0):=(blk_cell BK4.out 3).trans rfl;have hcz18_4 : w15.cell? ⟨gb4,4,none⟩ = some (.bool false):=(blk_cell BK4.out 4).trans rfl;have hfz18_0:=blk_frozen BK4.out 0;have hfz18_1:=blk_frozen BK4.out 1;have hfz18_2:=blk_frozen BK4.out 2;have hfz18_3:=blk_frozen BK4.out 3;have hfz18_4:=blk_frozen BK4.out 4;have hcz19_0 : w15.cell? ⟨gb1,0,none⟩ = some (.slice A0_0 l0_0.length c0_0):=(blk_cell BK1.out 0).trans rfl;have hfz19_0:=blk_frozen BK1.out 0) | (go_at_call 70;(with_reducible refine (spec_hasClass.calls _ _ l0_0 ((rd_T43 l1_0 x5_1).f0) true _ ?side1 ?side2 A7.out).mono ?_);(case side1=>exact Kd.C_below HR0_0.out hb_);(case side2=>exact HC0_0.out);rintro e w20 ⟨rfl,hb⟩;replace BK1:=a0_ (blk_below (g:=gb1) (o:=.cells #[.slice A0_0 l0_0.length c0_0] 25 (0,0)) (bff_ BK1.out) hb);replace BK2:=a0_ (blk_below (g:=gb2) (o:=.cells #[.slice (some ad3) l1_0.length c1_0] 28 (0,0)) (bff_ BK2.out) hb);replace BK4:=a0_ (blk_below (g:=gb4) (o:=.cells #[.int .i64 ((rd_T43 l1_0 x5_1).f0),.int .i64 ((rd_T43 l1_0 x5_1).f1),.int .i64 ((rd_T43 l1_0 x5_1).f2),.int .i64 ((rd_T43 l1_0 x5_1).f3),.bool ((rd_T43 l1_0 x5_1).f4)] 43 (0,0)) (by (with_reducible repeat (first | refine blk_drewN ?_ _ | refine blk_drew ?_ | refine blk_alloc ?_ _));refine blk_put (cs:=#[.int .i64 ((rd_T43 l1_0 x5_1).f0),.int .i64 ((rd_T43 l1_0 x5_1).f1),.int .i64 ((rd_T43 l1_0 x5_1).f2),.int .i64 ((rd_T43 l1_0 x5_1).f3),.bool false]) ?_ 4 _ rfl;(with_reducible repeat (first | refine blk_drewN ?_ _ | refine blk_drew ?_ | refine blk_alloc ?_ _));refine blk_put (cs:=#[.int .i64 ((rd_T43 l1_0 x5_1).f0),.int .i64 ((rd_T43 l1_0 x5_1).f1),.int .i64 ((rd_T43 l1_0 x5_1).f2),.int .i64 0,.bool false]) ?_ 3 _ rfl;(with_reducible repeat (first | refine blk_drewN ?_ _ | refine blk_drew ?_ | refine blk_alloc ?_ _));refine blk_put (cs:=#[.int .i64 ((rd_T43 l1_0 x5_1).f0),.int .i64 ((rd_T43 l1_0 x5_1).f1),.int .i64 0,.int .i64 0,.bool false]) ?_ 2 _ rfl;(with_reducible repeat (first | refine blk_drewN ?_ _ | refine blk_drew ?_ | refine blk_alloc ?_ _));refine blk_put (cs:=#[.int .i64 ((rd_T43 l1_0 x5_1).f0),.int .i64 0,.int .i64 0,.int .i64 0,.bool false]) ?_ 1 _ rfl;(with_reducible repeat (first | refine blk_drewN ?_ _ | refine blk_drew ?_ | refine blk_alloc ?_ _));refine blk_put (cs:=#[.int .i64 0,.int .i64 0,.int .i64 0,.int .i64 0,.bool false]) ?_ 0 _ rfl;(with_reducible repeat (first | refine blk_drewN ?_ _ | refine blk_drew ?_ | refine blk_alloc ?_ _));exact BK4.out) hb);replace HB:=a0_ (below_step hb_ hb);(try clear hb);have hcz21_0 : w20.cell? ⟨gb4,0,none⟩ = some (.int .i64 ((rd_T43 l1_0 x5_1).f0)):=(blk_cell BK4.out 0).trans rfl;have hcz21_1 : w20.cell? ⟨gb4,1,none⟩ = some (.int .i64 ((rd_T43 l1_0 x5_1).f1)):=(blk_cell BK4.out 1).trans rfl;have hcz21_2 : w20.cell? ⟨gb4,2,none⟩ = some (.int .i64 ((rd_T43 l1_0 x5_1).f2)):=(blk_cell BK4.out 2).trans rfl;have hcz21_3 : w20.cell? ⟨gb4,3,none⟩ = some (.int .i64 ((rd_T43 l1_0 x5_1).f3)):=(blk_cell BK4.out 3).trans rfl;have hcz21_4 : w20.cell? ⟨gb4,4,none⟩ = some (.bool ((rd_T43 l1_0 x5_1).f4)):=(blk_cell BK4.out 4).trans rfl;have hfz21_0:=blk_frozen BK4.out 0;have hfz21_1:=blk_frozen BK4.out 1;have hfz21_2:=blk_frozen BK4.out 2;have hfz21_3:=blk_frozen BK4.out 3;have hfz21_4:=blk_frozen BK4.out 4) | (go_at_call 71;(with_reducible refine (spec_inRange.calls ((rd_T43 l1_0 x5_1).f1) 0 99 true _ A9.out).mono ?_);rintro e w' ⟨rfl,⟨nd,rfl⟩⟩;(try first | exact ⟨rfl,_,World.drewN_drewN _ _ _⟩ | exact ⟨rfl,_,Eq.trans (World.drewN_drewN _ _ _) (congrArg (World.drewN _) (Nat.add_assoc _ _ _))⟩);have hcz22_0 : w20.cell? ⟨gb2,0,none⟩ = some (.slice (some ad3) l1_0.length c1_0):=(blk_cell BK2.out 0).trans rfl;have hfz22_0:=blk_frozen BK2.out 0) | (go_at_call 72;(with_reducible refine (spec_validLinks.calls _ _ l1_0 x5_1 true _ ?side1 ?side2 A11.out).mono ?_);(case side1=>repeat (first | exact (Kd.C_below HR1_0.out hb_) | (with_reducible refine Kd.C_alloc ?_ _) | (with_reducible refine Kd.C_drewN ?_ _) | (with_reducible refine Kd.C_drew ?_)));(case side2=>exact HC1_0.out);rintro e w23 ⟨rfl,hb⟩;replace BK1:=kb_ BK1 hb;replace BK2:=kb_ BK2 hb;replace BK4:=kb_ BK4 hb;replace HB:=a0_ (below_step hb_ hb);(try clear hb);(try clear hb2);(try clear hk);(try clear hi)))
        repeat (go_quiet (first | ((with_reducible refine gate_dst (N:=6) rfl ?_);(try (refine gate_guard (by rfl) ?_;dsimp only));refine box_event ?hg (N:=6) ?hd (cs:=#[.int .i64 0,.int .i64 0,.int .i64 0,.int .i64 0,.bool false]) (t:=43) ?hr ?_;(case hd=>rfl);(case hg=>rfl);(case hr=>first | (go_simp;done) | (go_simp;rfl));intro gb4 hg w15 hbox hb;have n0_:=kb_ BK1 hb;have n1_:=kb_ BK2 hb;have n2_:=a0_ (below_step hb_ hb);have n3_:=a0_ (hbox);have n4_:=a0_ ((by rw [hg];exact (below_size hb_) : w.heap.size ≤ gb4));have n5_:=a0_ ((by rw [hg];exact (below_size hb_) : w.heap.size ≤ gb4));have n6_:=a0_ ((by rw [hg];exact Nat.ne_of_lt (blk_lt (bb_ BK1.out)) : gb1 ≠ gb4));have n7_:=a0_ ((by rw [hg];exact Nat.ne_of_gt (blk_lt (bb_ BK1.out)) : gb4 ≠ gb1));have n8_:=a0_ ((by rw [hg];exact Nat.ne_of_lt (blk_lt (bb_ BK2.out)) : gb2 ≠ gb4));have n9_:=a0_ ((by rw [hg];exact Nat.ne_of_gt (blk_lt (bb_ BK2.out)) : gb4 ≠ gb2));clear BK1 BK2 HB;have BK1:=n0_;have BK2:=n1_;have HB:=n2_;have BK4:=n3_;have GW4:=n4_;have GE4:=n5_;have NB1_4:=n6_;have NB4_1:=n7_;have NB2_4:=n8_;have NB4_2:=n9_;clear n0_ n1_ n2_ n3_ n4_ n5_ n6_ n7_ n8_ n9_;clear hb hbox hg;have hnb16:=NB4_1.out;have hnc16:=NB1_4.out;have hnb17:=NB4_2.out;have hnc17:=NB2_4.out;have hcz18_0 : w15.cell? ⟨gb4,0,none⟩ = some (.int .i64 0):=(blk_cell BK4.out 0).trans rfl;have hcz18_1 : w15.cell? ⟨gb4,1,none⟩ = some (.int .i64 0):=(blk_cell BK4.out 1).trans rfl;have hcz18_2 : w15.cell? ⟨gb4,2,none⟩ = some (.int .i64 0):=(blk_cell BK4.out 2).trans rfl;have hcz18_3 : w15.cell? ⟨gb4,3,none⟩ = some (.int .i64 0):=(blk_cell BK4.out 3).trans rfl;have hcz18_4 : w15.cell? ⟨gb4,4,none⟩ = some (.bool false):=(blk_cell BK4.out 4).trans rfl;have hfz18_0:=blk_frozen BK4.out 0;have hfz18_1:=blk_frozen BK4.out 1;have hfz18_2:=blk_frozen BK4.out 2;have hfz18_3:=blk_frozen BK4.out 3;have hfz18_4:=blk_frozen BK4.out 4;have hcz19_0 : w15.cell? ⟨gb1,0,none⟩ = some (.slice A0_0 l0_0.length c0_0):=(blk_cell BK1.out 0).trans rfl;have hfz19_0:=blk_frozen BK1.out 0) | (go_at_call 70;(with_reducible refine (spec_hasClass.calls _ _ l0_0 ((rd_T43 l1_0 x5_1).f0) true _ ?side1 ?side2 A7.out).mono ?_);(case side1=>exact Kd.C_below HR0_0.out hb_);(case side2=>exact HC0_0.out);rintro e w20 ⟨rfl,hb⟩;replace BK1:=a0_ (blk_below (g:=gb1) (o:=.cells #[.slice A0_0 l0_0.length c0_0] 25 (0,0)) (bff_ BK1.out) hb);replace BK2:=a0_ (blk_below (g:=gb2) (o:=.cells #[.slice (some ad3) l1_0.length c1_0] 28 (0,0)) (bff_ BK2.out) hb);replace BK4:=a0_ (blk_below (g:=gb4) (o:=.cells #[.int .i64 ((rd_T43 l1_0 x5_1).f0),.int .i64 ((rd_T43 l1_0 x5_1).f1),.int .i64 ((rd_T43 l1_0 x5_1).f2),.int .i64 ((rd_T43 l1_0 x5_1).f3),.bool ((rd_T43 l1_0 x5_1).f4)] 43 (0,0)) (by (with_reducible repeat (first | refine blk_drewN ?_ _ | refine blk_drew ?_ | refine blk_alloc ?_ _));refine blk_put (cs:=#[.int .i64 ((rd_T43 l1_0 x5_1).f0),.int .i64 ((rd_T43 l1_0 x5_1).f1),.int .i64 ((rd_T43 l1_0 x5_1).f2),.int .i64 ((rd_T43 l1_0 x5_1).f3),.bool false]) ?_ 4 _ rfl;(with_reducible repeat (first | refine blk_drewN ?_ _ | refine blk_drew ?_ | refine blk_alloc ?_ _));refine blk_put (cs:=#[.int .i64 ((rd_T43 l1_0 x5_1).f0),.int .i64 ((rd_T43 l1_0 x5_1).f1),.int .i64 ((rd_T43 l1_0 x5_1).f2),.int .i64 0,.bool false]) ?_ 3 _ rfl;(with_reducible repeat (first | refine blk_drewN ?_ _ | refine blk_drew ?_ | refine blk_alloc ?_ _));refine blk_put (cs:=#[.int .i64 ((rd_T43 l1_0 x5_1).f0),.int .i64 ((rd_T43 l1_0 x5_1).f1),.int .i64 0,.int .i64 0,.bool false]) ?_ 2 _ rfl;(with_reducible repeat (first | refine blk_drewN ?_ _ | refine blk_drew ?_ | refine blk_alloc ?_ _));refine blk_put (cs:=#[.int .i64 ((rd_T43 l1_0 x5_1).f0),.int .i64 0,.int .i64 0,.int .i64 0,.bool false]) ?_ 1 _ rfl;(with_reducible repeat (first | refine blk_drewN ?_ _ | refine blk_drew ?_ | refine blk_alloc ?_ _));refine blk_put (cs:=#[.int .i64 0,.int .i64 0,.int .i64 0,.int .i64 0,.bool false]) ?_ 0 _ rfl;(with_reducible repeat (first | refine blk_drewN ?_ _ | refine blk_drew ?_ | refine blk_alloc ?_ _));exact BK4.out) hb);replace HB:=a0_ (below_step hb_ hb);(try clear hb);have hcz21_0 : w20.cell? ⟨gb4,0,none⟩ = some (.int .i64 ((rd_T43 l1_0 x5_1).f0)):=(blk_cell BK4.out 0).trans rfl;have hcz21_1 : w20.cell? ⟨gb4,1,none⟩ = some (.int .i64 ((rd_T43 l1_0 x5_1).f1)):=(blk_cell BK4.out 1).trans rfl;have hcz21_2 : w20.cell? ⟨gb4,2,none⟩ = some (.int .i64 ((rd_T43 l1_0 x5_1).f2)):=(blk_cell BK4.out 2).trans rfl;have hcz21_3 : w20.cell? ⟨gb4,3,none⟩ = some (.int .i64 ((rd_T43 l1_0 x5_1).f3)):=(blk_cell BK4.out 3).trans rfl;have hcz21_4 : w20.cell? ⟨gb4,4,none⟩ = some (.bool ((rd_T43 l1_0 x5_1).f4)):=(blk_cell BK4.out 4).trans rfl;have hfz21_0:=blk_frozen BK4.out 0;have hfz21_1:=blk_frozen BK4.out 1;have hfz21_2:=blk_frozen BK4.out 2;have hfz21_3:=blk_frozen BK4.out 3;have hfz21_4:=blk_frozen BK4.out 4) | (go_at_call 71;(with_reducible refine (spec_inRange.calls ((rd_T43 l1_0 x5_1).f1) 0 99 true _ A9.out).mono ?_);rintro e w' ⟨rfl,⟨nd,rfl⟩⟩;(try first | exact ⟨rfl,_,World.drewN_drewN _ _ _⟩ | exact ⟨rfl,_,Eq.trans (World.drewN_drewN _ _ _) (congrArg (World.drewN _) (Nat.add_assoc _ _ _))⟩);have hcz22_0 : w20.cell? ⟨gb2,0,none⟩ = some (.slice (some ad3) l1_0.length c1_0):=(blk_cell BK2.out 0).trans rfl;have hfz22_0:=blk_frozen BK2.out 0) | (go_at_call 72;(with_reducible refine (spec_validLinks.calls _ _ l1_0 x5_1 true _ ?side1 ?side2 A11.out).mono ?_);(case side1=>repeat (first | exact (Kd.C_below HR1_0.out hb_) | (with_reducible refine Kd.C_alloc ?_ _) | (with_reducible refine Kd.C_drewN ?_ _) | (with_reducible refine Kd.C_drew ?_)));(case side2=>exact HC1_0.out);rintro e w23 ⟨rfl,hb⟩;replace BK1:=kb_ BK1 hb;replace BK2:=kb_ BK2 hb;replace BK4:=kb_ BK4 hb;replace HB:=a0_ (below_step hb_ hb);(try clear hb);(try clear hb2);(try clear hk);(try clear hi)));try go_wp2_with (first | ((with_reducible refine gate_dst (N:=6) rfl ?_);(try (refine gate_guard (by rfl) ?_;dsimp only));refine box_event ?hg (N:=6) ?hd (cs:=#[.int .i64 0,.int .i64 0,.int .i64 0,.int .i64 0,.bool false]) (t:=43) ?hr ?_;(case hd=>rfl);(case hg=>rfl);(case hr=>first | (go_simp;done) | (go_simp;rfl));intro gb4 hg w15 hbox hb;have n0_:=kb_ BK1 hb;have n1_:=kb_ BK2 hb;have n2_:=a0_ (below_step hb_ hb);have n3_:=a0_ (hbox);have n4_:=a0_ ((by rw [hg];exact (below_size hb_) : w.heap.size ≤ gb4));have n5_:=a0_ ((by rw [hg];exact (below_size hb_) : w.heap.size ≤ gb4));have n6_:=a0_ ((by rw [hg];exact Nat.ne_of_lt (blk_lt (bb_ BK1.out)) : gb1 ≠ gb4));have n7_:=a0_ ((by rw [hg];exact Nat.ne_of_gt (blk_lt (bb_ BK1.out)) : gb4 ≠ gb1));have n8_:=a0_ ((by rw [hg];exact Nat.ne_of_lt (blk_lt (bb_ BK2.out)) : gb2 ≠ gb4));have n9_:=a0_ ((by rw [hg];exact Nat.ne_of_gt (blk_lt (bb_ BK2.out)) : gb4 ≠ gb2));clear BK1 BK2 HB;have BK1:=n0_;have BK2:=n1_;have HB:=n2_;have BK4:=n3_;have GW4:=n4_;have GE4:=n5_;have NB1_4:=n6_;have NB4_1:=n7_;have NB2_4:=n8_;have NB4_2:=n9_;clear n0_ n1_ n2_ n3_ n4_ n5_ n6_ n7_ n8_ n9_;clear hb hbox hg;have hnb16:=NB4_1.out;have hnc16:=NB1_4.out;have hnb17:=NB4_2.out;have hnc17:=NB2_4.out;have hcz18_0 : w15.cell? ⟨gb4,0,none⟩ = some (.int .i64 0):=(blk_cell BK4.out 0).trans rfl;have hcz18_1 : w15.cell? ⟨gb4,1,none⟩ = some (.int .i64 0):=(blk_cell BK4.out 1).trans rfl;have hcz18_2 : w15.cell? ⟨gb4,2,none⟩ = some (.int .i64 0):=(blk_cell BK4.out 2).trans rfl;have hcz18_3 : w15.cell? ⟨gb4,3,none⟩ = some (.int .i64 0):=(blk_cell BK4.out 3).trans rfl;have hcz18_4 : w15.cell? ⟨gb4,4,none⟩ = some (.bool false):=(blk_cell BK4.out 4).trans rfl;have hfz18_0:=blk_frozen BK4.out 0;have hfz18_1:=blk_frozen BK4.out 1;have hfz18_2:=blk_frozen BK4.out 2;have hfz18_3:=blk_frozen BK4.out 3;have hfz18_4:=blk_frozen BK4.out 4;have hcz19_0 : w15.cell? ⟨gb1,0,none⟩ = some (.slice A0_0 l0_0.length c0_0):=(blk_cell BK1.out 0).trans rfl;have hfz19_0:=blk_frozen BK1.out 0) | (go_at_call 70;(with_reducible refine (spec_hasClass.calls _ _ l0_0 ((rd_T43 l1_0 x5_1).f0) true _ ?side1 ?side2 A7.out).mono ?_);(case side1=>exact Kd.C_below HR0_0.out hb_);(case side2=>exact HC0_0.out);rintro e w20 ⟨rfl,hb⟩;replace BK1:=a0_ (blk_below (g:=gb1) (o:=.cells #[.slice A0_0 l0_0.length c0_0] 25 (0,0)) (bff_ BK1.out) hb);replace BK2:=a0_ (blk_below (g:=gb2) (o:=.cells #[.slice (some ad3) l1_0.length c1_0] 28 (0,0)) (bff_ BK2.out) hb);replace BK4:=a0_ (blk_below (g:=gb4) (o:=.cells #[.int .i64 ((rd_T43 l1_0 x5_1).f0),.int .i64 ((rd_T43 l1_0 x5_1).f1),.int .i64 ((rd_T43 l1_0 x5_1).f2),.int .i64 ((rd_T43 l1_0 x5_1).f3),.bool ((rd_T43 l1_0 x5_1).f4)] 43 (0,0)) (by (with_reducible repeat (first | refine blk_drewN ?_ _ | refine blk_drew ?_ | refine blk_alloc ?_ _));refine blk_put (cs:=#[.int .i64 ((rd_T43 l1_0 x5_1).f0),.int .i64 ((rd_T43 l1_0 x5_1).f1),.int .i64 ((rd_T43 l1_0 x5_1).f2),.int .i64 ((rd_T43 l1_0 x5_1).f3),.bool false]) ?_ 4 _ rfl;(with_reducible repeat (first | refine blk_drewN ?_ _ | refine blk_drew ?_ | refine blk_alloc ?_ _));refine blk_put (cs:=#[.int .i64 ((rd_T43 l1_0 x5_1).f0),.int .i64 ((rd_T43 l1_0 x5_1).f1),.int .i64 ((rd_T43 l1_0 x5_1).f2),.int .i64 0,.bool false]) ?_ 3 _ rfl;(with_reducible repeat (first | refine blk_drewN ?_ _ | refine blk_drew ?_ | refine blk_alloc ?_ _));refine blk_put (cs:=#[.int .i64 ((rd_T43 l1_0 x5_1).f0),.int .i64 ((rd_T43 l1_0 x5_1).f1),.int .i64 0,.int .i64 0,.bool false]) ?_ 2 _ rfl;(with_reducible repeat (first | refine blk_drewN ?_ _ | refine blk_drew ?_ | refine blk_alloc ?_ _));refine blk_put (cs:=#[.int .i64 ((rd_T43 l1_0 x5_1).f0),.int .i64 0,.int .i64 0,.int .i64 0,.bool false]) ?_ 1 _ rfl;(with_reducible repeat (first | refine blk_drewN ?_ _ | refine blk_drew ?_ | refine blk_alloc ?_ _));refine blk_put (cs:=#[.int .i64 0,.int .i64 0,.int .i64 0,.int .i64 0,.bool false]) ?_ 0 _ rfl;(with_reducible repeat (first | refine blk_drewN ?_ _ | refine blk_drew ?_ | refine blk_alloc ?_ _));exact BK4.out) hb);replace HB:=a0_ (below_step hb_ hb);(try clear hb);have hcz21_0 : w20.cell? ⟨gb4,0,none⟩ = some (.int .i64 ((rd_T43 l1_0 x5_1).f0)):=(blk_cell BK4.out 0).trans rfl;have hcz21_1 : w20.cell? ⟨gb4,1,none⟩ = some (.int .i64 ((rd_T43 l1_0 x5_1).f1)):=(blk_cell BK4.out 1).trans rfl;have hcz21_2 : w20.cell? ⟨gb4,2,none⟩ = some (.int .i64 ((rd_T43 l1_0 x5_1).f2)):=(blk_cell BK4.out 2).trans rfl;have hcz21_3 : w20.cell? ⟨gb4,3,none⟩ = some (.int .i64 ((rd_T43 l1_0 x5_1).f3)):=(blk_cell BK4.out 3).trans rfl;have hcz21_4 : w20.cell? ⟨gb4,4,none⟩ = some (.bool ((rd_T43 l1_0 x5_1).f4)):=(blk_cell BK4.out 4).trans rfl;have hfz21_0:=blk_frozen BK4.out 0;have hfz21_1:=blk_frozen BK4.out 1;have hfz21_2:=blk_frozen BK4.out 2;have hfz21_3:=blk_frozen BK4.out 3;have hfz21_4:=blk_frozen BK4.out 4) | (go_at_call 71;(with_reducible refine (spec_inRange.calls ((rd_T43 l1_0 x5_1).f1) 0 99 true _ A9.out).mono ?_);rintro e w' ⟨rfl,⟨nd,rfl⟩⟩;(try first | exact ⟨rfl,_,World.drewN_drewN _ _ _⟩ | exact ⟨rfl,_,Eq.trans (World.drewN_drewN _ _ _) (congrArg (World.drewN _) (Nat.add_assoc _ _ _))⟩);have hcz22_0 : w20.cell? ⟨gb2,0,none⟩ = some (.slice (some ad3) l1_0.length c1_0):=(blk_cell BK2.out 0).trans rfl;have hfz22_0:=blk_frozen BK2.out 0) | (go_at_call 72;(with_reducible refine (spec_validLinks.calls _ _ l1_0 x5_1 true _ ?side1 ?side2 A11.out).mono ?_);(case side1=>repeat (first | exact (Kd.C_below HR1_0.out hb_) | (with_reducible refine Kd.C_alloc ?_ _) | (with_reducible refine Kd.C_drewN ?_ _) | (with_reducible refine Kd.C_drew ?_)));(case side2=>exact HC1_0.out);rintro e w23 ⟨rfl,hb⟩;replace BK1:=kb_ BK1 hb;replace BK2:=kb_ BK2 hb;replace BK4:=kb_ BK4 hb;replace HB:=a0_ (below_step hb_ hb);(try clear hb);(try clear hb2);(try clear hk);(try clear hi))))
        go_roundg k1
        case measure=>have:=HK1.out;omega
        case rel=>exact ⟨(wrap64 (x5_1 + 1)),(by first | rfl | (simp;done) | (simp [*];done)),H',⟨by have:=HK1.out;omega⟩,⟨by (with_reducible repeat (first | refine blk_drewN ?_ _ | refine blk_drew ?_ | refine blk_alloc ?_ _));exact BK1.out⟩,⟨by (with_reducible repeat (first | refine blk_drewN ?_ _ | refine blk_drew ?_ | refine blk_alloc ?_ _));exact BK2.out⟩,⟨hb_⟩⟩
       ·replace c12:=Bool.eq_false_iff.mpr c12
        subst c12
        have H1 : (some false) = some r:=by rw [if_neg (show ¬ (false = true) by decide)] at H;exact H
        clear H
        have H:=H1
        clear H1
        obtain rfl:=Option.some.inj H
        have hnb24:=NB2_1.out
        have hnc24:=NB1_2.out
        have hcz25_0 : wr.cell? ⟨gb2,0,none⟩ = some (.slice A1_0 l1_0.length c1_0):=(blk_cell BK2.out 0).trans rfl
        have hfz25_0:=blk_frozen BK2.out 0
        have p3 : 0 ≤ (x5_1 : Int):=of_decide_eq_true (by first | (with_reducible assumption) | assumption)
        have q3 : x5_1 < (l1_0.length : Int):=of_decide_eq_true (by first | (with_reducible assumption) | assumption)
        obtain ⟨ad3,e3,hx3_0,hx3_1,hx3_2,hx3_3,hx3_4⟩:=at_T43 HR1_0.out x5_1 p3 q3
        cases e3
        replace hx3_0:=(HB.out.cell (World.block_lt_of_cell? w _ hx3_0)).trans hx3_0
        replace hx3_1:=(HB.out.cell (World.block_lt_of_cell? w _ hx3_1)).trans hx3_1
        replace hx3_2:=(HB.out.cell (World.block_lt_of_cell? w _ hx3_2)).trans hx3_2
        replace hx3_3:=(HB.out.cell (World.block_lt_of_cell? w _ hx3_3)).trans hx3_3
        replace hx3_4:=(HB.out.cell (World.block_lt_of_cell? w _ hx3_4)).trans hx3_4
        replace p3:=eq_true p3
        replace q3:=eq_true q3
        go_wp2_with (first | ((with_reducible refine gate_dst (N:=6) rfl ?_);(try (refine gate_guard (by rfl) ?_;dsimp only));refine box_event ?hg (N:=6) ?hd (cs:=#[.int .i64 0,.int .i64 0,.int .i64 0,.int .i64 0,.bool false]) (t:=43) ?hr ?_;(case hd=>rfl);(case hg=>rfl);(case hr=>first | (go_simp;done) | (go_simp;rfl));intro gb4 hg w26 hbox hb;have n0_:=kb_ BK1 hb;have n1_:=kb_ BK2 hb;have n2_:=a0_ (below_step hb_ hb);have n3_:=a0_ (hbox);have n4_:=a0_ ((by rw [hg];exact (below_size hb_) : w.heap.size ≤ gb4));have n5_:=a0_ ((by rw [hg];exact (below_size hb_) : w.heap.size ≤ gb4));have n6_:=a0_ ((by rw [hg];exact Nat.ne_of_lt (blk_lt (bb_ BK1.out)) : gb1 ≠ gb4));have n7_:=a0_ ((by rw [hg];exact Nat.ne_of_gt (blk_lt (bb_ BK1.out)) : gb4 ≠ gb1));have n8_:=a0_ ((by rw [hg];exact Nat.ne_of_lt (blk_lt (bb_ BK2.out)) : gb2 ≠ gb4));have n9_:=a0_ ((by rw [hg];exact Nat.ne_of_gt (blk_lt (bb_ BK2.out)) : gb4 ≠ gb2));clear BK1 BK2 HB;have BK1:=n0_;have BK2:=n1_;have HB:=n2_;have BK4:=n3_;have GW4:=n4_;have GE4:=n5_;have NB1_4:=n6_;have NB4_1:=n7_;have NB2_4:=n8_;have NB4_2:=n9_;clear n0_ n1_ n2_ n3_ n4_ n5_ n6_ n7_ n8_ n9_;clear hb hbox hg;have hnb27:=NB4_1.out;have hnc27:=NB1_4.out;have hnb28:=NB4_2.out;have hnc28:=NB2_4.out;have hcz29_0 : w26.cell? ⟨gb4,0,none⟩ = some (.int .i64 0):=(blk_cell BK4.out 0).trans rfl;have hcz29_1 : w26.cell? ⟨gb4,1,none⟩ = some (.int .i64 0):=(blk_cell BK4.out 1).trans rfl;have hcz29_2 : w26.cell? ⟨gb4,2,none⟩ = some (.int .i64 0):=(blk_cell BK4.out 2).trans rfl;have hcz29_3 : w26.cell? ⟨gb4,3,none⟩ = some (.int .i64 0):=(blk_cell BK4.out 3).trans rfl;have hcz29_4 : w26.cell? ⟨gb4,4,none⟩ = some (.bool false):=(blk_cell BK4.out 4).trans rfl;have hfz29_0:=blk_frozen BK4.out 0;have hfz29_1:=blk_frozen BK4.out 1;have hfz29_2:=blk_frozen BK4.out 2;have hfz29_3:=blk_frozen BK4.out 3;have hfz29_4:=blk_frozen BK4.out 4;have hcz30_0 : w26.cell? ⟨gb1,0,none⟩ = some (.slice A0_0 l0_0.length c0_0):=(blk_cell BK1.out 0).trans rfl;have hfz30_0:=blk_frozen BK1.out 0) | (go_at_call 70;(with_reducible refine (spec_hasClass.calls _ _ l0_0 ((rd_T43 l1_0 x5_1).f0) true _ ?side1 ?side2 A7.out).mono ?_);(case side1=>exact Kd.C_below HR0_0.out hb_);(case side2=>exact HC0_0.out);rintro e w31 ⟨rfl,hb⟩;replace BK1:=a0_ (blk_below (g:=gb1) (o:=.cells #[.slice A0_0 l0_0.length c0_0] 25 (0,0)) (bff_ BK1.out) hb);replace BK2:=a0_ (blk_below (g:=gb2) (o:=.cells #[.slice (some ad3) l1_0.length c1_0] 28 (0,0)) (bff_ BK2.out) hb);replace BK4:=a0_ (blk_below (g:=gb4) (o:=.cells #[.int .i64 ((rd_T43 l1_0 x5_1).f0),.int .i64 ((rd_T43 l1_0 x5_1).f1),.int .i64 ((rd_T43 l1_0 x5_1).f2),.int .i64 ((rd_T43 l1_0 x5_1).f3),.bool ((rd_T43 l1_0 x5_1).f4)] 43 (0,0)) (by (with_reducible repeat (first | refine blk_drewN ?_ _ | refine blk_drew ?_ | refine blk_alloc ?_ _));refine blk_put (cs:=#[.int .i64 ((rd_T43 l1_0 x5_1).f0),.int .i64 ((rd_T43 l1_0 x5_1).f1),.int .i64 ((rd_T43 l1_0 x5_1).f2),.int .i64 ((rd_T43 l1_0 x5_1).f3),.bool false]) ?_ 4 _ rfl;(with_reducible repeat (first | refine blk_drewN ?_ _ | refine blk_drew ?_ | refine blk_alloc ?_ _));refine blk_put (cs:=#[.int .i64 ((rd_T43 l1_0 x5_1).f0),.int .i64 ((rd_T43 l1_0 x5_1).f1),.int .i64 ((rd_T43 l1_0 x5_1).f2),.int .i64 0,.bool false]) ?_ 3 _ rfl;(with_reducible repeat (first | refine blk_drewN ?_ _ | refine blk_drew ?_ | refine blk_alloc ?_ _));refine blk_put (cs:=#[.int .i64 ((rd_T43 l1_0 x5_1).f0),.int .i64 ((rd_T43 l1_0 x5_1).f1),.int .i64 0,.int .i64 0,.bool false]) ?_ 2 _ rfl;(with_reducible repeat (first | refine blk_drewN ?_ _ | refine blk_drew ?_ | refine blk_alloc ?_ _));refine blk_put (cs:=#[.int .i64 ((rd_T43 l1_0 x5_1).f0),.int .i64 0,.int .i64 0,.int .i64 0,.bool false]) ?_ 1 _ rfl;(with_reducible repeat (first | refine blk_drewN ?_ _ | refine blk_drew ?_ | refine blk_alloc ?_ _));refine blk_put (cs:=#[.int .i64 0,.int .i64 0,.int .i64 0,.int .i64 0,.bool false]) ?_ 0 _ rfl;(with_reducible repeat (first | refine blk_drewN ?_ _ | refine blk_drew ?_ | refine blk_alloc ?_ _));exact BK4.out) hb);replace HB:=a0_ (below_step hb_ hb);(try clear hb);have hcz32_0 : w31.cell? ⟨gb4,0,none⟩ = some (.int .i64 ((rd_T43 l1_0 x5_1).f0)):=(blk_cell BK4.out 0).trans rfl;have hcz32_1 : w31.cell? ⟨gb4,1,none⟩ = some (.int .i64 ((rd_T43 l1_0 x5_1).f1)):=(blk_cell BK4.out 1).trans rfl;have hcz32_2 : w31.cell? ⟨gb4,2,none⟩ = some (.int .i64 ((rd_T43 l1_0 x5_1).f2)):=(blk_cell BK4.out 2).trans rfl;have hcz32_3 : w31.cell? ⟨gb4,3,none⟩ = some (.int .i64 ((rd_T43 l1_0 x5_1).f3)):=(blk_cell BK4.out 3).trans rfl;have hcz32_4 : w31.cell? ⟨gb4,4,none⟩ = some (.bool ((rd_T43 l1_0 x5_1).f4)):=(blk_cell BK4.out 4).trans rfl;have hfz32_0:=blk_frozen BK4.out 0;have hfz32_1:=blk_frozen BK4.out 1;have hfz32_2:=blk_frozen BK4.out 2;have hfz32_3:=blk_frozen BK4.out 3;have hfz32_4:=blk_frozen BK4.out 4) | (go_at_call 71;(with_reducible refine (spec_inRange.calls ((rd_T43 l1_0 x5_1).f1) 0 99 true _ A9.out).mono ?_);rintro e w' ⟨rfl,⟨nd,rfl⟩⟩;(try first | exact ⟨rfl,_,World.drewN_drewN _ _ _⟩ | exact ⟨rfl,_,Eq.trans (World.drewN_drewN _ _ _) (congrArg (World.drewN _) (Nat.add_assoc _ _ _))⟩);have hcz33_0 : w31.cell? ⟨gb2,0,none⟩ = some (.slice (some ad3) l1_0.length c1_0):=(blk_cell BK2.out 0).trans rfl;have hfz33_0:=blk_frozen BK2.out 0) | (go_at_call 72;(with_reducible refine (spec_validLinks.calls _ _ l1_0 x5_1 false _ ?side1 ?side2 A11.out).mono ?_);(case side1=>repeat (first | exact (Kd.C_below HR1_0.out hb_) | (with_reducible refine Kd.C_alloc ?_ _) | (with_reducible refine Kd.C_drewN ?_ _) | (with_reducible refine Kd.C_drew ?_)));(case side2=>exact HC1_0.out);rintro e w34 ⟨rfl,hb⟩;replace BK1:=kb_ BK1 hb;replace BK2:=kb_ BK2 hb;replace BK4:=kb_ BK4 hb;replace HB:=a0_ (below_step hb_ hb);(try clear hb);(try clear hb2);(try clear hk);(try clear hi)))
        repeat (go_quiet (first | ((with_reducible refine gate_dst (N:=6) rfl ?_);(try (refine gate_guard (by rfl) ?_;dsimp only));refine box_event ?hg (N:=6) ?hd (cs:=#[.int .i64 0,.int .i64 0,.int .i64 0,.int .i64 0,.bool false]) (t:=43) ?hr ?_;(case hd=>rfl);(case hg=>rfl);(case hr=>first | (go_simp;done) | (go_simp;rfl));intro gb4 hg w26 hbox hb;have n0_:=kb_ BK1 hb;have n1_:=kb_ BK2 hb;have n2_:=a0_ (below_step hb_ hb);have n3_:=a0_ (hbox);have n4_:=a0_ ((by rw [hg];exact (below_size hb_) : w.heap.size ≤ gb4));have n5_:=a0_ ((by rw [hg];exact (below_size hb_) : w.heap.size ≤ gb4));have n6_:=a0_ ((by rw [hg];exact Nat.ne_of_lt (blk_lt (bb_ BK1.out)) : gb1 ≠ gb4));have n7_:=a0_ ((by rw [hg];exact Nat.ne_of_gt (blk_lt (bb_ BK1.out)) : gb4 ≠ gb1));have n8_:=a0_ ((by rw [hg];exact Nat.ne_of_lt (blk_lt (bb_ BK2.out)) : gb2 ≠ gb4));have n9_:=a0_ ((by rw [hg];exact Nat.ne_of_gt (blk_lt (bb_ BK2.out)) : gb4 ≠ gb2));clear BK1 BK2 HB;have BK1:=n0_;have BK2:=n1_;have HB:=n2_;have BK4:=n3_;have GW4:=n4_;have GE4:=n5_;have NB1_4:=n6_;have NB4_1:=n7_;have NB2_4:=n8_;have NB4_2:=n9_;clear n0_ n1_ n2_ n3_ n4_ n5_ n6_ n7_ n8_ n9_;clear hb hbox hg;have hnb27:=NB4_1.out;have hnc27:=NB1_4.out;have hnb28:=NB4_2.out;have hnc28:=NB2_4.out;have hcz29_0 : w26.cell? ⟨gb4,0,none⟩ = some (.int .i64 0):=(blk_cell BK4.out 0).trans rfl;have hcz29_1 : w26.cell? ⟨gb4,1,none⟩ = some (.int .i64 0):=(blk_cell BK4.out 1).trans rfl;have hcz29_2 : w26.cell? ⟨gb4,2,none⟩ = some (.int .i64 0):=(blk_cell BK4.out 2).trans rfl;have hcz29_3 : w26.cell? ⟨gb4,3,none⟩ = some (.int .i64 0):=(blk_cell BK4.out 3).trans rfl;have hcz29_4 : w26.cell? ⟨gb4,4,none⟩ = some (.bool false):=(blk_cell BK4.out 4).trans rfl;have hfz29_0:=blk_frozen BK4.out 0;have hfz29_1:=blk_frozen BK4.out 1;have hfz29_2:=blk_frozen BK4.out 2;have hfz29_3:=blk_frozen BK4.out 3;have hfz29_4:=blk_frozen BK4.out 4;have hcz30_0 : w26.cell? ⟨gb1,0,none⟩ = some (.slice A0_0 l0_0.length c0_0):=(blk_cell BK1.out 0).trans rfl;have hfz30_0:=blk_frozen BK1.out 0) | (go_at_call 70;(with_reducible refine (spec_hasClass.calls _ _ l0_0 ((rd_T43 l1_0 x5_1).f0) true _ ?side1 ?side2 A7.out).mono ?_);(case side1=>exact Kd.C_below HR0_0.out hb_);(case side2=>exact HC0_0.out);rintro e w31 ⟨rfl,hb⟩;replace BK1:=a0_ (blk_below (g:=gb1) (o:=.cells #[.slice A0_0 l0_0.length c0_0] 25 (0,0)) (bff_ BK1.out) hb);replace BK2:=a0_ (blk_below (g:=gb2) (o:=.cells #[.slice (some ad3) l1_0.length c1_0] 28 (0,0)) (bff_ BK2.out) hb);replace BK4:=a0_ (blk_below (g:=gb4) (o:=.cells #[.int .i64 ((rd_T43 l1_0 x5_1).f0),.int .i64 ((rd_T43 l1_0 x5_1).f1),.int .i64 ((rd_T43 l1_0 x5_1).f2),.int .i64 ((rd_T43 l1_0 x5_1).f3),.bool ((rd_T43 l1_0 x5_1).f4)] 43 (0,0)) (by (with_reducible repeat (first | refine blk_drewN ?_ _ | refine blk_drew ?_ | refine blk_alloc ?_ _));refine blk_put (cs:=#[.int .i64 ((rd_T43 l1_0 x5_1).f0),.int .i64 ((rd_T43 l1_0 x5_1).f1),.int .i64 ((rd_T43 l1_0 x5_1).f2),.int .i64 ((rd_T43 l1_0 x5_1).f3),.bool false]) ?_ 4 _ rfl;(with_reducible repeat (first | refine blk_drewN ?_ _ | refine blk_drew ?_ | refine blk_alloc ?_ _));refine blk_put (cs:=#[.int .i64 ((rd_T43 l1_0 x5_1).f0),.int .i64 ((rd_T43 l1_0 x5_1).f1),.int .i64 ((rd_T43 l1_0 x5_1).f2),.int .i64 0,.bool false]) ?_ 3 _ rfl;(with_reducible repeat (first | refine blk_drewN ?_ _ | refine blk_drew ?_ | refine blk_alloc ?_ _));refine blk_put (cs:=#[.int .i64 ((rd_T43 l1_0 x5_1).f0),.int .i64 ((rd_T43 l1_0 x5_1).f1),.int .i64 0,.int .i64 0,.bool false]) ?_ 2 _ rfl;(with_reducible repeat (first | refine blk_drewN ?_ _ | refine blk_drew ?_ | refine blk_alloc ?_ _));refine blk_put (cs:=#[.int .i64 ((rd_T43 l1_0 x5_1).f0),.int .i64 0,.int .i64 0,.int .i64 0,.bool false]) ?_ 1 _ rfl;(with_reducible repeat (first | refine blk_drewN ?_ _ | refine blk_drew ?_ | refine blk_alloc ?_ _));refine blk_put (cs:=#[.int .i64 0,.int .i64 0,.int .i64 0,.int .i64 0,.bool false]) ?_ 0 _ rfl;(with_reducible repeat (first | refine blk_drewN ?_ _ | refine blk_drew ?_ | refine blk_alloc ?_ _));exact BK4.out) hb);replace HB:=a0_ (below_step hb_ hb);(try clear hb);have hcz32_0 : w31.cell? ⟨gb4,0,none⟩ = some (.int .i64 ((rd_T43 l1_0 x5_1).f0)):=(blk_cell BK4.out 0).trans rfl;have hcz32_1 : w31.cell? ⟨gb4,1,none⟩ = some (.int .i64 ((rd_T43 l1_0 x5_1).f1)):=(blk_cell BK4.out 1).trans rfl;have hcz32_2 : w31.cell? ⟨gb4,2,none⟩ = some (.int .i64 ((rd_T43 l1_0 x5_1).f2)):=(blk_cell BK4.out 2).trans rfl;have hcz32_3 : w31.cell? ⟨gb4,3,none⟩ = some (.int .i64 ((rd_T43 l1_0 x5_1).f3)):=(blk_cell BK4.out 3).trans rfl;have hcz32_4 : w31.cell? ⟨gb4,4,none⟩ = some (.bool ((rd_T43 l1_0 x5_1).f4)):=(blk_cell BK4.out 4).trans rfl;have hfz32_0:=blk_frozen BK4.out 0;have hfz32_1:=blk_frozen BK4.out 1;have hfz32_2:=blk_frozen BK4.out 2;have hfz32_3:=blk_frozen BK4.out 3;have hfz32_4:=blk_frozen BK4.out 4) | (go_at_call 71;(with_reducible refine (spec_inRange.calls ((rd_T43 l1_0 x5_1).f1) 0 99 true _ A9.out).mono ?_);rintro e w' ⟨rfl,⟨nd,rfl⟩⟩;(try first | exact ⟨rfl,_,World.drewN_drewN _ _ _⟩ | exact ⟨rfl,_,Eq.trans (World.drewN_drewN _ _ _) (congrArg (World.drewN _) (Nat.add_assoc _ _ _))⟩);have hcz33_0 : w31.cell? ⟨gb2,0,none⟩ = some (.slice (some ad3) l1_0.length c1_0):=(blk_cell BK2.out 0).trans rfl;have hfz33_0:=blk_frozen BK2.out 0) | (go_at_call 72;(with_reducible refine (spec_validLinks.calls _ _ l1_0 x5_1 false _ ?side1 ?side2 A11.out).mono ?_);(case side1=>repeat (first | exact (Kd.C_below HR1_0.out hb_) | (with_reducible refine Kd.C_alloc ?_ _) | (with_reducible refine Kd.C_drewN ?_ _) | (with_reducible refine Kd.C_drew ?_)));(case side2=>exact HC1_0.out);rintro e w34 ⟨rfl,hb⟩;replace BK1:=kb_ BK1 hb;replace BK2:=kb_ BK2 hb;replace BK4:=kb_ BK4 hb;replace HB:=a0_ (below_step hb_ hb);(try clear hb);(try clear hb2);(try clear hk);(try clear hi)));try go_wp2_with (first | ((with_reducible refine gate_dst (N:=6) rfl ?_);(try (refine gate_guard (by rfl) ?_;dsimp only));refine box_event ?hg (N:=6) ?hd (cs:=#[.int .i64 0,.int .i64 0,.int .i64 0,.int .i64 0,.bool false]) (t:=43) ?hr ?_;(case hd=>rfl);(case hg=>rfl);(case hr=>first | (go_simp;done) | (go_simp;rfl));intro gb4 hg w26 hbox hb;have n0_:=kb_ BK1 hb;have n1_:=kb_ BK2 hb;have n2_:=a0_ (below_step hb_ hb);have n3_:=a0_ (hbox);have n4_:=a0_ ((by rw [hg];exact (below_size hb_) : w.heap.size ≤ gb4));have n5_:=a0_ ((by rw [hg];exact (below_size hb_) : w.heap.size ≤ gb4));have n6_:=a0_ ((by rw [hg];exact Nat.ne_of_lt (blk_lt (bb_ BK1.out)) : gb1 ≠ gb4));have n7_:=a0_ ((by rw [hg];exact Nat.ne_of_gt (blk_lt (bb_ BK1.out)) : gb4 ≠ gb1));have n8_:=a0_ ((by rw [hg];exact Nat.ne_of_lt (blk_lt (bb_ BK2.out)) : gb2 ≠ gb4));have n9_:=a0_ ((by rw [hg];exact Nat.ne_of_gt (blk_lt (bb_ BK2.out)) : gb4 ≠ gb2));clear BK1 BK2 HB;have BK1:=n0_;have BK2:=n1_;have HB:=n2_;have BK4:=n3_;have GW4:=n4_;have GE4:=n5_;have NB1_4:=n6_;have NB4_1:=n7_;have NB2_4:=n8_;have NB4_2:=n9_;clear n0_ n1_ n2_ n3_ n4_ n5_ n6_ n7_ n8_ n9_;clear hb hbox hg;have hnb27:=NB4_1.out;have hnc27:=NB1_4.out;have hnb28:=NB4_2.out;have hnc28:=NB2_4.out;have hcz29_0 : w26.cell? ⟨gb4,0,none⟩ = some (.int .i64 0):=(blk_cell BK4.out 0).trans rfl;have hcz29_1 : w26.cell? ⟨gb4,1,none⟩ = some (.int .i64 0):=(blk_cell BK4.out 1).trans rfl;have hcz29_2 : w26.cell? ⟨gb4,2,none⟩ = some (.int .i64 0):=(blk_cell BK4.out 2).trans rfl;have hcz29_3 : w26.cell? ⟨gb4,3,none⟩ = some (.int .i64 0):=(blk_cell BK4.out 3).trans rfl;have hcz29_4 : w26.cell? ⟨gb4,4,none⟩ = some (.bool false):=(blk_cell BK4.out 4).trans rfl;have hfz29_0:=blk_frozen BK4.out 0;have hfz29_1:=blk_frozen BK4.out 1;have hfz29_2:=blk_frozen BK4.out 2;have hfz29_3:=blk_frozen BK4.out 3;have hfz29_4:=blk_frozen BK4.out 4;have hcz30_0 : w26.cell? ⟨gb1,0,none⟩ = some (.slice A0_0 l0_0.length c0_0):=(blk_cell BK1.out 0).trans rfl;have hfz30_0:=blk_frozen BK1.out 0) | (go_at_call 70;(with_reducible refine (spec_hasClass.calls _ _ l0_0 ((rd_T43 l1_0 x5_1).f0) true _ ?side1 ?side2 A7.out).mono ?_);(case side1=>exact Kd.C_below HR0_0.out hb_);(case side2=>exact HC0_0.out);rintro e w31 ⟨rfl,hb⟩;replace BK1:=a0_ (blk_below (g:=gb1) (o:=.cells #[.slice A0_0 l0_0.length c0_0] 25 (0,0)) (bff_ BK1.out) hb);replace BK2:=a0_ (blk_below (g:=gb2) (o:=.cells #[.slice (some ad3) l1_0.length c1_0] 28 (0,0)) (bff_ BK2.out) hb);replace BK4:=a0_ (blk_below (g:=gb4) (o:=.cells #[.int .i64 ((rd_T43 l1_0 x5_1).f0),.int .i64 ((rd_T43 l1_0 x5_1).f1),.int .i64 ((rd_T43 l1_0 x5_1).f2),.int .i64 ((rd_T43 l1_0 x5_1).f3),.bool ((rd_T43 l1_0 x5_1).f4)] 43 (0,0)) (by (with_reducible repeat (first | refine blk_drewN ?_ _ | refine blk_drew ?_ | refine blk_alloc ?_ _));refine blk_put (cs:=#[.int .i64 ((rd_T43 l1_0 x5_1).f0),.int .i64 ((rd_T43 l1_0 x5_1).f1),.int .i64 ((rd_T43 l1_0 x5_1).f2),.int .i64 ((rd_T43 l1_0 x5_1).f3),.bool false]) ?_ 4 _ rfl;(with_reducible repeat (first | refine blk_drewN ?_ _ | refine blk_drew ?_ | refine blk_alloc ?_ _));refine blk_put (cs:=#[.int .i64 ((rd_T43 l1_0 x5_1).f0),.int .i64 ((rd_T43 l1_0 x5_1).f1),.int .i64 ((rd_T43 l1_0 x5_1).f2),.int .i64 0,.bool false]) ?_ 3 _ rfl;(with_reducible repeat (first | refine blk_drewN ?_ _ | refine blk_drew ?_ | refine blk_alloc ?_ _));refine blk_put (cs:=#[.int .i64 ((rd_T43 l1_0 x5_1).f0),.int .i64 ((rd_T43 l1_0 x5_1).f1),.int .i64 0,.int .i64 0,.bool false]) ?_ 2 _ rfl;(with_reducible repeat (first | refine blk_drewN ?_ _ | refine blk_drew ?_ | refine blk_alloc ?_ _));refine blk_put (cs:=#[.int .i64 ((rd_T43 l1_0 x5_1).f0),.int .i64 0,.int .i64 0,.int .i64 0,.bool false]) ?_ 1 _ rfl;(with_reducible repeat (first | refine blk_drewN ?_ _ | refine blk_drew ?_ | refine blk_alloc ?_ _));refine blk_put (cs:=#[.int .i64 0,.int .i64 0,.int .i64 0,.int .i64 0,.bool false]) ?_ 0 _ rfl;(with_reducible repeat (first | refine blk_drewN ?_ _ | refine blk_drew ?_ | refine blk_alloc ?_ _));exact BK4.out) hb);replace HB:=a0_ (below_step hb_ hb);(try clear hb);have hcz32_0 : w31.cell? ⟨gb4,0,none⟩ = some (.int .i64 ((rd_T43 l1_0 x5_1).f0)):=(blk_cell BK4.out 0).trans rfl;have hcz32_1 : w31.cell? ⟨gb4,1,none⟩ = some (.int .i64 ((rd_T43 l1_0 x5_1).f1)):=(blk_cell BK4.out 1).trans rfl;have hcz32_2 : w31.cell? ⟨gb4,2,none⟩ = some (.int .i64 ((rd_T43 l1_0 x5_1).f2)):=(blk_cell BK4.out 2).trans rfl;have hcz32_3 : w31.cell? ⟨gb4,3,none⟩ = some (.int .i64 ((rd_T43 l1_0 x5_1).f3)):=(blk_cell BK4.out 3).trans rfl;have hcz32_4 : w31.cell? ⟨gb4,4,none⟩ = some (.bool ((rd_T43 l1_0 x5_1).f4)):=(blk_cell BK4.out 4).trans rfl;have hfz32_0:=blk_frozen BK4.out 0;have hfz32_1:=blk_frozen BK4.out 1;have hfz32_2:=blk_frozen BK4.out 2;have hfz32_3:=blk_frozen BK4.out 3;have hfz32_4:=blk_frozen BK4.out 4) | (go_at_call 71;(with_reducible refine (spec_inRange.calls ((rd_T43 l1_0 x5_1).f1) 0 99 true _ A9.out).mono ?_);rintro e w' ⟨rfl,⟨nd,rfl⟩⟩;(try first | exact ⟨rfl,_,World.drewN_drewN _ _ _⟩ | exact ⟨rfl,_,Eq.trans (World.drewN_drewN _ _ _) (congrArg (World.drewN _) (Nat.add_assoc _ _ _))⟩);have hcz33_0 : w31.cell? ⟨gb2,0,none⟩ = some (.slice (some ad3) l1_0.length c1_0):=(blk_cell BK2.out 0).trans rfl;have hfz33_0:=blk_frozen BK2.out 0) | (go_at_call 72;(with_reducible refine (spec_validLinks.calls _ _ l1_0 x5_1 false _ ?side1 ?side2 A11.out).mono ?_);(case side1=>repeat (first | exact (Kd.C_below HR1_0.out hb_) | (with_reducible refine Kd.C_alloc ?_ _) | (with_reducible refine Kd.C_drewN ?_ _) | (with_reducible refine Kd.C_drew ?_)));(case side2=>exact HC1_0.out);rintro e w34 ⟨rfl,hb⟩;replace BK1:=kb_ BK1 hb;replace BK2:=kb_ BK2 hb;replace BK4:=kb_ BK4 hb;replace HB:=a0_ (below_step hb_ hb);(try clear hb);(try clear hb2);(try clear hk);(try clear hi))))
        go_ret
        exact ⟨by first | rfl | (simp [errW_none,errW_some] <;> rfl) | (simp [*,errW_none,errW_some] <;> rfl),hb_⟩
      ·replace c10:=Bool.eq_false_iff.mpr c10
       subst c10
       have H1 : (some false) = some r:=by rw [if_neg (show ¬ (false = true) by decide)] at H;exact H
       clear H
       have H:=H1
       clear H1
       obtain rfl:=Option.some.inj H
       have hnb35:=NB2_1.out
       have hnc35:=NB1_2.out
       have hcz36_0 : wr.cell? ⟨gb2,0,none⟩ = some (.slice A1_0 l1_0.length c1_0):=(blk_cell BK2.out 0).trans rfl
       have hfz36_0:=blk_frozen BK2.out 0
       have p3 : 0 ≤ (x5_1 : Int):=of_decide_eq_true (by first | (with_reducible assumption) | assumption)
       have q3 : x5_1 < (l1_0.length : Int):=of_decide_eq_true (by first | (with_reducible assumption) | assumption)
       obtain ⟨ad3,e3,hx3_0,hx3_1,hx3_2,hx3_3,hx3_4⟩:=at_T43 HR1_0.out x5_1 p3 q3
       cases e3
       replace hx3_0:=(HB.out.cell (World.block_lt_of_cell? w _ hx3_0)).trans hx3_0
       replace hx3_1:=(HB.out.cell (World.block_lt_of_cell? w _ hx3_1)).trans hx3_1
       replace hx3_2:=(HB.out.cell (World.block_lt_of_cell? w _ hx3_2)).trans hx3_2
       replace hx3_3:=(HB.out.cell (World.block_lt_of_cell? w _ hx3_3)).trans hx3_3
       replace hx3_4:=(HB.out.cell (World.block_lt_of_cell? w _ hx3_4)).trans hx3_4
       replace p3:=eq_true p3
       replace q3:=eq_true q3
       go_wp2_with (first | ((with_reducible refine gate_dst (N:=6) rfl ?_);(try (refine gate_guard (by rfl) ?_;dsimp only));refine box_event ?hg (N:=6) ?hd (cs:=#[.int .i64 0,.int .i64 0,.int .i64 0,.int .i64 0,.bool false]) (t:=43) ?hr ?_;(case hd=>rfl);(case hg=>rfl);(case hr=>first | (go_simp;done) | (go_simp;rfl));intro gb4 hg w37 hbox hb;have n0_:=kb_ BK1 hb;have n1_:=kb_ BK2 hb;have n2_:=a0_ (below_step hb_ hb);have n3_:=a0_ (hbox);have n4_:=a0_ ((by rw [hg];exact (below_size hb_) : w.heap.size ≤ gb4));have n5_:=a0_ ((by rw [hg];exact (below_size hb_) : w.heap.size ≤ gb4));have n6_:=a0_ ((by rw [hg];exact Nat.ne_of_lt (blk_lt (bb_ BK1.out)) : gb1 ≠ gb4));have n7_:=a0_ ((by rw [hg];exact Nat.ne_of_gt (blk_lt (bb_ BK1.out)) : gb4 ≠ gb1));have n8_:=a0_ ((by rw [hg];exact Nat.ne_of_lt (blk_lt (bb_ BK2.out)) : gb2 ≠ gb4));have n9_:=a0_ ((by rw [hg];exact Nat.ne_of_gt (blk_lt (bb_ BK2.out)) : gb4 ≠ gb2));clear BK1 BK2 HB;have BK1:=n0_;have BK2:=n1_;have HB:=n2_;have BK4:=n3_;have GW4:=n4_;have GE4:=n5_;have NB1_4:=n6_;have NB4_1:=n7_;have NB2_4:=n8_;have NB4_2:=n9_;clear n0_ n1_ n2_ n3_ n4_ n5_ n6_ n7_ n8_ n9_;clear hb hbox hg;have hnb38:=NB4_1.out;have hnc38:=NB1_4.out;have hnb39:=NB4_2.out;have hnc39:=NB2_4.out;have hcz40_0 : w37.cell? ⟨gb4,0,none⟩ = some (.int .i64 0):=(blk_cell BK4.out 0).trans rfl;have hcz40_1 : w37.cell? ⟨gb4,1,none⟩ = some (.int .i64 0):=(blk_cell BK4.out 1).trans rfl;have hcz40_2 : w37.cell? ⟨gb4,2,none⟩ = some (.int .i64 0):=(blk_cell BK4.out 2).trans rfl;have hcz40_3 : w37.cell? ⟨gb4,3,none⟩ = some (.int .i64 0):=(blk_cell BK4.out 3).trans rfl;have hcz40_4 : w37.cell? ⟨gb4,4,none⟩ = some (.bool false):=(blk_cell BK4.out 4).trans rfl;have hfz40_0:=blk_frozen BK4.out 0;have hfz40_1:=blk_frozen BK4.out 1;have hfz40_2:=blk_frozen BK4.out 2;have hfz40_3:=blk_frozen BK4.out 3;have hfz40_4:=blk_frozen BK4.out 4;have hcz41_0 : w37.cell? ⟨gb1,0,none⟩ = some (.slice A0_0 l0_0.length c0_0):=(blk_cell BK1.out 0).trans rfl;have hfz41_0:=blk_frozen BK1.out 0) | (go_at_call 70;(with_reducible refine (spec_hasClass.calls _ _ l0_0 ((rd_T43 l1_0 x5_1).f0) true _ ?side1 ?side2 A7.out).mono ?_);(case side1=>exact Kd.C_below HR0_0.out hb_);(case side2=>exact HC0_0.out);rintro e w42 ⟨rfl,hb⟩;replace BK1:=a0_ (blk_below (g:=gb1) (o:=.cells #[.slice A0_0 l0_0.length c0_0] 25 (0,0)) (bff_ BK1.out) hb);replace BK2:=a0_ (blk_below (g:=gb2) (o:=.cells #[.slice (some ad3) l1_0.length c1_0] 28 (0,0)) (bff_ BK2.out) hb);replace BK4:=a0_ (blk_below (g:=gb4) (o:=.cells #[.int .i64 ((rd_T43 l1_0 x5_1).f0),.int .i64 ((rd_T43 l1_0 x5_1).f1),.int .i64 ((rd_T43 l1_0 x5_1).f2),.int .i64 ((rd_T43 l1_0 x5_1).f3),.bool ((rd_T43 l1_0 x5_1).f4)] 43 (0,0)) (by (with_reducible repeat (first | refine blk_drewN ?_ _ | refine blk_drew ?_ | refine blk_alloc ?_ _));refine blk_put (cs:=#[.int .i64 ((rd_T43 l1_0 x5_1).f0),.int .i64 ((rd_T43 l1_0 x5_1).f1),.int .i64 ((rd_T43 l1_0 x5_1).f2),.int .i64 ((rd_T43 l1_0 x5_1).f3),.bool false]) ?_ 4 _ rfl;(with_reducible repeat (first | refine blk_drewN ?_ _ | refine blk_drew ?_ | refine blk_alloc ?_ _));refine blk_put (cs:=#[.int .i64 ((rd_T43 l1_0 x5_1).f0),.int .i64 ((rd_T43 l1_0 x5_1).f1),.int .i64 ((rd_T43 l1_0 x5_1).f2),.int .i64 0,.bool false]) ?_ 3 _ rfl;(with_reducible repeat (first | refine blk_drewN ?_ _ | refine blk_drew ?_ | refine blk_alloc ?_ _));refine blk_put (cs:=#[.int .i64 ((rd_T43 l1_0 x5_1).f0),.int .i64 ((rd_T43 l1_0 x5_1).f1),.int .i64 0,.int .i64 0,.bool false]) ?_ 2 _ rfl;(with_reducible repeat (first | refine blk_drewN ?_ _ | refine blk_drew ?_ | refine blk_alloc ?_ _));refine blk_put (cs:=#[.int .i64 ((rd_T43 l1_0 x5_1).f0),.int .i64 0,.int .i64 0,.int .i64 0,.bool false]) ?_ 1 _ rfl;(with_reducible repeat (first | refine blk_drewN ?_ _ | refine blk_drew ?_ | refine blk_alloc ?_ _));refine blk_put (cs:=#[.int .i64 0,.int .i64 0,.int .i64 0,.int .i64 0,.bool false]) ?_ 0 _ rfl;(with_reducible repeat (first | refine blk_drewN ?_ _ | refine blk_drew ?_ | refine blk_alloc ?_ _));exact BK4.out) hb);replace HB:=a0_ (below_step hb_ hb);(try clear hb);have hcz43_0 : w42.cell? ⟨gb4,0,none⟩ = some (.int .i64 ((rd_T43 l1_0 x5_1).f0)):=(blk_cell BK4.out 0).trans rfl;have hcz43_1 : w42.cell? ⟨gb4,1,none⟩ = some (.int .i64 ((rd_T43 l1_0 x5_1).f1)):=(blk_cell BK4.out 1).trans rfl;have hcz43_2 : w42.cell? ⟨gb4,2,none⟩ = some (.int .i64 ((rd_T43 l1_0 x5_1).f2)):=(blk_cell BK4.out 2).trans rfl;have hcz43_3 : w42.cell? ⟨gb4,3,none⟩ = some (.int .i64 ((rd_T43 l1_0 x5_1).f3)):=(blk_cell BK4.out 3).trans rfl;have hcz43_4 : w42.cell? ⟨gb4,4,none⟩ = some (.bool ((rd_T43 l1_0 x5_1).f4)):=(blk_cell BK4.out 4).trans rfl;have hfz43_0:=blk_frozen BK4.out 0;have hfz43_1:=blk_frozen BK4.out 1;have hfz43_2:=blk_frozen BK4.out 2;have hfz43_3:=blk_frozen BK4.out 3;have hfz43_4:=blk_frozen BK4.out 4) | (go_at_call 71;(with_reducible refine (spec_inRange.calls ((rd_T43 l1_0 x5_1).f1) 0 99 false _ A9.out).mono ?_);rintro e w' ⟨rfl,⟨nd,rfl⟩⟩;(try first | exact ⟨rfl,_,World.drewN_drewN _ _ _⟩ | exact ⟨rfl,_,Eq.trans (World.drewN_drewN _ _ _) (congrArg (World.drewN _) (Nat.add_assoc _ _ _))⟩)))
       repeat (go_quiet (first | ((with_reducible refine gate_dst (N:=6) rfl ?_);(try (refine gate_guard (by rfl) ?_;dsimp only));refine box_event ?hg (N:=6) ?hd (cs:=#[.int .i64 0,.int .i64 0,.int .i64 0,.int .i64 0,.bool false]) (t:=43) ?hr ?_;(case hd=>rfl);(case hg=>rfl);(case hr=>first | (go_simp;done) | (go_simp;rfl));intro gb4 hg w37 hbox hb;have n0_:=kb_ BK1 hb;have n1_:=kb_ BK2 hb;have n2_:=a0_ (below_step hb_ hb);have n3_:=a0_ (hbox);have n4_:=a0_ ((by rw [hg];exact (below_size hb_) : w.heap.size ≤ gb4));have n5_:=a0_ ((by rw [hg];exact (below_size hb_) : w.heap.size ≤ gb4));have n6_:=a0_ ((by rw [hg];exact Nat.ne_of_lt (blk_lt (bb_ BK1.out)) : gb1 ≠ gb4));have n7_:=a0_ ((by rw [hg];exact Nat.ne_of_gt (blk_lt (bb_ BK1.out)) : gb4 ≠ gb1));have n8_:=a0_ ((by rw [hg];exact Nat.ne_of_lt (blk_lt (bb_ BK2.out)) : gb2 ≠ gb4));have n9_:=a0_ ((by rw [hg];exact Nat.ne_of_gt (blk_lt (bb_ BK2.out)) : gb4 ≠ gb2));clear BK1 BK2 HB;have BK1:=n0_;have BK2:=n1_;have HB:=n2_;have BK4:=n3_;have GW4:=n4_;have GE4:=n5_;have NB1_4:=n6_;have NB4_1:=n7_;have NB2_4:=n8_;have NB4_2:=n9_;clear n0_ n1_ n2_ n3_ n4_ n5_ n6_ n7_ n8_ n9_;clear hb hbox hg;have hnb38:=NB4_1.out;have hnc38:=NB1_4.out;have hnb39:=NB4_2.out;have hnc39:=NB2_4.out;have hcz40_0 : w37.cell? ⟨gb4,0,none⟩ = some (.int .i64 0):=(blk_cell BK4.out 0).trans rfl;have hcz40_1 : w37.cell? ⟨gb4,1,none⟩ = some (.int .i64 0):=(blk_cell BK4.out 1).trans rfl;have hcz40_2 : w37.cell? ⟨gb4,2,none⟩ = some (.int .i64 0):=(blk_cell BK4.out 2).trans rfl;have hcz40_3 : w37.cell? ⟨gb4,3,none⟩ = some (.int .i64 0):=(blk_cell BK4.out 3).trans rfl;have hcz40_4 : w37.cell? ⟨gb4,4,none⟩ = some (.bool false):=(blk_cell BK4.out 4).trans rfl;have hfz40_0:=blk_frozen BK4.out 0;have hfz40_1:=blk_frozen BK4.out 1;have hfz40_2:=blk_frozen BK4.out 2;have hfz40_3:=blk_frozen BK4.out 3;have hfz40_4:=blk_frozen BK4.out 4;have hcz41_0 : w37.cell? ⟨gb1,0,none⟩ = some (.slice A0_0 l0_0.length c0_0):=(blk_cell BK1.out 0).trans rfl;have hfz41_0:=blk_frozen BK1.out 0) | (go_at_call 70;(with_reducible refine (spec_hasClass.calls _ _ l0_0 ((rd_T43 l1_0 x5_1).f0) true _ ?side1 ?side2 A7.out).mono ?_);(case side1=>exact Kd.C_below HR0_0.out hb_);(case side2=>exact HC0_0.out);rintro e w42 ⟨rfl,hb⟩;replace BK1:=a0_ (blk_below (g:=gb1) (o:=.cells #[.slice A0_0 l0_0.length c0_0] 25 (0,0)) (bff_ BK1.out) hb);replace BK2:=a0_ (blk_below (g:=gb2) (o:=.cells #[.slice (some ad3) l1_0.length c1_0] 28 (0,0)) (bff_ BK2.out) hb);replace BK4:=a0_ (blk_below (g:=gb4) (o:=.cells #[.int .i64 ((rd_T43 l1_0 x5_1).f0),.int .i64 ((rd_T43 l1_0 x5_1).f1),.int .i64 ((rd_T43 l1_0 x5_1).f2),.int .i64 ((rd_T43 l1_0 x5_1).f3),.bool ((rd_T43 l1_0 x5_1).f4)] 43 (0,0)) (by (with_reducible repeat (first | refine blk_drewN ?_ _ | refine blk_drew ?_ | refine blk_alloc ?_ _));refine blk_put (cs:=#[.int .i64 ((rd_T43 l1_0 x5_1).f0),.int .i64 ((rd_T43 l1_0 x5_1).f1),.int .i64 ((rd_T43 l1_0 x5_1).f2),.int .i64 ((rd_T43 l1_0 x5_1).f3),.bool false]) ?_ 4 _ rfl;(with_reducible repeat (first | refine blk_drewN ?_ _ | refine blk_drew ?_ | refine blk_alloc ?_ _));refine blk_put (cs:=#[.int .i64 ((rd_T43 l1_0 x5_1).f0),.int .i64 ((rd_T43 l1_0 x5_1).f1),.int .i64 ((rd_T43 l1_0 x5_1).f2),.int .i64 0,.bool false]) ?_ 3 _ rfl;(with_reducible repeat (first | refine blk_drewN ?_ _ | refine blk_drew ?_ | refine blk_alloc ?_ _));refine blk_put (cs:=#[.int .i64 ((rd_T43 l1_0 x5_1).f0),.int .i64 ((rd_T43 l1_0 x5_1).f1),.int .i64 0,.int .i64 0,.bool false]) ?_ 2 _ rfl;(with_reducible repeat (first | refine blk_drewN ?_ _ | refine blk_drew ?_ | refine blk_alloc ?_ _));refine blk_put (cs:=#[.int .i64 ((rd_T43 l1_0 x5_1).f0),.int .i64 0,.int .i64 0,.int .i64 0,.bool false]) ?_ 1 _ rfl;(with_reducible repeat (first | refine blk_drewN ?_ _ | refine blk_drew ?_ | refine blk_alloc ?_ _));refine blk_put (cs:=#[.int .i64 0,.int .i64 0,.int .i64 0,.int .i64 0,.bool false]) ?_ 0 _ rfl;(with_reducible repeat (first | refine blk_drewN ?_ _ | refine blk_drew ?_ | refine blk_alloc ?_ _));exact BK4.out) hb);replace HB:=a0_ (below_step hb_ hb);(try clear hb);have hcz43_0 : w42.cell? ⟨gb4,0,none⟩ = some (.int .i64 ((rd_T43 l1_0 x5_1).f0)):=(blk_cell BK4.out 0).trans rfl;have hcz43_1 : w42.cell? ⟨gb4,1,none⟩ = some (.int .i64 ((rd_T43 l1_0 x5_1).f1)):=(blk_cell BK4.out 1).trans rfl;have hcz43_2 : w42.cell? ⟨gb4,2,none⟩ = some (.int .i64 ((rd_T43 l1_0 x5_1).f2)):=(blk_cell BK4.out 2).trans rfl;have hcz43_3 : w42.cell? ⟨gb4,3,none⟩ = some (.int .i64 ((rd_T43 l1_0 x5_1).f3)):=(blk_cell BK4.out 3).trans rfl;have hcz43_4 : w42.cell? ⟨gb4,4,none⟩ = some (.bool ((rd_T43 l1_0 x5_1).f4)):=(blk_cell BK4.out 4).trans rfl;have hfz43_0:=blk_frozen BK4.out 0;have hfz43_1:=blk_frozen BK4.out 1;have hfz43_2:=blk_frozen BK4.out 2;have hfz43_3:=blk_frozen BK4.out 3;have hfz43_4:=blk_frozen BK4.out 4) | (go_at_call 71;(with_reducible refine (spec_inRange.calls ((rd_T43 l1_0 x5_1).f1) 0 99 false _ A9.out).mono ?_);rintro e w' ⟨rfl,⟨nd,rfl⟩⟩;(try first | exact ⟨rfl,_,World.drewN_drewN _ _ _⟩ | exact ⟨rfl,_,Eq.trans (World.drewN_drewN _ _ _) (congrArg (World.drewN _) (Nat.add_assoc _ _ _))⟩)));try go_wp2_with (first | ((with_reducible refine gate_dst (N:=6) rfl ?_);(try (refine gate_guard (by rfl) ?_;dsimp only));refine box_event ?hg (N:=6) ?hd (cs:=#[.int .i64 0,.int .i64 0,.int .i64 0,.int .i64 0,.bool false]) (t:=43) ?hr ?_;(case hd=>rfl);(case hg=>rfl);(case hr=>first | (go_simp;done) | (go_simp;rfl));intro gb4 hg w37 hbox hb;have n0_:=kb_ BK1 hb;have n1_:=kb_ BK2 hb;have n2_:=a0_ (below_step hb_ hb);have n3_:=a0_ (hbox);have n4_:=a0_ ((by rw [hg];exact (below_size hb_) : w.heap.size ≤ gb4));have n5_:=a0_ ((by rw [hg];exact (below_size hb_) : w.heap.size ≤ gb4));have n6_:=a0_ ((by rw [hg];exact Nat.ne_of_lt (blk_lt (bb_ BK1.out)) : gb1 ≠ gb4));have n7_:=a0_ ((by rw [hg];exact Nat.ne_of_gt (blk_lt (bb_ BK1.out)) : gb4 ≠ gb1));have n8_:=a0_ ((by rw [hg];exact Nat.ne_of_lt (blk_lt (bb_ BK2.out)) : gb2 ≠ gb4));have n9_:=a0_ ((by rw [hg];exact Nat.ne_of_gt (blk_lt (bb_ BK2.out)) : gb4 ≠ gb2));clear BK1 BK2 HB;have BK1:=n0_;have BK2:=n1_;have HB:=n2_;have BK4:=n3_;have GW4:=n4_;have GE4:=n5_;have NB1_4:=n6_;have NB4_1:=n7_;have NB2_4:=n8_;have NB4_2:=n9_;clear n0_ n1_ n2_ n3_ n4_ n5_ n6_ n7_ n8_ n9_;clear hb hbox hg;have hnb38:=NB4_1.out;have hnc38:=NB1_4.out;have hnb39:=NB4_2.out;have hnc39:=NB2_4.out;have hcz40_0 : w37.cell? ⟨gb4,0,none⟩ = some (.int .i64 0):=(blk_cell BK4.out 0).trans rfl;have hcz40_1 : w37.cell? ⟨gb4,1,none⟩ = some (.int .i64 0):=(blk_cell BK4.out 1).trans rfl;have hcz40_2 : w37.cell? ⟨gb4,2,none⟩ = some (.int .i64 0):=(blk_cell BK4.out 2).trans rfl;have hcz40_3 : w37.cell? ⟨gb4,3,none⟩ = some (.int .i64 0):=(blk_cell BK4.out 3).trans rfl;have hcz40_4 : w37.cell? ⟨gb4,4,none⟩ = some (.bool false):=(blk_cell BK4.out 4).trans rfl;have hfz40_0:=blk_frozen BK4.out 0;have hfz40_1:=blk_frozen BK4.out 1;have hfz40_2:=blk_frozen BK4.out 2;have hfz40_3:=blk_frozen BK4.out 3;have hfz40_4:=blk_frozen BK4.out 4;have hcz41_0 : w37.cell? ⟨gb1,0,none⟩ = some (.slice A0_0 l0_0.length c0_0):=(blk_cell BK1.out 0).trans rfl;have hfz41_0:=blk_frozen BK1.out 0) | (go_at_call 70;(with_reducible refine (spec_hasClass.calls _ _ l0_0 ((rd_T43 l1_0 x5_1).f0) true _ ?side1 ?side2 A7.out).mono ?_);(case side1=>exact Kd.C_below HR0_0.out hb_);(case side2=>exact HC0_0.out);rintro e w42 ⟨rfl,hb⟩;replace BK1:=a0_ (blk_below (g:=gb1) (o:=.cells #[.slice A0_0 l0_0.length c0_0] 25 (0,0)) (bff_ BK1.out) hb);replace BK2:=a0_ (blk_below (g:=gb2) (o:=.cells #[.slice (some ad3) l1_0.length c1_0] 28 (0,0)) (bff_ BK2.out) hb);replace BK4:=a0_ (blk_below (g:=gb4) (o:=.cells #[.int .i64 ((rd_T43 l1_0 x5_1).f0),.int .i64 ((rd_T43 l1_0 x5_1).f1),.int .i64 ((rd_T43 l1_0 x5_1).f2),.int .i64 ((rd_T43 l1_0 x5_1).f3),.bool ((rd_T43 l1_0 x5_1).f4)] 43 (0,0)) (by (with_reducible repeat (first | refine blk_drewN ?_ _ | refine blk_drew ?_ | refine blk_alloc ?_ _));refine blk_put (cs:=#[.int .i64 ((rd_T43 l1_0 x5_1).f0),.int .i64 ((rd_T43 l1_0 x5_1).f1),.int .i64 ((rd_T43 l1_0 x5_1).f2),.int .i64 ((rd_T43 l1_0 x5_1).f3),.bool false]) ?_ 4 _ rfl;(with_reducible repeat (first | refine blk_drewN ?_ _ | refine blk_drew ?_ | refine blk_alloc ?_ _));refine blk_put (cs:=#[.int .i64 ((rd_T43 l1_0 x5_1).f0),.int .i64 ((rd_T43 l1_0 x5_1).f1),.int .i64 ((rd_T43 l1_0 x5_1).f2),.int .i64 0,.bool false]) ?_ 3 _ rfl;(with_reducible repeat (first | refine blk_drewN ?_ _ | refine blk_drew ?_ | refine blk_alloc ?_ _));refine blk_put (cs:=#[.int .i64 ((rd_T43 l1_0 x5_1).f0),.int .i64 ((rd_T43 l1_0 x5_1).f1),.int .i64 0,.int .i64 0,.bool false]) ?_ 2 _ rfl;(with_reducible repeat (first | refine blk_drewN ?_ _ | refine blk_drew ?_ | refine blk_alloc ?_ _));refine blk_put (cs:=#[.int .i64 ((rd_T43 l1_0 x5_1).f0),.int .i64 0,.int .i64 0,.int .i64 0,.bool false]) ?_ 1 _ rfl;(with_reducible repeat (first | refine blk_drewN ?_ _ | refine blk_drew ?_ | refine blk_alloc ?_ _));refine blk_put (cs:=#[.int .i64 0,.int .i64 0,.int .i64 0,.int .i64 0,.bool false]) ?_ 0 _ rfl;(with_reducible repeat (first | refine blk_drewN ?_ _ | refine blk_drew ?_ | refine blk_alloc ?_ _));exact BK4.out) hb);replace HB:=a0_ (below_step hb_ hb);(try clear hb);have hcz43_0 : w42.cell? ⟨gb4,0,none⟩ = some (.int .i64 ((rd_T43 l1_0 x5_1).f0)):=(blk_cell BK4.out 0).trans rfl;have hcz43_1 : w42.cell? ⟨gb4,1,none⟩ = some (.int .i64 ((rd_T43 l1_0 x5_1).f1)):=(blk_cell BK4.out 1).trans rfl;have hcz43_2 : w42.cell? ⟨gb4,2,none⟩ = some (.int .i64 ((rd_T43 l1_0 x5_1).f2)):=(blk_cell BK4.out 2).trans rfl;have hcz43_3 : w42.cell? ⟨gb4,3,none⟩ = some (.int .i64 ((rd_T43 l1_0 x5_1).f3)):=(blk_cell BK4.out 3).trans rfl;have hcz43_4 : w42.cell? ⟨gb4,4,none⟩ = some (.bool ((rd_T43 l1_0 x5_1).f4)):=(blk_cell BK4.out 4).trans rfl;have hfz43_0:=blk_frozen BK4.out 0;have hfz43_1:=blk_frozen BK4.out 1;have hfz43_2:=blk_frozen BK4.out 2;have hfz43_3:=blk_frozen BK4.out 3;have hfz43_4:=blk_frozen BK4.out 4) | (go_at_call 71;(with_reducible refine (spec_inRange.calls ((rd_T43 l1_0 x5_1).f1) 0 99 false _ A9.out).mono ?_);rintro e w' ⟨rfl,⟨nd,rfl⟩⟩;(try first | exact ⟨rfl,_,World.drewN_drewN _ _ _⟩ | exact ⟨rfl,_,Eq.trans (World.drewN_drewN _ _ _) (congrArg (World.drewN _) (Nat.add_assoc _ _ _))⟩))))
       go_ret
       exact ⟨by first | rfl | (simp [errW_none,errW_some] <;> rfl) | (simp [*,errW_none,errW_some] <;> rfl),hb_⟩
     ·replace c8:=Bool.eq_false_iff.mpr c8
      subst c8
      have H1 : (some false) = some r:=by rw [if_neg (show ¬ (false = true) by decide)] at H;exact H
      clear H
      have H:=H1
      clear H1
      obtain rfl:=Option.some.inj H
      have hnb44:=NB2_1.out
      have hnc44:=NB1_2.out
      have hcz45_0 : wr.cell? ⟨gb2,0,none⟩ = some (.slice A1_0 l1_0.length c1_0):=(blk_cell BK2.out 0).trans rfl
      have hfz45_0:=blk_frozen BK2.out 0
      have p3 : 0 ≤ (x5_1 : Int):=of_decide_eq_true (by first | (with_reducible assumption) | assumption)
      have q3 : x5_1 < (l1_0.length : Int):=of_decide_eq_true (by first | (with_reducible assumption) | assumption)
      obtain ⟨ad3,e3,hx3_0,hx3_1,hx3_2,hx3_3,hx3_4⟩:=at_T43 HR1_0.out x5_1 p3 q3
      cases e3
      replace hx3_0:=(HB.out.cell (World.block_lt_of_cell? w _ hx3_0)).trans hx3_0
      replace hx3_1:=(HB.out.cell (World.block_lt_of_cell? w _ hx3_1)).trans hx3_1
      replace hx3_2:=(HB.out.cell (World.block_lt_of_cell? w _ hx3_2)).trans hx3_2
      replace hx3_3:=(HB.out.cell (World.block_lt_of_cell? w _ hx3_3)).trans hx3_3
      replace hx3_4:=(HB.out.cell (World.block_lt_of_cell? w _ hx3_4)).trans hx3_4
      replace p3:=eq_true p3
      replace q3:=eq_true q3
      go_wp2_with (first | ((with_reducible refine gate_dst (N:=6) rfl ?_);(try (refine gate_guard (by rfl) ?_;dsimp only));refine box_event ?hg (N:=6) ?hd (cs:=#[.int .i64 0,.int .i64 0,.int .i64 0,.int .i64 0,.bool false]) (t:=43) ?hr ?_;(case hd=>rfl);(case hg=>rfl);(case hr=>first | (go_simp;done) | (go_simp;rfl));intro gb4 hg w46 hbox hb;have n0_:=kb_ BK1 hb;have n1_:=kb_ BK2 hb;have n2_:=a0_ (below_step hb_ hb);have n3_:=a0_ (hbox);have n4_:=a0_ ((by rw [hg];exact (below_size hb_) : w.heap.size ≤ gb4));have n5_:=a0_ ((by rw [hg];exact (below_size hb_) : w.heap.size ≤ gb4));have n6_:=a0_ ((by rw [hg];exact Nat.ne_of_lt (blk_lt (bb_ BK1.out)) : gb1 ≠ gb4));have n7_:=a0_ ((by rw [hg];exact Nat.ne_of_gt (blk_lt (bb_ BK1.out)) : gb4 ≠ gb1));have n8_:=a0_ ((by rw [hg];exact Nat.ne_of_lt (blk_lt (bb_ BK2.out)) : gb2 ≠ gb4));have n9_:=a0_ ((by rw [hg];exact Nat.ne_of_gt (blk_lt (bb_ BK2.out)) : gb4 ≠ gb2));clear BK1 BK2 HB;have BK1:=n0_;have BK2:=n1_;have HB:=n2_;have BK4:=n3_;have GW4:=n4_;have GE4:=n5_;have NB1_4:=n6_;have NB4_1:=n7_;have NB2_4:=n8_;have NB4_2:=n9_;clear n0_ n1_ n2_ n3_ n4_ n5_ n6_ n7_ n8_ n9_;clear hb hbox hg;have hnb47:=NB4_1.out;have hnc47:=NB1_4.out;have hnb48:=NB4_2.out;have hnc48:=NB2_4.out;have hcz49_0 : w46.cell? ⟨gb4,0,none⟩ = some (.int .i64 0):=(blk_cell BK4.out 0).trans rfl;have hcz49_1 : w46.cell? ⟨gb4,1,none⟩ = some (.int .i64 0):=(blk_cell BK4.out 1).trans rfl;have hcz49_2 : w46.cell? ⟨gb4,2,none⟩ = some (.int .i64 0):=(blk_cell BK4.out 2).trans rfl;have hcz49_3 : w46.cell? ⟨gb4,3,none⟩ = some (.int .i64 0):=(blk_cell BK4.out 3).trans rfl;have hcz49_4 : w46.cell? ⟨gb4,4,none⟩ = some (.bool false):=(blk_cell BK4.out 4).trans rfl;have hfz49_0:=blk_frozen BK4.out 0;have hfz49_1:=blk_frozen BK4.out 1;have hfz49_2:=blk_frozen BK4.out 2;have hfz49_3:=blk_frozen BK4.out 3;have hfz49_4:=blk_frozen BK4.out 4;have hcz50_0 : w46.cell? ⟨gb1,0,none⟩ = some (.slice A0_0 l0_0.length c0_0):=(blk_cell BK1.out 0).trans rfl;have hfz50_0:=blk_frozen BK1.out 0) | (go_at_call 70;(with_reducible refine (spec_hasClass.calls _ _ l0_0 ((rd_T43 l1_0 x5_1).f0) false _ ?side1 ?side2 A7.out).mono ?_);(case side1=>exact Kd.C_below HR0_0.out hb_);(case side2=>exact HC0_0.out);rintro e w51 ⟨rfl,hb⟩;replace BK1:=a0_ (blk_below (g:=gb1) (o:=.cells #[.slice A0_0 l0_0.length c0_0] 25 (0,0)) (bff_ BK1.out) hb);replace BK2:=a0_ (blk_below (g:=gb2) (o:=.cells #[.slice (some ad3) l1_0.length c1_0] 28 (0,0)) (bff_ BK2.out) hb);replace BK4:=a0_ (blk_below (g:=gb4) (o:=.cells #[.int .i64 ((rd_T43 l1_0 x5_1).f0),.int .i64 ((rd_T43 l1_0 x5_1).f1),.int .i64 ((rd_T43 l1_0 x5_1).f2),.int .i64 ((rd_T43 l1_0 x5_1).f3),.bool ((rd_T43 l1_0 x5_1).f4)] 43 (0,0)) (by (with_reducible repeat (first | refine blk_drewN ?_ _ | refine blk_drew ?_ | refine blk_alloc ?_ _));refine blk_put (cs:=#[.int .i64 ((rd_T43 l1_0 x5_1).f0),.int .i64 ((rd_T43 l1_0 x5_1).f1),.int .i64 ((rd_T43 l1_0 x5_1).f2),.int .i64 ((rd_T43 l1_0 x5_1).f3),.bool false]) ?_ 4 _ rfl;(with_reducible repeat (first | refine blk_drewN ?_ _ | refine blk_drew ?_ | refine blk_alloc ?_ _));refine blk_put (cs:=#[.int .i64 ((rd_T43 l1_0 x5_1).f0),.int .i64 ((rd_T43 l1_0 x5_1).f1),.int .i64 ((rd_T43 l1_0 x5_1).f2),.int .i64 0,.bool false]) ?_ 3 _ rfl;(with_reducible repeat (first | refine blk_drewN ?_ _ | refine blk_drew ?_ | refine blk_alloc ?_ _));refine blk_put (cs:=#[.int .i64 ((rd_T43 l1_0 x5_1).f0),.int .i64 ((rd_T43 l1_0 x5_1).f1),.int .i64 0,.int .i64 0,.bool false]) ?_ 2 _ rfl;(with_reducible repeat (first | refine blk_drewN ?_ _ | refine blk_drew ?_ | refine blk_alloc ?_ _));refine blk_put (cs:=#[.int .i64 ((rd_T43 l1_0 x5_1).f0),.int .i64 0,.int .i64 0,.int .i64 0,.bool false]) ?_ 1 _ rfl;(with_reducible repeat (first | refine blk_drewN ?_ _ | refine blk_drew ?_ | refine blk_alloc ?_ _));refine blk_put (cs:=#[.int .i64 0,.int .i64 0,.int .i64 0,.int .i64 0,.bool false]) ?_ 0 _ rfl;(with_reducible repeat (first | refine blk_drewN ?_ _ | refine blk_drew ?_ | refine blk_alloc ?_ _));exact BK4.out) hb);replace HB:=a0_ (below_step hb_ hb);(try clear hb);(try clear hb2);(try clear hk);(try clear hi)))
      repeat (go_quiet (first | ((with_reducible refine gate_dst (N:=6) rfl ?_);(try (refine gate_guard (by rfl) ?_;dsimp only));refine box_event ?hg (N:=6) ?hd (cs:=#[.int .i64 0,.int .i64 0,.int .i64 0,.int .i64 0,.bool false]) (t:=43) ?hr ?_;(case hd=>rfl);(case hg=>rfl);(case hr=>first | (go_simp;done) | (go_simp;rfl));intro gb4 hg w46 hbox hb;have n0_:=kb_ BK1 hb;have n1_:=kb_ BK2 hb;have n2_:=a0_ (below_step hb_ hb);have n3_:=a0_ (hbox);have n4_:=a0_ ((by rw [hg];exact (below_size hb_) : w.heap.size ≤ gb4));have n5_:=a0_ ((by rw [hg];exact (below_size hb_) : w.heap.size ≤ gb4));have n6_:=a0_ ((by rw [hg];exact Nat.ne_of_lt (blk_lt (bb_ BK1.out)) : gb1 ≠ gb4));have n7_:=a0_ ((by rw [hg];exact Nat.ne_of_gt (blk_lt (bb_ BK1.out)) : gb4 ≠ gb1));have n8_:=a0_ ((by rw [hg];exact Nat.ne_of_lt (blk_lt (bb_ BK2.out)) : gb2 ≠ gb4));have n9_:=a0_ ((by rw [hg];exact Nat.ne_of_gt (blk_lt (bb_ BK2.out)) : gb4 ≠ gb2));clear BK1 BK2 HB;have BK1:=n0_;have BK2:=n1_;have HB:=n2_;have BK4:=n3_;have GW4:=n4_;have GE4:=n5_;have NB1_4:=n6_;have NB4_1:=n7_;have NB2_4:=n8_;have NB4_2:=n9_;clear n0_ n1_ n2_ n3_ n4_ n5_ n6_ n7_ n8_ n9_;clear hb hbox hg;have hnb47:=NB4_1.out;have hnc47:=NB1_4.out;have hnb48:=NB4_2.out;have hnc48:=NB2_4.out;have hcz49_0 : w46.cell? ⟨gb4,0,none⟩ = some (.int .i64 0):=(blk_cell BK4.out 0).trans rfl;have hcz49_1 : w46.cell? ⟨gb4,1,none⟩ = some (.int .i64 0):=(blk_cell BK4.out 1).trans rfl;have hcz49_2 : w46.cell? ⟨gb4,2,none⟩ = some (.int .i64 0):=(blk_cell BK4.out 2).trans rfl;have hcz49_3 : w46.cell? ⟨gb4,3,none⟩ = some (.int .i64 0):=(blk_cell BK4.out 3).trans rfl;have hcz49_4 : w46.cell? ⟨gb4,4,none⟩ = some (.bool false):=(blk_cell BK4.out 4).trans rfl;have hfz49_0:=blk_frozen BK4.out 0;have hfz49_1:=blk_frozen BK4.out 1;have hfz49_2:=blk_frozen BK4.out 2;have hfz49_3:=blk_frozen BK4.out 3;have hfz49_4:=blk_frozen BK4.out 4;have hcz50_0 : w46.cell? ⟨gb1,0,none⟩ = some (.slice A0_0 l0_0.length c0_0):=(blk_cell BK1.out 0).trans rfl;have hfz50_0:=blk_frozen BK1.out 0) | (go_at_call 70;(with_reducible refine (spec_hasClass.calls _ _ l0_0 ((rd_T43 l1_0 x5_1).f0) false _ ?side1 ?side2 A7.out).mono ?_);(case side1=>exact Kd.C_below HR0_0.out hb_);(case side2=>exact HC0_0.out);rintro e w51 ⟨rfl,hb⟩;replace BK1:=a0_ (blk_below (g:=gb1) (o:=.cells #[.slice A0_0 l0_0.length c0_0] 25 (0,0)) (bff_ BK1.out) hb);replace BK2:=a0_ (blk_below (g:=gb2) (o:=.cells #[.slice (some ad3) l1_0.length c1_0] 28 (0,0)) (bff_ BK2.out) hb);replace BK4:=a0_ (blk_below (g:=gb4) (o:=.cells #[.int .i64 ((rd_T43 l1_0 x5_1).f0),.int .i64 ((rd_T43 l1_0 x5_1).f1),.int .i64 ((rd_T43 l1_0 x5_1).f2),.int .i64 ((rd_T43 l1_0 x5_1).f3),.bool ((rd_T43 l1_0 x5_1).f4)] 43 (0,0)) (by (with_reducible repeat (first | refine blk_drewN ?_ _ | refine blk_drew ?_ | refine blk_alloc ?_ _));refine blk_put (cs:=#[.int .i64 ((rd_T43 l1_0 x5_1).f0),.int .i64 ((rd_T43 l1_0 x5_1).f1),.int .i64 ((rd_T43 l1_0 x5_1).f2),.int .i64 ((rd_T43 l1_0 x5_1).f3),.bool false]) ?_ 4 _ rfl;(with_reducible repeat (first | refine blk_drewN ?_ _ | refine blk_drew ?_ | refine blk_alloc ?_ _));refine blk_put (cs:=#[.int .i64 ((rd_T43 l1_0 x5_1).f0),.int .i64 ((rd_T43 l1_0 x5_1).f1),.int .i64 ((rd_T43 l1_0 x5_1).f2),.int .i64 0,.bool false]) ?_ 3 _ rfl;(with_reducible repeat (first | refine blk_drewN ?_ _ | refine blk_drew ?_ | refine blk_alloc ?_ _));refine blk_put (cs:=#[.int .i64 ((rd_T43 l1_0 x5_1).f0),.int .i64 ((rd_T43 l1_0 x5_1).f1),.int .i64 0,.int .i64 0,.bool false]) ?_ 2 _ rfl;(with_reducible repeat (first | refine blk_drewN ?_ _ | refine blk_drew ?_ | refine blk_alloc ?_ _));refine blk_put (cs:=#[.int .i64 ((rd_T43 l1_0 x5_1).f0),.int .i64 0,.int .i64 0,.int .i64 0,.bool false]) ?_ 1 _ rfl;(with_reducible repeat (first | refine blk_drewN ?_ _ | refine blk_drew ?_ | refine blk_alloc ?_ _));refine blk_put (cs:=#[.int .i64 0,.int .i64 0,.int .i64 0,.int .i64 0,.bool false]) ?_ 0 _ rfl;(with_reducible repeat (first | refine blk_drewN ?_ _ | refine blk_drew ?_ | refine blk_alloc ?_ _));exact BK4.out) hb);replace HB:=a0_ (below_step hb_ hb);(try clear hb);(try clear hb2);(try clear hk);(try clear hi)));try go_wp2_with (first | ((with_reducible refine gate_dst (N:=6) rfl ?_);(try (refine gate_guard (by rfl) ?_;dsimp only));refine box_event ?hg (N:=6) ?hd (cs:=#[.int .i64 0,.int .i64 0,.int .i64 0,.int .i64 0,.bool false]) (t:=43) ?hr ?_;(case hd=>rfl);(case hg=>rfl);(case hr=>first | (go_simp;done) | (go_simp;rfl));intro gb4 hg w46 hbox hb;have n0_:=kb_ BK1 hb;have n1_:=kb_ BK2 hb;have n2_:=a0_ (below_step hb_ hb);have n3_:=a0_ (hbox);have n4_:=a0_ ((by rw [hg];exact (below_size hb_) : w.heap.size ≤ gb4));have n5_:=a0_ ((by rw [hg];exact (below_size hb_) : w.heap.size ≤ gb4));have n6_:=a0_ ((by rw [hg];exact Nat.ne_of_lt (blk_lt (bb_ BK1.out)) : gb1 ≠ gb4));have n7_:=a0_ ((by rw [hg];exact Nat.ne_of_gt (blk_lt (bb_ BK1.out)) : gb4 ≠ gb1));have n8_:=a0_ ((by rw [hg];exact Nat.ne_of_lt (blk_lt (bb_ BK2.out)) : gb2 ≠ gb4));have n9_:=a0_ ((by rw [hg];exact Nat.ne_of_gt (blk_lt (bb_ BK2.out)) : gb4 ≠ gb2));clear BK1 BK2 HB;have BK1:=n0_;have BK2:=n1_;have HB:=n2_;have BK4:=n3_;have GW4:=n4_;have GE4:=n5_;have NB1_4:=n6_;have NB4_1:=n7_;have NB2_4:=n8_;have NB4_2:=n9_;clear n0_ n1_ n2_ n3_ n4_ n5_ n6_ n7_ n8_ n9_;clear hb hbox hg;have hnb47:=NB4_1.out;have hnc47:=NB1_4.out;have hnb48:=NB4_2.out;have hnc48:=NB2_4.out;have hcz49_0 : w46.cell? ⟨gb4,0,none⟩ = some (.int .i64 0):=(blk_cell BK4.out 0).trans rfl;have hcz49_1 : w46.cell? ⟨gb4,1,none⟩ = some (.int .i64 0):=(blk_cell BK4.out 1).trans rfl;have hcz49_2 : w46.cell? ⟨gb4,2,none⟩ = some (.int .i64 0):=(blk_cell BK4.out 2).trans rfl;have hcz49_3 : w46.cell? ⟨gb4,3,none⟩ = some (.int .i64 0):=(blk_cell BK4.out 3).trans rfl;have hcz49_4 : w46.cell? ⟨gb4,4,none⟩ = some (.bool false):=(blk_cell BK4.out 4).trans rfl;have hfz49_0:=blk_frozen BK4.out 0;have hfz49_1:=blk_frozen BK4.out 1;have hfz49_2:=blk_frozen BK4.out 2;have hfz49_3:=blk_frozen BK4.out 3;have hfz49_4:=blk_frozen BK4.out 4;have hcz50_0 : w46.cell? ⟨gb1,0,none⟩ = some (.slice A0_0 l0_0.length c0_0):=(blk_cell BK1.out 0).trans rfl;have hfz50_0:=blk_frozen BK1.out 0) | (go_at_call 70;(with_reducible refine (spec_hasClass.calls _ _ l0_0 ((rd_T43 l1_0 x5_1).f0) false _ ?side1 ?side2 A7.out).mono ?_);(case side1=>exact Kd.C_below HR0_0.out hb_);(case side2=>exact HC0_0.out);rintro e w51 ⟨rfl,hb⟩;replace BK1:=a0_ (blk_below (g:=gb1) (o:=.cells #[.slice A0_0 l0_0.length c0_0] 25 (0,0)) (bff_ BK1.out) hb);replace BK2:=a0_ (blk_below (g:=gb2) (o:=.cells #[.slice (some ad3) l1_0.length c1_0] 28 (0,0)) (bff_ BK2.out) hb);replace BK4:=a0_ (blk_below (g:=gb4) (o:=.cells #[.int .i64 ((rd_T43 l1_0 x5_1).f0),.int .i64 ((rd_T43 l1_0 x5_1).f1),.int .i64 ((rd_T43 l1_0 x5_1).f2),.int .i64 ((rd_T43 l1_0 x5_1).f3),.bool ((rd_T43 l1_0 x5_1).f4)] 43 (0,0)) (by (with_reducible repeat (first | refine blk_drewN ?_ _ | refine blk_drew ?_ | refine blk_alloc ?_ _));refine blk_put (cs:=#[.int .i64 ((rd_T43 l1_0 x5_1).f0),.int .i64 ((rd_T43 l1_0 x5_1).f1),.int .i64 ((rd_T43 l1_0 x5_1).f2),.int .i64 ((rd_T43 l1_0 x5_1).f3),.bool false]) ?_ 4 _ rfl;(with_reducible repeat (first | refine blk_drewN ?_ _ | refine blk_drew ?_ | refine blk_alloc ?_ _));refine blk_put (cs:=#[.int .i64 ((rd_T43 l1_0 x5_1).f0),.int .i64 ((rd_T43 l1_0 x5_1).f1),.int .i64 ((rd_T43 l1_0 x5_1).f2),.int .i64 0,.bool false]) ?_ 3 _ rfl;(with_reducible repeat (first | refine blk_drewN ?_ _ | refine blk_drew ?_ | refine blk_alloc ?_ _));refine blk_put (cs:=#[.int .i64 ((rd_T43 l1_0 x5_1).f0),.int .i64 ((rd_T43 l1_0 x5_1).f1),.int .i64 0,.int .i64 0,.bool false]) ?_ 2 _ rfl;(with_reducible repeat (first | refine blk_drewN ?_ _ | refine blk_drew ?_ | refine blk_alloc ?_ _));refine blk_put (cs:=#[.int .i64 ((rd_T43 l1_0 x5_1).f0),.int .i64 0,.int .i64 0,.int .i64 0,.bool false]) ?_ 1 _ rfl;(with_reducible repeat (first | refine blk_drewN ?_ _ | refine blk_drew ?_ | refine blk_alloc ?_ _));refine blk_put (cs:=#[.int .i64 0,.int .i64 0,.int .i64 0,.int .i64 0,.bool false]) ?_ 0 _ rfl;(with_reducible repeat (first | refine blk_drewN ?_ _ | refine blk_drew ?_ | refine blk_alloc ?_ _));exact BK4.out) hb);replace HB:=a0_ (below_step hb_ hb);(try clear hb);(try clear hb2);(try clear hk);(try clear hi))))
      go_ret
      exact ⟨by first | rfl | (simp [errW_none,errW_some] <;> rfl) | (simp [*,errW_none,errW_some] <;> rfl),hb_⟩
    ·rw [if_neg c6] at H
     exact absurd H (by simp)
   ·rw [if_neg c5] at H
    have c5b0 : decide (x5_1 < (l1_0.length : Int)) = false:=decide_eq_false c5
    clear c5
    have H':=a0_ H
    clear H
    have hnb52:=NB2_1.out
    have hnc52:=NB1_2.out
    have hcz53_0 : wr.cell? ⟨gb2,0,none⟩ = some (.slice A1_0 l1_0.length c1_0):=(blk_cell BK2.out 0).trans rfl
    have hfz53_0:=blk_frozen BK2.out 0
    go_wp2
    repeat (go_quiet (fail);try go_wp2)
    go_loopg [7] k1 (fun kq v7 w'=>∃ (x7_2 : Int),v7 = .int .i64 x7_2 ∧ Aside0 (spec_validHeap.l1 kq x7_2 l0_0 l1_0 = some r) ∧ Aside0 (kq ≤ k1) ∧ Aside0 (w'.heap[gb1]? = some (.cells #[(.slice A0_0 l0_0.length c0_0)] 25 (0,0))) ∧ Aside0 (w'.heap[gb2]? = some (.cells #[(.slice A1_0 l1_0.length c1_0)] 28 (0,0))) ∧ Aside0 (Below w.heap.size w w'))
    case atStart=>exact ⟨(0),(by first | rfl | (simp;done) | (simp [*];done)),H',⟨Nat.le_refl _⟩,⟨by (with_reducible repeat (first | refine blk_drewN ?_ _ | refine blk_drew ?_ | refine blk_alloc ?_ _));exact BK1.out⟩,⟨by (with_reducible repeat (first | refine blk_drewN ?_ _ | refine blk_drew ?_ | refine blk_alloc ?_ _));exact BK2.out⟩,⟨hb_⟩⟩
    case round =>
     clear H'
     try clear c1
     try clear c2
     try clear p2
     try clear c3
     try clear p3
     try clear q3
     try clear hx3
     try clear c4
     try clear c5
     try clear c5b0
     try clear c6
     try clear c6b0
     try clear p6
     try clear c8
     try clear c10
     try clear c12
     try clear c13
     try clear c16
     try clear c17
     try clear c24
     try clear c27
     try clear c28
     try clear c35
     try clear c38
     try clear c39
     try clear c44
     try clear c46
     try clear c47
     try clear c48
     try clear c52
     try clear hcz14_0
     try clear hcz18_0
     try clear hcz18_1
     try clear hcz18_2
     try clear hcz18_3
     try clear hcz18_4
     try clear hcz19_0
     try clear hcz21_0
     try clear hcz21_1
     try clear hcz21_2
     try clear hcz21_3
     try clear hcz21_4
     try clear hcz22_0
     try clear hcz25_0
     try clear hcz29_0
     try clear hcz29_1
     try clear hcz29_2
     try clear hcz29_3
     try clear hcz29_4
     try clear hcz30_0
     try clear hcz32_0
     try clear hcz32_1
     try clear hcz32_2
     try clear hcz32_3
     try clear hcz32_4
     try clear hcz33_0
     try clear hcz36_0
     try clear hcz40_0
     try clear hcz40_1
     try clear hcz40_2
     try clear hcz40_3
     try clear hcz40_4
     try clear hcz41_0
     try clear hcz43_0
     try clear hcz43_1
     try clear hcz43_2
     try clear hcz43_3
     try clear hcz43_4
     try clear hcz45_0
     try clear hcz49_0
     try clear hcz49_1
     try clear hcz49_2
     try clear hcz49_3
     try clear hcz49_4
     try clear hcz50_0
     try clear hcz53_0
     try clear hfz14_0
     try clear hfz18_0
     try clear hfz18_1
     try clear hfz18_2
     try clear hfz18_3
     try clear hfz18_4
     try clear hfz19_0
     try clear hfz21_0
     try clear hfz21_1
     try clear hfz21_2
     try clear hfz21_3
     try clear hfz21_4
     try clear hfz22_0
     try clear hfz25_0
     try clear hfz29_0
     try clear hfz29_1
     try clear hfz29_2
     try clear hfz29_3
     try clear hfz29_4
     try clear hfz30_0
     try clear hfz32_0
     try clear hfz32_1
     try clear hfz32_2
     try clear hfz32_3
     try clear hfz32_4
     try clear hfz33_0
     try clear hfz36_0
     try clear hfz40_0
     try clear hfz40_1
     try clear hfz40_2
     try clear hfz40_3
     try clear hfz40_4
     try clear hfz41_0
     try clear hfz43_0
     try clear hfz43_1
     try clear hfz43_2
     try clear hfz43_3
     try clear hfz43_4
     try clear hfz45_0
     try clear hfz49_0
     try clear hfz49_1
     try clear hfz49_2
     try clear hfz49_3
     try clear hfz49_4
     try clear hfz50_0
     try clear hfz53_0
     try clear hx3_0
     try clear hx3_1
     try clear hx3_2
     try clear hx3_3
     try clear hx3_4
     try clear p2
     try clear p3
     try clear q3
     obtain ⟨x7_2,rfl,HA,HK2,BK1,BK2,HB⟩:=hrel
     cases gk with
     | zero=>exact absurd HA.out (by simp [spec_validHeap.l1])
     | succ k2 =>
      have H:=HA.out
      clear HA
      simp only [spec_validHeap.l1] at H
      by_cases c54 : x7_2 < (l1_0.length : Int)
      ·rw [if_pos c54] at H
       have c54b0 : decide (x7_2 < (l1_0.length : Int)) = true:=decide_eq_true c54
       clear c54
       replace H:=Option.bind_eq_some_iff.mp H
       obtain ⟨t8,A550,H⟩:=H
       try dsimp only at H
       have A55:=a0_ A550
       clear A550
       obtain ⟨ji56,hji56⟩ : ∃ j_ : Int,(wrap64 ((t8.length : Int) - 1)) = j_:=⟨_,rfl⟩
       replace H : (if 0 ≤ (ji56) then (if (ji56) < (t8.length : Int) then (if 0 ≤ (rd t8 (ji56)) then (if (rd t8 (ji56)) < (l1_0.length : Int) then (if ((rd_T43 l1_0 (rd t8 (ji56))).f3) ≥ 0 then (some false) else (spec_validHeap.l1 k2 (wrap64 (x7_2 + 1)) l0_0 l1_0)) else (none)) else (none)) else (none)) else (none)) = some r:=by first | (rw [hji56] at H;exact H) | (simp only [hji56] at H ⊢;exact H)
       (try rw [hji56] at A55)
       have hji56w : (IntKind.i64.wrap ((t8.length : Int) - 1)) = ji56:=(i64_w _).trans hji56
       by_cases c57 : 0 ≤ (ji56)
       ·rw [if_pos c57] at H
        have c57b0 : decide (0 ≤ (ji56)) = true:=decide_eq_true c57
        clear c57
        by_cases c58 : (ji56) < (t8.length : Int)
        ·rw [if_pos c58] at H
         have c58b0 : decide ((ji56) < (t8.length : Int)) = true:=decide_eq_true c58
         clear c58
         by_cases c59 : 0 ≤ (rd t8 (ji56))
         ·rw [if_pos c59] at H
          have c59b0 : decide (0 ≤ (rd t8 (ji56))) = true:=decide_eq_true c59
          clear c59
          by_cases c60 : (rd t8 (ji56)) < (l1_0.length : Int)
          ·rw [if_pos c60] at H
           have c60b0 : decide ((rd t8 (ji56)) < (l1_0.length : Int)) = true:=decide_eq_true c60
           clear c60
           by_cases c61 : ((rd_T43 l1_0 (rd t8 (ji56))).f3) ≥ 0
           ·rw [if_pos c61] at H
            have c61b0 : decide (0 ≤ ((rd_T43 l1_0 (rd t8 (ji56))).f3)) = true:=decide_eq_true c61
            clear c61
            obtain rfl:=Option.some.inj H
            have hnb62:=NB2_1.out
            have hnc62:=NB1_2.out
            have hcz63_0 : wr.cell? ⟨gb2,0,none⟩ = some (.slice A1_0 l1_0.length c1_0):=(blk_cell BK2.out 0).trans rfl
            have hfz63_0:=blk_frozen BK2.out 0
            go_wp2_with (first | (go_at_call 73;(with_reducible refine (spec_contexts.calls k2 _ _ l1_0 x7_2 t8 _ ?side1 ?side2 A55.out).mono ?_);(case side1=>exact cc_ (Kd.C_below HR1_0.out HB.out));(case side2=>exact HC1_0.out);rintro e w64 ⟨v9,rfl,ho0,hb⟩;have HO10:=a0_ (Kd.R_lower ho0 (below_size hb_));replace BK1:=kb_ BK1 hb;replace BK2:=kb_ BK2 hb;replace HB:=a0_ (below_step hb_ hb);(try clear hb);(try clear ho0);have hcz65_0 : w64.cell? ⟨gb2,0,none⟩ = some (.slice A1_0 l1_0.length c1_0):=(blk_cell BK2.out 0).trans rfl;have hfz65_0:=blk_frozen BK2.out 0;obtain ⟨Ao66,co66,eo66⟩:=Kd.R_slice HO10.out;subst eo66;have p11 : 0 ≤ ((ji56) : Int):=of_decide_eq_true (by first | (with_reducible assumption) | assumption);have q11 : (ji56) < (t8.length : Int):=of_decide_eq_true (by first | (with_reducible assumption) | assumption);obtain ⟨ad11,e11,hx11_0⟩:=Kd.at_int (Kd.R_reads' HO10.out).2.2 (ji56) p11 q11;cases e11;replace p11:=eq_true p11;replace q11:=eq_true q11;have p12 : 0 ≤ ((rd t8 (ji56)) : Int):=of_decide_eq_true (by first | (with_reducible assumption) | assumption);have q12 : (rd t8 (ji56)) < (l1_0.length : Int):=of_decide_eq_true (by first | (with_reducible assumption) | assumption);obtain ⟨ad12,e12,hx12_0,hx12_1,hx12_2,hx12_3,hx12_4⟩:=at_T43 HR1_0.out (rd t8 (ji56)) p12 q12;cases e12;replace hx12_0:=(HB.out.cell (World.block_lt_of_cell? w _ hx12_0)).trans hx12_0;replace hx12_1:=(HB.out.cell (World.block_lt_of_cell? w _ hx12_1)).trans hx12_1;replace hx12_2:=(HB.out.cell (World.block_lt_of_cell? w _ hx12_2)).trans hx12_2;replace hx12_3:=(HB.out.cell (World.block_lt_of_cell? w _ hx12_3)).trans hx12_3;replace hx12_4:=(HB.out.cell (World.block_lt_of_cell? w _ hx12_4)).trans hx12_4;replace p12:=eq_true p12;replace q12:=eq_true q12))
            repeat (go_quiet (first | (go_at_call 73;(with_reducible refine (spec_contexts.calls k2 _ _ l1_0 x7_2 t8 _ ?side1 ?side2 A55.out).mono ?_);(case side1=>exact cc_ (Kd.C_below HR1_0.out HB.out));(case side2=>exact HC1_0.out);rintro e w64 ⟨v9,rfl,ho0,hb⟩;have HO10:=a0_ (Kd.R_lower ho0 (below_size hb_));replace BK1:=kb_ BK1 hb;replace BK2:=kb_ BK2 hb;replace HB:=a0_ (below_step hb_ hb);(try clear hb);(try clear ho0);have hcz65_0 : w64.cell? ⟨gb2,0,none⟩ = some (.slice A1_0 l1_0.length c1_0):=(blk_cell BK2.out 0).trans rfl;have hfz65_0:=blk_frozen BK2.out 0;obtain ⟨Ao66,co66,eo66⟩:=Kd.R_slice HO10.out;subst eo66;have p11 : 0 ≤ ((ji56) : Int):=of_decide_eq_true (by first | (with_reducible assumption) | assumption);have q11 : (ji56) < (t8.length : Int):=of_decide_eq_true (by first | (with_reducible assumption) | assumption);obtain ⟨ad11,e11,hx11_0⟩:=Kd.at_int (Kd.R_reads' HO10.out).2.2 (ji56) p11 q11;cases e11;replace p11:=eq_true p11;replace q11:=eq_true q11;have p12 : 0 ≤ ((rd t8 (ji56)) : Int):=of_decide_eq_true (by first | (with_reducible assumption) | assumption);have q12 : (rd t8 (ji56)) < (l1_0.length : Int):=of_decide_eq_true (by first | (with_reducible assumption) | assumption);obtain ⟨ad12,e12,hx12_0,hx12_1,hx12_2,hx12_3,hx12_4⟩:=at_T43 HR1_0.out (rd t8 (ji56)) p12 q12;cases e12;replace hx12_0:=(HB.out.cell (World.block_lt_of_cell? w _ hx12_0)).trans hx12_0;replace hx12_1:=(HB.out.cell (World.block_lt_of_cell? w _ hx12_1)).trans hx12_1;replace hx12_2:=(HB.out.cell (World.block_lt_of_cell? w _ hx12_2)).trans hx12_2;replace hx12_3:=(HB.out.cell (World.block_lt_of_cell? w _ hx12_3)).trans hx12_3;replace hx12_4:=(HB.out.cell (World.block_lt_of_cell? w _ hx12_4)).trans hx12_4;replace p12:=eq_true p12;replace q12:=eq_true q12));try go_wp2_with (first | (go_at_call 73;(with_reducible refine (spec_contexts.calls k2 _ _ l1_0 x7_2 t8 _ ?side1 ?side2 A55.out).mono ?_);(case side1=>exact cc_ (Kd.C_below HR1_0.out HB.out));(case side2=>exact HC1_0.out);rintro e w64 ⟨v9,rfl,ho0,hb⟩;have HO10:=a0_ (Kd.R_lower ho0 (below_size hb_));replace BK1:=kb_ BK1 hb;replace BK2:=kb_ BK2 hb;replace HB:=a0_ (below_step hb_ hb);(try clear hb);(try clear ho0);have hcz65_0 : w64.cell? ⟨gb2,0,none⟩ = some (.slice A1_0 l1_0.length c1_0):=(blk_cell BK2.out 0).trans rfl;have hfz65_0:=blk_frozen BK2.out 0;obtain ⟨Ao66,co66,eo66⟩:=Kd.R_slice HO10.out;subst eo66;have p11 : 0 ≤ ((ji56) : Int):=of_decide_eq_true (by first | (with_reducible assumption) | assumption);have q11 : (ji56) < (t8.length : Int):=of_decide_eq_true (by first | (with_reducible assumption) | assumption);obtain ⟨ad11,e11,hx11_0⟩:=Kd.at_int (Kd.R_reads' HO10.out).2.2 (ji56) p11 q11;cases e11;replace p11:=eq_true p11;replace q11:=eq_true q11;have p12 : 0 ≤ ((rd t8 (ji56)) : Int):=of_decide_eq_true (by first | (with_reducible assumption) | assumption);have q12 : (rd t8 (ji56)) < (l1_0.length : Int):=of_decide_eq_true (by first | (with_reducible assumption) | assumption);obtain ⟨ad12,e12,hx12_0,hx12_1,hx12_2,hx12_3,hx12_4⟩:=at_T43 HR1_0.out (rd t8 (ji56)) p12 q12;cases e12;replace hx12_0:=(HB.out.cell (World.block_lt_of_cell? w _ hx12_0)).trans hx12_0;replace hx12_1:=(HB.out.cell (World.block_lt_of_cell? w _ hx12_1)).trans hx12_1;replace hx12_2:=(HB.out.cell (World.block_lt_of_cell? w _ hx12_2)).trans hx12_2;replace hx12_3:=(HB.out.cell (World.block_lt_of_cell? w _ hx12_3)).trans hx12_3;replace hx12_4:=(HB.out.cell (World.block_lt_of_cell? w _ hx12_4)).trans hx12_4;replace p12:=eq_true p12;replace q12:=eq_true q12)))
            go_ret
            exact ⟨by first | rfl | (simp [errW_none,errW_some] <;> rfl) | (simp only [← hji56];first | rfl | (simp [errW_none,errW_some] <;> rfl)) | (simp [*,errW_none,errW_some] <;> rfl),hb_⟩
           ·rw [if_neg c61] at H
            have c61b0 : decide (0 ≤ ((rd_T43 l1_0 (rd t8 (ji56))).f3)) = false:=decide_eq_false c61
            clear c61
            have H':=a0_ H
            clear H
            have hnb67:=NB2_1.out
            have hnc67:=NB1_2.out
            have hcz68_0 : wr.cell? ⟨gb2,0,none⟩ = some (.slice A1_0 l1_0.length c1_0):=(blk_cell BK2.out 0).trans rfl
            have hfz68_0:=blk_frozen BK2.out 0
            go_wp2_with (first | (go_at_call 73;(with_reducible refine (spec_contexts.calls k2 _ _ l1_0 x7_2 t8 _ ?side1 ?side2 A55.out).mono ?_);(case side1=>exact cc_ (Kd.C_below HR1_0.out HB.out));(case side2=>exact HC1_0.out);rintro e w69 ⟨v9,rfl,ho0,hb⟩;have HO10:=a0_ (Kd.R_lower ho0 (below_size hb_));replace BK1:=kb_ BK1 hb;replace BK2:=kb_ BK2 hb;replace HB:=a0_ (below_step hb_ hb);(try clear hb);(try clear ho0);have hcz70_0 : w69.cell? ⟨gb2,0,none⟩ = some (.slice A1_0 l1_0.length c1_0):=(blk_cell BK2.out 0).trans rfl;have hfz70_0:=blk_frozen BK2.out 0;obtain ⟨Ao71,co71,eo71⟩:=Kd.R_slice HO10.out;subst eo71;have p11 : 0 ≤ ((ji56) : Int):=of_decide_eq_true (by first | (with_reducible assumption) | assumption);have q11 : (ji56) < (t8.length : Int):=of_decide_eq_true (by first | (with_reducible assumption) | assumption);obtain ⟨ad11,e11,hx11_0⟩:=Kd.at_int (Kd.R_reads' HO10.out).2.2 (ji56) p11 q11;cases e11;replace p11:=eq_true p11;replace q11:=eq_true q11;have p12 : 0 ≤ ((rd t8 (ji56)) : Int):=of_decide_eq_true (by first | (with_reducible assumption) | assumption);have q12 : (rd t8 (ji56)) < (l1_0.length : Int):=of_decide_eq_true (by first | (with_reducible assumption) | assumption);obtain ⟨ad12,e12,hx12_0,hx12_1,hx12_2,hx12_3,hx12_4⟩:=at_T43 HR1_0.out (rd t8 (ji56)) p12 q12;cases e12;replace hx12_0:=(HB.out.cell (World.block_lt_of_cell? w _ hx12_0)).trans hx12_0;replace hx12_1:=(HB.out.cell (World.block_lt_of_cell? w _ hx12_1)).trans hx12_1;replace hx12_2:=(HB.out.cell (World.block_lt_of_cell? w _ hx12_2)).trans hx12_2;replace hx12_3:=(HB.out.cell (World.block_lt_of_cell? w _ hx12_3)).trans hx12_3;replace hx12_4:=(HB.out.cell (World.block_lt_of_cell? w _ hx12_4)).trans hx12_4;replace p12:=eq_true p12;replace q12:=eq_true q12))
            repeat (go_quiet (first | (go_at_call 73;(with_reducible refine (spec_contexts.calls k2 _ _ l1_0 x7_2 t8 _ ?side1 ?side2 A55.out).mono ?_);(case side1=>exact cc_ (Kd.C_below HR1_0.out HB.out));(case side2=>exact HC1_0.out);rintro e w69 ⟨v9,rfl,ho0,hb⟩;have HO10:=a0_ (Kd.R_lower ho0 (below_size hb_));replace BK1:=kb_ BK1 hb;replace BK2:=kb_ BK2 hb;replace HB:=a0_ (below_step hb_ hb);(try clear hb);(try clear ho0);have hcz70_0 : w69.cell? ⟨gb2,0,none⟩ = some (.slice A1_0 l1_0.length c1_0):=(blk_cell BK2.out 0).trans rfl;have hfz70_0:=blk_frozen BK2.out 0;obtain ⟨Ao71,co71,eo71⟩:=Kd.R_slice HO10.out;subst eo71;have p11 : 0 ≤ ((ji56) : Int):=of_decide_eq_true (by first | (with_reducible assumption) | assumption);have q11 : (ji56) < (t8.length : Int):=of_decide_eq_true (by first | (with_reducible assumption) | assumption);obtain ⟨ad11,e11,hx11_0⟩:=Kd.at_int (Kd.R_reads' HO10.out).2.2 (ji56) p11 q11;cases e11;replace p11:=eq_true p11;replace q11:=eq_true q11;have p12 : 0 ≤ ((rd t8 (ji56)) : Int):=of_decide_eq_true (by first | (with_reducible assumption) | assumption);have q12 : (rd t8 (ji56)) < (l1_0.length : Int):=of_decide_eq_true (by first | (with_reducible assumption) | assumption);obtain ⟨ad12,e12,hx12_0,hx12_1,hx12_2,hx12_3,hx12_4⟩:=at_T43 HR1_0.out (rd t8 (ji56)) p12 q12;cases e12;replace hx12_0:=(HB.out.cell (World.block_lt_of_cell? w _ hx12_0)).trans hx12_0;replace hx12_1:=(HB.out.cell (World.block_lt_of_cell? w _ hx12_1)).trans hx12_1;replace hx12_2:=(HB.out.cell (World.block_lt_of_cell? w _ hx12_2)).trans hx12_2;replace hx12_3:=(HB.out.cell (World.block_lt_of_cell? w _ hx12_3)).trans hx12_3;replace hx12_4:=(HB.out.cell (World.block_lt_of_cell? w _ hx12_4)).trans hx12_4;replace p12:=eq_true p12;replace q12:=eq_true q12));try go_wp2_with (first | (go_at_call 73;(with_reducible refine (spec_contexts.calls k2 _ _ l1_0 x7_2 t8 _ ?side1 ?side2 A55.out).mono ?_);(case side1=>exact cc_ (Kd.C_below HR1_0.out HB.out));(case side2=>exact HC1_0.out);rintro e w69 ⟨v9,rfl,ho0,hb⟩;have HO10:=a0_ (Kd.R_lower ho0 (below_size hb_));replace BK1:=kb_ BK1 hb;replace BK2:=kb_ BK2 hb;replace HB:=a0_ (below_step hb_ hb);(try clear hb);(try clear ho0);have hcz70_0 : w69.cell? ⟨gb2,0,none⟩ = some (.slice A1_0 l1_0.length c1_0):=(blk_cell BK2.out 0).trans rfl;have hfz70_0:=blk_frozen BK2.out 0;obtain ⟨Ao71,co71,eo71⟩:=Kd.R_slice HO10.out;subst eo71;have p11 : 0 ≤ ((ji56) : Int):=of_decide_eq_true (by first | (with_reducible assumption) | assumption);have q11 : (ji56) < (t8.length : Int):=of_decide_eq_true (by first | (with_reducible assumption) | assumption);obtain ⟨ad11,e11,hx11_0⟩:=Kd.at_int (Kd.R_reads' HO10.out).2.2 (ji56) p11 q11;cases e11;replace p11:=eq_true p11;replace q11:=eq_true q11;have p12 : 0 ≤ ((rd t8 (ji56)) : Int):=of_decide_eq_true (by first | (with_reducible assumption) | assumption);have q12 : (rd t8 (ji56)) < (l1_0.length : Int):=of_decide_eq_true (by first | (with_reducible assumption) | assumption);obtain ⟨ad12,e12,hx12_0,hx12_1,hx12_2,hx12_3,hx12_4⟩:=at_T43 HR1_0.out (rd t8 (ji56)) p12 q12;cases e12;replace hx12_0:=(HB.out.cell (World.block_lt_of_cell? w _ hx12_0)).trans hx12_0;replace hx12_1:=(HB.out.cell (World.block_lt_of_cell? w _ hx12_1)).trans hx12_1;replace hx12_2:=(HB.out.cell (World.block_lt_of_cell? w _ hx12_2)).trans hx12_2;replace hx12_3:=(HB.out.cell (World.block_lt_of_cell? w _ hx12_3)).trans hx12_3;replace hx12_4:=(HB.out.cell (World.block_lt_of_cell? w _ hx12_4)).trans hx12_4;replace p12:=eq_true p12;replace q12:=eq_true q12)))
            go_roundg k2
            case measure=>have:=HK1.out;have:=HK2.out;omega
            case rel=>exact ⟨(wrap64 (x7_2 + 1)),(by first | rfl | (simp;done) | (simp [*];done)),H',⟨by have:=HK1.out;have:=HK2.out;omega⟩,⟨by (with_reducible repeat (first | refine blk_drewN ?_ _ | refine blk_drew ?_ | refine blk_alloc ?_ _));exact BK1.out⟩,⟨by (with_reducible repeat (first | refine blk_drewN ?_ _ | refine blk_drew ?_ | refine blk_alloc ?_ _));exact BK2.out⟩,⟨hb_⟩⟩
          ·rw [if_neg c60] at H
           exact absurd H (by simp)
         ·rw [if_neg c59] at H
          exact absurd H (by simp)
        ·rw [if_neg c58] at H
         exact absurd H (by simp)
       ·rw [if_neg c57] at H
        exact absurd H (by simp)
      ·rw [if_neg c54] at H
       have c54b0 : decide (x7_2 < (l1_0.length : Int)) = false:=decide_eq_false c54
       clear c54
       replace H:=Option.bind_eq_some_iff.mp H
       obtain ⟨t13,A720,H⟩:=H
       try dsimp only at H
       have A72:=a0_ A720
       clear A720
       by_cases c73 : t13 = true
       ·subst c73
        have H1 : (some (decide ((l1_0.length : Int) ≤ 24))) = some r:=by rw [if_pos rfl] at H;exact H
        clear H
        have H:=H1
        clear H1
        obtain rfl:=Option.some.inj H
        have hnb74:=NB2_1.out
        have hnc74:=NB1_2.out
        have hcz75_0 : wr.cell? ⟨gb2,0,none⟩ = some (.slice A1_0 l1_0.length c1_0):=(blk_cell BK2.out 0).trans rfl
        have hfz75_0:=blk_frozen BK2.out 0
        have hcz76_0 : wr.cell? ⟨gb1,0,none⟩ = some (.slice A0_0 l0_0.length c0_0):=(blk_cell BK1.out 0).trans rfl
        have hfz76_0:=blk_frozen BK1.out 0
        go_wp2_with (first | (go_at_call 74;(with_reducible refine (spec_validTree.calls _ _ l0_0 true _ ?side1 ?side2 A72.out).mono ?_);(case side1=>exact cc_ (Kd.C_below HR0_0.out HB.out));(case side2=>exact HC0_0.out);rintro e w77 ⟨rfl,hb⟩;replace BK1:=kb_ BK1 hb;replace BK2:=kb_ BK2 hb;replace HB:=a0_ (below_step hb_ hb);(try clear hb);have hcz78_0 : w77.cell? ⟨gb2,0,none⟩ = some (.slice A1_0 l1_0.length c1_0):=(blk_cell BK2.out 0).trans rfl;have hfz78_0:=blk_frozen BK2.out 0))
        repeat (go_quiet (first | (go_at_call 74;(with_reducible refine (spec_validTree.calls _ _ l0_0 true _ ?side1 ?side2 A72.out).mono ?_);(case side1=>exact cc_ (Kd.C_below HR0_0.out HB.out));(case side2=>exact HC0_0.out);rintro e w77 ⟨rfl,hb⟩;replace BK1:=kb_ BK1 hb;replace BK2:=kb_ BK2 hb;replace HB:=a0_ (below_step hb_ hb);(try clear hb);have hcz78_0 : w77.cell? ⟨gb2,0,none⟩ = some (.slice A1_0 l1_0.length c1_0):=(blk_cell BK2.out 0).trans rfl;have hfz78_0:=blk_frozen BK2.out 0));try go_wp2_with (first | (go_at_call 74;(with_reducible refine (spec_validTree.calls _ _ l0_0 true _ ?side1 ?side2 A72.out).mono ?_);(case side1=>exact cc_ (Kd.C_below HR0_0.out HB.out));(case side2=>exact HC0_0.out);rintro e w77 ⟨rfl,hb⟩;replace BK1:=kb_ BK1 hb;replace BK2:=kb_ BK2 hb;replace HB:=a0_ (below_step hb_ hb);(try clear hb);have hcz78_0 : w77.cell? ⟨gb2,0,none⟩ = some (.slice A1_0 l1_0.length c1_0):=(blk_cell BK2.out 0).trans rfl;have hfz78_0:=blk_frozen BK2.out 0)))
        go_ret
        exact ⟨by first | rfl | (simp [errW_none,errW_some] <;> rfl) | (simp [*,errW_none,errW_some] <;> rfl),hb_⟩
       ·replace c73:=Bool.eq_false_iff.mpr c73
        subst c73
        have H1 : (some false) = some r:=by rw [if_neg (show ¬ (false = true) by decide)] at H;exact H
        clear H
        have H:=H1
        clear H1
        obtain rfl:=Option.some.inj H
        have hnb79:=NB2_1.out
        have hnc79:=NB1_2.out
        have hcz80_0 : wr.cell? ⟨gb2,0,none⟩ = some (.slice A1_0 l1_0.length c1_0):=(blk_cell BK2.out 0).trans rfl
        have hfz80_0:=blk_frozen BK2.out 0
        have hcz81_0 : wr.cell? ⟨gb1,0,none⟩ = some (.slice A0_0 l0_0.length c0_0):=(blk_cell BK1.out 0).trans rfl
        have hfz81_0:=blk_frozen BK1.out 0
        go_wp2_with (first | (go_at_call 74;(with_reducible refine (spec_validTree.calls _ _ l0_0 false _ ?side1 ?side2 A72.out).mono ?_);(case side1=>exact cc_ (Kd.C_below HR0_0.out HB.out));(case side2=>exact HC0_0.out);rintro e w82 ⟨rfl,hb⟩;replace BK1:=kb_ BK1 hb;replace BK2:=kb_ BK2 hb;replace HB:=a0_ (below_step hb_ hb);(try clear hb);(try clear hb2);(try clear hk);(try clear hi)))
        repeat (go_quiet (first | (go_at_call 74;(with_reducible refine (spec_validTree.calls _ _ l0_0 false _ ?side1 ?side2 A72.out).mono ?_);(case side1=>exact cc_ (Kd.C_below HR0_0.out HB.out));(case side2=>exact HC0_0.out);rintro e w82 ⟨rfl,hb⟩;replace BK1:=kb_ BK1 hb;replace BK2:=kb_ BK2 hb;replace HB:=a0_ (below_step hb_ hb);(try clear hb);(try clear hb2);(try clear hk);(try clear hi)));try go_wp2_with (first | (go_at_call 74;(with_reducible refine (spec_validTree.calls _ _ l0_0 false _ ?side1 ?side2 A72.out).mono ?_);(case side1=>exact cc_ (Kd.C_below HR0_0.out HB.out));(case side2=>exact HC0_0.out);rintro e w82 ⟨rfl,hb⟩;replace BK1:=kb_ BK1 hb;replace BK2:=kb_ BK2 hb;replace HB:=a0_ (below_step hb_ hb);(try clear hb);(try clear hb2);(try clear hk);(try clear hi))))
        go_ret
        exact ⟨by first | rfl | (simp [errW_none,errW_some] <;> rfl) | (simp [*,errW_none,errW_some] <;> rfl),hb_⟩
theorem spec_validHeap_l1 (t : List Cls) (h : List Fau) (hs : smT t = true) (hl : h.length ≤ 2097152) (hf : fsH t h = true) : ∀ d i,i + d = h.length → Ev (fun k=>spec_validHeap.l1 k (i : Int) t h) ((List.range' i d).all (endB h) && (vT t && decide (h.length ≤ 24))):=by
 intro d
 induction d with
 | zero =>
  intro i hi
  refine Ev.succ ?_
  simp only [spec_validHeap.l1]
  refine Ev.neg (by omega) (Ev.bind (Ev.const (show spec_validTree.f t = some (vT t) by rw [spec_validTree.f,if_pos hs])) ?_)
  have e : decide ((h.length : Int) ≤ 24) = decide (h.length ≤ 24):=decide_eq_decide.2 (by omega)
  cases vT t with
  | true=>exact Ev.pos rfl (Ev.const (by rw [e];simp))
  | false=>exact Ev.neg (by simp) (Ev.const (by simp))
 | succ d ih =>
  intro i hi
  have hlt : i < h.length:=by omega
  have hn:=ih (i + 1) (by omega)
  have hpos:=ctxL_pos h (i : Int) (by omega) (by omega)
  have hlen:=ctxL_len h (i : Int)
  have hlast:=ctxL_mem (fun x h0 h1=>(fsH_ctx hf x h0 h1).2) (i : Int) (by omega) _ (lastI_mem hpos)
  have hw : wrap64 (((ctxL h (i : Int)).length : Int) - 1) = (((ctxL h (i : Int)).length - 1 : Nat) : Int):=by rw [wrap_in (by omega) (by omega)];omega
  have hrd : rd (ctxL h (i : Int)) ((((ctxL h (i : Int)).length - 1 : Nat) : Int)) = lastI (ctxL h (i : Int)):=rd_nat _ _ (by omega)
  have hcx : (rd_T43 h (lastI (ctxL h (i : Int)))).f3 = ctxN h (lastI (ctxL h (i : Int))):=by simp [rd_T43,ctxN]
  rw [List.range'_succ,List.all_cons]
  refine Ev.succ ?_
  simp only [spec_validHeap.l1]
  refine Ev.pos (by omega) (Ev.bind (spec_contexts_ev h hl (fun x h0 h1=>(fsH_ctx hf x h0 h1).2) (i : Int) (by omega)) ?_)
  rw [hw,hrd,hcx]
  refine Ev.pos (by omega) (Ev.pos (by omega) (Ev.pos hlast.1 (Ev.pos hlast.2 ?_)))
  by_cases hq : ctxN h (lastI (ctxL h (i : Int))) ≥ 0
  ·rw [show endB h i = false from decide_eq_false (by omega)]
   exact Ev.pos hq (Ev.const (by simp))
  ·rw [show endB h i = true from decide_eq_true (by omega),wrap_succ (i:=(i : Int)) (n:=h.length) (by omega) (by omega) (by omega)]
   exact Ev.neg hq (by simpa using hn)
theorem spec_validHeap_l0 (t : List Cls) (h : List Fau) (hs : smT t = true) (ht : t.length ≤ 9223372036854775807) (hl : h.length ≤ 2097152) : ∀ d i,i + d = h.length → (∀ j,j < i → okF t h j (h.getD j z43) = true) → Ev (fun k=>spec_validHeap.l0 k (i : Int) t h) (vH t h):=by
 intro d
 induction d with
 | zero =>
  intro i hi hA
  obtain rfl : i = h.length:=by omega
  have hfs : fsH t h = true:=all_of hA
  refine Ev.succ ?_
  simp only [spec_validHeap.l0]
  refine Ev.neg (by omega) ?_
  have:=spec_validHeap_l1 t h hs hl hfs h.length 0 (by omega)
  unfold vH esH
  rw [hfs,Bool.true_and,List.range_eq_range']
  exact this
 | succ d ih =>
  intro i hi hA
  have hlt : i < h.length:=by omega
  have hrd : rd_T43 h (i : Int) = h.getD i z43:=by simp [rd_T43]
  refine Ev.succ ?_
  simp only [spec_validHeap.l0,hrd]
  have hdf : okF t h i (h.getD i z43) = (hasC t (h.getD i z43).f0 && ((decide (0 ≤ (h.getD i z43).f1) && decide ((h.getD i z43).f1 ≤ 99)) && (lnkB h (i : Int) (h.getD i z43).f2 && lnkB h (i : Int) (h.getD i z43).f3))):=rfl
  have hfl : okF t h i (h.getD i z43) = false → vH t h = false:=fun e=>by unfold vH fsH;rw [all_false hlt e];rfl
  refine Ev.pos (by omega) (Ev.pos (by omega) (Ev.bind (Ev.const (spec_hasClass_ev t _ ht)) ?_))
  cases q1 : hasC t (h.getD i z43).f0 with
  | false =>
   rw [hfl (by rw [hdf,q1];rfl)]
   exact Ev.neg (by simp) (Ev.const rfl)
  | true =>
   refine Ev.pos rfl (Ev.bind (Ev.const (spec_inRange_ev _ _ _)) ?_)
   cases q2 : (decide (0 ≤ (h.getD i z43).f1) && decide ((h.getD i z43).f1 ≤ 99)) with
   | false =>
    rw [hfl (by rw [hdf,q1,q2];rfl)]
    exact Ev.neg (by simp) (Ev.const rfl)
   | true =>
    refine Ev.pos rfl (Ev.bind (Ev.const (spec_validLinks_ev h i hlt (by omega))) ?_)
    cases q3 : (lnkB h (i : Int) (h.getD i z43).f2 && lnkB h (i : Int) (h.getD i z43).f3) with
    | false =>
     rw [hfl (by rw [hdf,q1,q2,q3];rfl)]
     exact Ev.neg (by simp) (Ev.const rfl)
    | true =>
     refine Ev.pos rfl ?_
     rw [wrap_succ (i:=(i : Int)) (n:=h.length) (by omega) (by omega) (by omega)]
     refine ih (i + 1) (by omega) (fun j hj=>?_)
     by_cases e : j = i
     ·subst e;rw [hdf,q1,q2,q3];rfl
     ·exact hA j (by omega)
theorem spec_validHeap_ev (t : List Cls) (h : List Fau) (hs : smT t = true) (ht : t.length ≤ 9223372036854775807) (hl : h.length ≤ 2097152) : Ev (fun k=>spec_validHeap.f k t h) (vH t h):=by
 have:=spec_validHeap_l0 t h hs ht hl h.length 0 (by omega) (fun j hj=>absurd hj (Nat.not_lt_zero _))
 exact this
end Go.Proofs.Ytmiholmfbjalfaa.P
namespace Go.Proofs.Ytmiholmfbjalfaa.P
open Go.RowKit Go.Proofs.YtmiholmfbjalfaaW.PrintWords Go.Proofs.YtmiholmfbjalfaaW.PrintLast Go.Proofs.YtmiholmfbjalfaaW.PrintMore
attribute [local go_sem] max2_int min2_int max_two min_two max_three min_three max_four min_four
set_option linter.unusedVariables false
set_option linter.unusedSimpArgs false
def spec_ValidHeap.f (k : Nat) (l0_0 : List (S87)) (l1_0 : List (S43)) : Option (Bool):=(spec_validHeap.f k l0_0 l1_0).bind fun t3=>(some t3)
theorem spec_ValidHeap.mono : ∀ a0 a1 k,LeO (spec_ValidHeap.f k a0 a1) (spec_ValidHeap.f (k + 1) a0 a1):=by
 intro a0 a1 k
 unfold spec_ValidHeap.f
 repeat' first
   | (with_reducible exact spec_validHeap.mono _ _ _)
   | (with_reducible exact LeO.refl _)
   | (with_reducible exact LeO.none _)
   | (with_reducible refine LeO.ite ?_ ?_)
   | (with_reducible refine LeO.bind ?_ (fun _=>?_))
   | exact spec_validHeap.mono _ _ _
   | exact LeO.none _
   | refine LeO.ite ?_ ?_
   | refine LeO.bind ?_ (fun _=>?_)
set_option maxHeartbeats 8000000 in
set_option maxRecDepth 100000 in
theorem spec_ValidHeap.calls (k : Nat) (A0_0 : Option Addr) (c0_0 : Nat) (l0_0 : List (S87)) (A1_0 : Option Addr) (c1_0 : Nat) (l1_0 : List (S43)) (r : Bool) (w : World) (hr0_0 : Kd.C k87 w A0_0 l0_0.length l0_0) (hc0_0 : l0_0.length ≤ c0_0) (hr1_0 : Kd.C k43 w A1_0 l1_0.length l1_0) (hc1_0 : l1_0.length ≤ c1_0) (h : spec_ValidHeap.f k l0_0 l1_0 = some r) :
  Calls Try.prog 32 #[.agg #[.slice A0_0 l0_0.length c0_0],.agg #[.slice A1_0 l1_0.length c1_0]] w fun e w'=>e = .returned (.bool r) ∧ Below w.heap.size w w':=by
 have hu25:=Try.underlying25
 have hu28:=Try.underlying28
 have HR0_0:=a0_ hr0_0
 have HC0_0:=a0_ hc0_0
 clear hr0_0 hc0_0
 have HR1_0:=a0_ hr1_0
 have HC1_0:=a0_ hc1_0
 clear hr1_0 hc1_0
 have HB:=a0_ (Below.refl w.heap.size w)
 have H : ((spec_validHeap.f k l0_0 l1_0).bind fun t3=>(some t3)) = some r:=h
 clear h
 replace H:=Option.bind_eq_some_iff.mp H
 obtain ⟨t3,A30,H⟩:=H
 replace H : (some t3) = some r:=H
 have A3:=a0_ A30
 clear A30
 obtain rfl:=Option.some.inj H
 go_enter Try.func32,Try.ntmps32
 go_wp2_with (first | ((with_reducible refine gate_dst (N:=2) rfl ?_);refine box_event ?hg (N:=2) ?hd (cs:=#[.slice A0_0 l0_0.length c0_0]) (t:=25) ?hr ?_;(case hd=>rfl);(case hg=>rfl);(case hr=>first | (go_simp;done) | (go_simp;rfl));intro gb1 hg w4 hbox hb;have BK1:=a0_ (hbox);have GW1:=a0_ ((by rw [hg];exact (below_size hb_) : w.heap.size ≤ gb1));have GE1:=a0_ ((by rw [hg];exact (below_size hb_) : w.heap.size ≤ gb1));replace HB:=a0_ (below_step hb_ hb);clear hb hbox hg) | ((with_reducible refine gate_dst (N:=3) rfl ?_);refine box_event ?hg (N:=3) ?hd (cs:=#[.slice A1_0 l1_0.length c1_0]) (t:=28) ?hr ?_;(case hd=>rfl);(case hg=>rfl);(case hr=>first | (go_simp;done) | (go_simp;rfl));intro gb2 hg w5 hbox hb;have n0_:=kb_ BK1 hb;have n1_:=a0_ (below_step hb_ hb);have n2_:=a0_ (hbox);have n3_:=a0_ ((by rw [hg];exact (below_size hb_) : w.heap.size ≤ gb2));have n4_:=a0_ ((by rw [hg];exact (below_size hb_) : w.heap.size ≤ gb2));have n5_:=a0_ ((by rw [hg];exact Nat.ne_of_lt (blk_lt (bb_ BK1.out)) : gb1 ≠ gb2));have n6_:=a0_ ((by rw [hg];exact Nat.ne_of_gt (blk_lt (bb_ BK1.out)) : gb2 ≠ gb1));clear BK1 HB;have BK1:=n0_;have HB:=n1_;have BK2:=n2_;have GW2:=n3_;have GE2:=n4_;have NB1_2:=n5_;have NB2_1:=n6_;clear n0_ n1_ n2_ n3_ n4_ n5_ n6_;clear hb hbox hg;have hnb6:=NB1_2.out;have hnc6:=NB2_1.out;have hcz7_0 : w5.cell? ⟨gb1,0,none⟩ = some (.slice A0_0 l0_0.length c0_0):=(blk_cell BK1.out 0).trans rfl;have hfz7_0:=blk_frozen BK1.out 0;have hcz8_0 : w5.cell? ⟨gb2,0,none⟩ = some (.slice A1_0 l1_0.length c1_0):=(blk_cell BK2.out 0).trans rfl;have hfz8_0:=blk_frozen BK2.out 0) | ((with_reducible refine gate_callee (f:=46) rfl ?_);refine goesL_ (some 7) rfl rfl Try.func46 (by kernel_rfl) rfl #[.agg #[.slice A0_0 l0_0.length c0_0],.agg #[.slice A1_0 l1_0.length c1_0]] rfl lm_ ?_;(with_reducible refine (spec_validHeap.calls k _ _ l0_0 _ _ l1_0 t3 _ ?side1 ?side2 ?side3 ?side4 A3.out).mono ?_);(case side1=>exact cc_ (Kd.C_below HR0_0.out HB.out));(case side2=>exact HC0_0.out);(case side3=>exact cc_ (Kd.C_below HR1_0.out HB.out));(case side4=>exact HC1_0.out);rintro e w9 ⟨rfl,hb⟩;refine ⟨_,rfl,?_⟩;replace BK1:=kb_ BK1 hb;replace BK2:=kb_ BK2 hb;replace HB:=a0_ (below_step hb_ hb);(try clear hb);(try clear hb2);(try clear hk);(try clear hi)))
 go_ret
 exact ⟨by first | rfl | (simp [errW_none,errW_some] <;> rfl) | (simp [*,errW_none,errW_some] <;> rfl),hb_⟩
theorem spec_ValidHeap_ev (t : List Cls) (h : List Fau) (hs : smT t = true) (ht : t.length ≤ 9223372036854775807) (hl : h.length ≤ 2097152) : Ev (fun k=>spec_ValidHeap.f k t h) (vH t h) :=
 Ev.bind (spec_validHeap_ev t h hs ht hl) (Ev.const rfl)
end Go.Proofs.Ytmiholmfbjalfaa.P
namespace Go.Proofs.Ytmiholmfbjalfaa.P
open Go.RowKit Go.Proofs.YtmiholmfbjalfaaW.PrintWords Go.Proofs.YtmiholmfbjalfaaW.PrintLast Go.Proofs.YtmiholmfbjalfaaW.PrintMore
attribute [local go_sem] max2_int min2_int max_two min_two max_three min_three max_four min_four
set_option linter.unusedVariables false
set_option linter.unusedSimpArgs false
mutual
def laws_FnValidHeap.j0 : Nat → Bool → Bool → List (S87) → List (S43) → Option (Bool)
 | 0,_,_,_,_=>none
 | k + 1,x5,x27,x8000,x9000=>if x27 = true then ((spec_ValidHeap.f k x8000 x9000).bind fun t11=>(some (x5 == t11))) else (laws_FnValidHeap.l0 k 0 x8000 x9000)
def laws_FnValidHeap.l0 : Nat → Int → List (S87) → List (S43) → Option (Bool)
 | 0,_,_,_=>none
 | k + 1,x6,x8000,x9000=>if x6 < (x9000.length : Int) then ((impl_ContextChain.f x8000 x9000 x6).bind fun t12=>(if (t12.length : Int) = 0 then (some false) else (if 0 ≤ (wrap64 ((t12.length : Int) - 1)) then (if (wrap64 ((t12.length : Int) - 1)) < (t12.length : Int) then (if 0 ≤ (rd t12 (wrap64 ((t12.length : Int) - 1))) then (if (rd t12 (wrap64 ((t12.length : Int) - 1))) < (x9000.length : Int) then (if ((rd_T43 x9000 (rd t12 (wrap64 ((t12.length : Int) - 1)))).f3) = (-1) then (if 0 < (t12.length : Int) then (if (rd t12 0) = x6 then (laws_FnValidHeap.l0 k (wrap64 (x6 + 1)) x8000 x9000) else (some false)) else (none)) else (some false)) else (none)) else (none)) else (none)) else (none)))) else ((impl_ValidHeap.f x8000 ([] : List (S43))).bind fun t18=>(some t18))
end
def laws_FnValidHeap.f (k : Nat) (l0 : List Int) : Option (Bool):=if (l0.length : Int) > 1048576 then (some true) else ((spec_DrawValidHeap.f k l0).bind fun bt1=>((impl_ValidHeap.f bt1.1 bt1.2).bind fun t9=>((spec_ValidHeap.f k bt1.1 bt1.2).bind fun t10=>(if (t9 != t10) = true then (laws_FnValidHeap.j0 k t9 true bt1.1 bt1.2) else (laws_FnValidHeap.j0 k t9 (!t9) bt1.1 bt1.2)))))
theorem laws_FnValidHeap.mono_l : ∀ k,(∀ y0 y1 y2 y3,LeO (laws_FnValidHeap.j0 k y0 y1 y2 y3) (laws_FnValidHeap.j0 (k + 1) y0 y1 y2 y3)) ∧ (∀ y0 y1 y2,LeO (laws_FnValidHeap.l0 k y0 y1 y2) (laws_FnValidHeap.l0 (k + 1) y0 y1 y2))
 | 0=>⟨fun _ _ _ _ r h=>by simp [laws_FnValidHeap.j0] at h,fun _ _ _ r h=>by simp [laws_FnValidHeap.l0] at h⟩
 | k + 1=>by
  obtain ⟨ih0,ih1⟩:=laws_FnValidHeap.mono_l k
  refine ⟨?_,?_⟩
  ·intro y0 y1 y2 y3
   unfold laws_FnValidHeap.j0
   repeat' first
   | (with_reducible exact ih0 _ _ _ _)
   | (with_reducible exact ih1 _ _ _)
   | (with_reducible exact spec_DrawValidHeap.mono _ _)
   | (with_reducible exact spec_ValidHeap.mono _ _ _)
   | (with_reducible exact LeO.refl _)
   | (with_reducible exact LeO.none _)
   | (with_reducible refine LeO.ite ?_ ?_)
   | (with_reducible refine LeO.bind ?_ (fun _=>?_))
   | exact ih0 _ _ _ _
   | exact ih1 _ _ _
   | exact spec_DrawValidHeap.mono _ _
   | exact spec_ValidHeap.mono _ _ _
   | exact LeO.none _
   | refine LeO.ite ?_ ?_
   | refine LeO.bind ?_ (fun _=>?_)
  ·intro y0 y1 y2
   unfold laws_FnValidHeap.l0
   repeat' first
   | (with_reducible exact ih0 _ _ _ _)
   | (with_reducible exact ih1 _ _ _)
   | (with_reducible exact spec_DrawValidHeap.mono _ _)
   | (with_reducible exact spec_ValidHeap.mono _ _ _)
   | (with_reducible exact LeO.refl _)
   | (with_reducible exact LeO.none _)
   | (with_reducible refine LeO.ite ?_ ?_)
   | (with_reducible refine LeO.bind ?_ (fun _=>?_))
   | exact ih0 _ _ _ _
   | exact ih1 _ _ _
   | exact spec_DrawValidHeap.mono _ _
   | exact spec_ValidHeap.mono _ _ _
   | exact LeO.none _
   | refine LeO.ite ?_ ?_
   | refine LeO.bind ?_ (fun _=>?_)
theorem laws_FnValidHeap.mono : ∀ a0 k,LeO (laws_FnValidHeap.f k a0) (laws_FnValidHeap.f (k + 1) a0):=by
 intro a0 k
 obtain ⟨ih0,ih1⟩:=laws_FnValidHeap.mono_l k
 unfold laws_FnValidHeap.f
 repeat' first
   | (with_reducible exact ih0 _ _ _ _)
   | (with_reducible exact ih1 _ _ _)
   | (with_reducible exact spec_DrawValidHeap.mono _ _)
   | (with_reducible exact spec_ValidHeap.mono _ _ _)
   | (with_reducible exact LeO.refl _)
   | (with_reducible exact LeO.none _)
   | (with_reducible refine LeO.ite ?_ ?_)
   | (with_reducible refine LeO.bind ?_ (fun _=>?_))
   | exact ih0 _ _ _ _
   | exact ih1 _ _ _
   | exact spec_DrawValidHeap.mono _ _
   | exact spec_ValidHeap.mono _ _ _
   | exact LeO.none _
   | refine LeO.ite ?_ ?_
   | refine LeO.bind ?_ (fun _=>?_)
set_option maxHeartbeats 8000000 in
set_option maxRecDepth 100000 in
theorem laws_FnValidHeap.calls (k : Nat) (A0 : Option Addr) (c0 : Nat) (l0 : List Int) (r : Bool) (w : World) (hr0 : Kd.C (Kd.int .u8) w A0 l0.length l0) (hc0 : l0.length ≤ c0) (h : laws_FnValidHeap.f k l0 = some r) :
  Calls Try.prog 9 #[.slice A0 l0.length c0] w fun e w'=>e = .returned (.bool r) ∧ Below w.heap.size w w':=by
 have hu25:=Try.underlying25
 have hu28:=Try.underlying28
 have HR0:=a0_ hr0
 have HC0:=a0_ hc0
 clear hr0 hc0
 have HB:=a0_ (Below.refl w.heap.size w)
 have H : (if (l0.length : Int) > 1048576 then (some true) else ((spec_DrawValidHeap.f k l0).bind fun bt1=>((impl_ValidHeap.f bt1.1 bt1.2).bind fun t9=>((spec_ValidHeap.f k bt1.1 bt1.2).bind fun t10=>(if (t9 != t10) = true then (laws_FnValidHeap.j0 k t9 true bt1.1 bt1.2) else (laws_FnValidHeap.j0 k t9 (!t9) bt1.1 bt1.2)))))) = some r:=h
 clear h
 by_cases c2 : (l0.length : Int) > 1048576
 ·rw [if_pos c2] at H
  have c2b0 : decide (1048576 < (l0.length : Int)) = true:=decide_eq_true c2
  have c2b1 : decide (1048576 < l0.length) = true:=decide_eq_true (by omega)
  clear c2
  obtain rfl:=Option.some.inj H
  go_enter Try.func9,Try.ntmps9
  go_wp2
  repeat (go_quiet (fail);try go_wp2)
  go_ret
  exact ⟨by first | rfl | (simp [errW_none,errW_some] <;> rfl) | (simp [*,errW_none,errW_some] <;> rfl),hb_⟩
 ·rw [if_neg c2] at H
  have c2b0 : decide (1048576 < (l0.length : Int)) = false:=decide_eq_false c2
  have c2b1 : decide (1048576 < l0.length) = false:=decide_eq_false (by omega)
  clear c2
  replace H:=Option.bind_eq_some_iff.mp H
  obtain ⟨⟨t1,t4⟩,A30,H⟩:=H
  try dsimp only at H
  have A3:=a0_ A30
  clear A30
  replace H:=Option.bind_eq_some_iff.mp H
  obtain ⟨t9,A40,H⟩:=H
  try dsimp only at H
  have A4:=a0_ A40
  clear A40
  have HC5:=a0_ H
  clear H
  go_enter Try.func9,Try.ntmps9
  go_upto_region 5 with (first | (go_at_call 31;(with_reducible refine (spec_DrawValidHeap.calls k _ _ l0 t1 t4 _ ?side1 ?side2 A3.out).mono ?_);(case side1=>repeat (first | exact HR0.out | (with_reducible refine Kd.C_alloc ?_ _) | (with_reducible refine Kd.C_drewN ?_ _) | (with_reducible refine Kd.C_drew ?_)));(case side2=>exact HC0.out);rintro e w6 ⟨v2,v5,rfl,ho0,ho1,hb⟩;have HO3:=a0_ (Kd.R_lower ho0 (below_size hb_));have HO6:=a0_ (Kd.R_lower ho1 (below_size hb_));replace HB:=a0_ (below_step hb_ hb);(try clear hb);(try clear ho0);(try clear ho1)) | ((with_reducible refine gate_dst (N:=3) rfl ?_);(try (refine gate_guard (by rfl) ?_;dsimp only));refine box_event ?hg (N:=3) ?hd (cs:=#[.slice none 0 0]) (t:=25) ?hr ?_;(case hd=>rfl);(case hg=>rfl);(case hr=>first | (go_simp;done) | (go_simp;rfl));intro gb7 hg w7 hbox hb;replace HO3:=rb_ HO3 hb;replace HO6:=rb_ HO6 hb;have BK7:=a0_ (hbox);have GW7:=a0_ ((by rw [hg];exact (below_size hb_) : w.heap.size ≤ gb7));have GE7:=a0_ ((by rw [hg];exact (below_size hb_) : w.heap.size ≤ gb7));replace HB:=a0_ (below_step hb_ hb);clear hb hbox hg) | ((with_reducible refine gate_dst (N:=4) rfl ?_);(try (refine gate_guard (by rfl) ?_;dsimp only));refine box_event ?hg (N:=4) ?hd (cs:=#[.slice none 0 0]) (t:=28) ?hr ?_;(case hd=>rfl);(case hg=>rfl);(case hr=>first | (go_simp;done) | (go_simp;rfl));intro gb8 hg w8 hbox hb;have n0_:=rb_ HO3 hb;have n1_:=rb_ HO6 hb;have n2_:=kb_ BK7 hb;have n3_:=a0_ (below_step hb_ hb);have n4_:=a0_ (hbox);have n5_:=a0_ ((by rw [hg];exact (below_size hb_) : w.heap.size ≤ gb8));have n6_:=a0_ ((by rw [hg];exact (below_size hb_) : w.heap.size ≤ gb8));have n7_:=a0_ ((by rw [hg];exact Nat.ne_of_lt (blk_lt (bb_ BK7.out)) : gb7 ≠ gb8));have n8_:=a0_ ((by rw [hg];exact Nat.ne_of_gt (blk_lt (bb_ BK7.out)) : gb8 ≠ gb7));clear HO3 HO6;clear BK7 HB;have HO3:=n0_;have HO6:=n1_;have BK7:=n2_;have HB:=n3_;have BK8:=n4_;have GW8:=n5_;have GE8:=n6_;have NB7_8:=n7_;have NB8_7:=n8_;clear n0_ n1_ n2_ n3_ n4_ n5_ n6_ n7_ n8_;clear hb hbox hg;obtain ⟨Ao9,co9,eo9⟩:=Kd.R_slice HO3.out;subst eo9;have hnb10:=NB7_8.out;have hnc10:=NB8_7.out;have hcz11_0 : w8.cell? ⟨gb7,0,none⟩ = some (.slice none 0 0):=(blk_cell BK7.out 0).trans rfl;have hfz11_0:=blk_frozen BK7.out 0;obtain ⟨Ao12,co12,eo12⟩:=Kd.R_slice HO6.out;subst eo12;have hcz13_0 : w8.cell? ⟨gb8,0,none⟩ = some (.slice none 0 0):=(blk_cell BK8.out 0).trans rfl;have hfz13_0:=blk_frozen BK8.out 0) | (go_at_call 30;(with_reducible refine (impl_ValidHeap.calls _ _ t1 _ _ t4 t9 _ ?side1 ?side2 ?side3 ?side4 A4.out).mono ?_);(case side1=>refine (Kd.R_reads' (e:=87) (base:=w.heap.size) (ok:=fun k_=>True) (n:=t1.length) (c:=co9) ?_).2.2;exact (by (with_reducible repeat (first | apply Kd.R_alloc | apply Kd.R_drewN | apply Kd.R_drew));exact (Kd.R_mono (Kd.R_mono (Kd.R_far (p:=⟨gb8,0,none⟩) (Kd.R_far (p:=⟨gb7,0,none⟩) (Kd.R_types (Kd.R_types HO3.out BK7.out (by decide)) BK8.out (by decide)) (fun _ hk=>hk.1.2) (.slice Ao9 t1.length co9)) (fun _ hk=>hk.2) (.slice Ao12 t4.length co12)) (fun _ h_=>h_.1)) (fun _ h_=>h_.1))));(case side2=>exact (Kd.R_reads' HO3.out).2.1);(case side3=>refine (Kd.R_reads' (e:=43) (base:=w.heap.size) (ok:=fun k_=>True) (n:=t4.length) (c:=co12) ?_).2.2;exact (by (with_reducible repeat (first | apply Kd.R_alloc | apply Kd.R_drewN | apply Kd.R_drew));exact (Kd.R_mono (Kd.R_mono (Kd.R_far (p:=⟨gb8,0,none⟩) (Kd.R_far (p:=⟨gb7,0,none⟩) (Kd.R_types (Kd.R_types HO6.out BK7.out (by decide)) BK8.out (by decide)) (fun _ hk=>hk.1.2) (.slice Ao9 t1.length co9)) (fun _ hk=>hk.2) (.slice Ao12 t4.length co12)) (fun _ h_=>h_.1)) (fun _ h_=>h_.1))));(case side4=>exact (Kd.R_reads' HO6.out).2.1);rintro e w14 ⟨rfl,hb⟩;replace HO3:=a0_ (Kd.R_below (by (with_reducible repeat (first | apply Kd.R_alloc | apply Kd.R_drewN | apply Kd.R_drew));exact (Kd.R_mono (Kd.R_mono (Kd.R_far (p:=⟨gb8,0,none⟩) (Kd.R_far (p:=⟨gb7,0,none⟩) (Kd.R_types (Kd.R_types HO3.out BK7.out (by decide)) BK8.out (by decide)) (fun _ hk=>hk.1.2) (.slice Ao9 t1.length co9)) (fun _ hk=>hk.2) (.slice Ao12 t4.length co12)) (fun _ h_=>h_.1)) (fun _ h_=>h_.1))) hb);replace HO6:=a0_ (Kd.R_below (by (with_reducible repeat (first | apply Kd.R_alloc | apply Kd.R_drewN | apply Kd.R_drew));exact (Kd.R_mono (Kd.R_mono (Kd.R_far (p:=⟨gb8,0,none⟩) (Kd.R_far (p:=⟨gb7,0,none⟩) (Kd.R_types (Kd.R_types HO6.out BK7.out (by decide)) BK8.out (by decide)) (fun _ hk=>hk.1.2) (.slice Ao9 t1.length co9)) (fun _ hk=>hk.2) (.slice Ao12 t4.length co12)) (fun _ h_=>h_.1)) (fun _ h_=>h_.1))) hb);replace BK7:=a0_ (blk_below (g:=gb7) (o:=.cells #[.slice Ao9 t1.length co9] 25 (0,0)) (by (with_reducible repeat (first | refine blk_drewN ?_ _ | refine blk_drew ?_ | refine blk_alloc ?_ _));refine blk_far ?_ NB7_8.out _;(with_reducible repeat (first | refine blk_drewN ?_ _ | refine blk_drew ?_ | refine blk_alloc ?_ _));refine blk_put (cs:=#[.slice none 0 0]) ?_ 0 _ rfl;(with_reducible repeat (first | refine blk_drewN ?_ _ | refine blk_drew ?_ | refine blk_alloc ?_ _));exact BK7.out) hb);replace BK8:=a0_ (blk_below (g:=gb8) (o:=.cells #[.slice Ao12 t4.length co12] 28 (0,0)) (by (with_reducible repeat (first | refine blk_drewN ?_ _ | refine blk_drew ?_ | refine blk_alloc ?_ _));refine blk_put (cs:=#[.slice none 0 0]) ?_ 0 _ rfl;(with_reducible repeat (first | refine blk_drewN ?_ _ | refine blk_drew ?_ | refine blk_alloc ?_ _));refine blk_far ?_ NB8_7.out _;(with_reducible repeat (first | refine blk_drewN ?_ _ | refine blk_drew ?_ | refine blk_alloc ?_ _));exact BK8.out) hb);replace HB:=a0_ (below_step hb_ hb);(try clear hb);(try clear hb2);(try clear hk);(try clear hi)))
  repeat (go_quiet (first | (go_at_call 31;(with_reducible refine (spec_DrawValidHeap.calls k _ _ l0 t1 t4 _ ?side1 ?side2 A3.out).mono ?_);(case side1=>repeat (first | exact HR0.out | (with_reducible refine Kd.C_alloc ?_ _) | (with_reducible refine Kd.C_drewN ?_ _) | (with_reducible refine Kd.C_drew ?_)));(case side2=>exact HC0.out);rintro e w6 ⟨v2,v5,rfl,ho0,ho1,hb⟩;have HO3:=a0_ (Kd.R_lower ho0 (below_size hb_));have HO6:=a0_ (Kd.R_lower ho1 (below_size hb_));replace HB:=a0_ (below_step hb_ hb);(try clear hb);(try clear ho0);(try clear ho1)) | ((with_reducible refine gate_dst (N:=3) rfl ?_);(try (refine gate_guard (by rfl) ?_;dsimp only));refine box_event ?hg (N:=3) ?hd (cs:=#[.slice none 0 0]) (t:=25) ?hr ?_;(case hd=>rfl);(case hg=>rfl);(case hr=>first | (go_simp;done) | (go_simp;rfl));intro gb7 hg w7 hbox hb;replace HO3:=rb_ HO3 hb;replace HO6:=rb_ HO6 hb;have BK7:=a0_ (hbox);have GW7:=a0_ ((by rw [hg];exact (below_size hb_) : w.heap.size ≤ gb7));have GE7:=a0_ ((by rw [hg];exact (below_size hb_) : w.heap.size ≤ gb7));replace HB:=a0_ (below_step hb_ hb);clear hb hbox hg) | ((with_reducible refine gate_dst (N:=4) rfl ?_);(try (refine gate_guard (by rfl) ?_;dsimp only));refine box_event ?hg (N:=4) ?hd (cs:=#[.slice none 0 0]) (t:=28) ?hr ?_;(case hd=>rfl);(case hg=>rfl);(case hr=>first | (go_simp;done) | (go_simp;rfl));intro gb8 hg w8 hbox hb;have n0_:=rb_ HO3 hb;have n1_:=rb_ HO6 hb;have n2_:=kb_ BK7 hb;have n3_:=a0_ (below_step hb_ hb);have n4_:=a0_ (hbox);have n5_:=a0_ ((by rw [hg];exact (below_size hb_) : w.heap.size ≤ gb8));have n6_:=a0_ ((by rw [hg];exact (below_size hb_) : w.heap.size ≤ gb8));have n7_:=a0_ ((by rw [hg];exact Nat.ne_of_lt (blk_lt (bb_ BK7.out)) : gb7 ≠ gb8));have n8_:=a0_ ((by rw [hg];exact Nat.ne_of_gt (blk_lt (bb_ BK7.out)) : gb8 ≠ gb7));clear HO3 HO6;clear BK7 HB;have HO3:=n0_;have HO6:=n1_;have BK7:=n2_;have HB:=n3_;have BK8:=n4_;have GW8:=n5_;have GE8:=n6_;have NB7_8:=n7_;have NB8_7:=n8_;clear n0_ n1_ n2_ n3_ n4_ n5_ n6_ n7_ n8_;clear hb hbox hg;obtain ⟨Ao9,co9,eo9⟩:=Kd.R_slice HO3.out;subst eo9;have hnb10:=NB7_8.out;have hnc10:=NB8_7.out;have hcz11_0 : w8.cell? ⟨gb7,0,none⟩ = some (.slice none 0 0):=(blk_cell BK7.out 0).trans rfl;have hfz11_0:=blk_frozen BK7.out 0;obtain ⟨Ao12,co12,eo12⟩:=Kd.R_slice HO6.out;subst eo12;have hcz13_0 : w8.cell? ⟨gb8,0,none⟩ = some (.slice none 0 0):=(blk_cell BK8.out 0).trans rfl;have hfz13_0:=blk_frozen BK8.out 0) | (go_at_call 30;(with_reducible refine (impl_ValidHeap.calls _ _ t1 _ _ t4 t9 _ ?side1 ?side2 ?side3 ?side4 A4.out).mono ?_);(case side1=>refine (Kd.R_reads' (e:=87) (base:=w.heap.size) (ok:=fun k_=>True) (n:=t1.length) (c:=co9) ?_).2.2;exact (by (with_reducible repeat (first | apply Kd.R_alloc | apply Kd.R_drewN | apply Kd.R_drew));exact (Kd.R_mono (Kd.R_mono (Kd.R_far (p:=⟨gb8,0,none⟩) (Kd.R_far (p:=⟨gb7,0,none⟩) (Kd.R_types (Kd.R_types HO3.out BK7.out (by decide)) BK8.out (by decide)) (fun _ hk=>hk.1.2) (.slice Ao9 t1.length co9)) (fun _ hk=>hk.2) (.slice Ao12 t4.length co12)) (fun _ h_=>h_.1)) (fun _ h_=>h_.1))));(case side2=>exact (Kd.R_reads' HO3.out).2.1);(case side3=>refine (Kd.R_reads' (e:=43) (base:=w.heap.size) (ok:=fun k_=>True) (n:=t4.length) (c:=co12) ?_).2.2;exact (by (with_reducible repeat (first | apply Kd.R_alloc | apply Kd.R_drewN | apply Kd.R_drew));exact (Kd.R_mono (Kd.R_mono (Kd.R_far (p:=⟨gb8,0,none⟩) (Kd.R_far (p:=⟨gb7,0,none⟩) (Kd.R_types (Kd.R_types HO6.out BK7.out (by decide)) BK8.out (by decide)) (fun _ hk=>hk.1.2) (.slice Ao9 t1.length co9)) (fun _ hk=>hk.2) (.slice Ao12 t4.length co12)) (fun _ h_=>h_.1)) (fun _ h_=>h_.1))));(case side4=>exact (Kd.R_reads' HO6.out).2.1);rintro e w14 ⟨rfl,hb⟩;replace HO3:=a0_ (Kd.R_below (by (with_reducible repeat (first | apply Kd.R_alloc | apply Kd.R_drewN | apply Kd.R_drew));exact (Kd.R_mono (Kd.R_mono (Kd.R_far (p:=⟨gb8,0,none⟩) (Kd.R_far (p:=⟨gb7,0,none⟩) (Kd.R_types (Kd.R_types HO3.out BK7.out (by decide)) BK8.out (by decide)) (fun _ hk=>hk.1.2) (.slice Ao9 t1.length co9)) (fun _ hk=>hk.2) (.slice Ao12 t4.length co12)) (fun _ h_=>h_.1)) (fun _ h_=>h_.1))) hb);replace HO6:=a0_ (Kd.R_below (by (with_reducible repeat (first | apply Kd.R_alloc | apply Kd.R_drewN | apply Kd.R_drew));exact (Kd.R_mono (Kd.R_mono (Kd.R_far (p:=⟨gb8,0,none⟩) (Kd.R_far (p:=⟨gb7,0,none⟩) (Kd.R_types (Kd.R_types HO6.out BK7.out (by decide)) BK8.out (by decide)) (fun _ hk=>hk.1.2) (.slice Ao9 t1.length co9)) (fun _ hk=>hk.2) (.slice Ao12 t4.length co12)) (fun _ h_=>h_.1)) (fun _ h_=>h_.1))) hb);replace BK7:=a0_ (blk_below (g:=gb7) (o:=.cells #[.slice Ao9 t1.length co9] 25 (0,0)) (by (with_reducible repeat (first | refine blk_drewN ?_ _ | refine blk_drew ?_ | refine blk_alloc ?_ _));refine blk_far ?_ NB7_8.out _;(with_reducible repeat (first | refine blk_drewN ?_ _ | refine blk_drew ?_ | refine blk_alloc ?_ _));refine blk_put (cs:=#[.slice none 0 0]) ?_ 0 _ rfl;(with_reducible repeat (first | refine blk_drewN ?_ _ | refine blk_drew ?_ | refine blk_alloc ?_ _));exact BK7.out) hb);replace BK8:=a0_ (blk_below (g:=gb8) (o:=.cells #[.slice Ao12 t4.length co12] 28 (0,0)) (by (with_reducible repeat (first | refine blk_drewN ?_ _ | refine blk_drew ?_ | refine blk_alloc ?_ _));refine blk_put (cs:=#[.slice none 0 0]) ?_ 0 _ rfl;(with_reducible repeat (first | refine blk_drewN ?_ _ | refine blk_drew ?_ | refine blk_alloc ?_ _));refine blk_far ?_ NB8_7.out _;(with_reducible repeat (first | refine blk_drewN ?_ _ | refine blk_drew ?_ | refine blk_alloc ?_ _));exact BK8.out) hb);replace HB:=a0_ (below_step hb_ hb);(try clear hb);(try clear hb2);(try clear hk);(try clear hi)));go_upto_region 5 with (first | (go_at_call 31;(with_reducible refine (spec_DrawValidHeap.calls k _ _ l0 t1 t4 _ ?side1 ?side2 A3.out).mono ?_);(case side1=>repeat (first | exact HR0.out | (with_reducible refine Kd.C_alloc ?_ _) | (with_reducible refine Kd.C_drewN ?_ _) | (with_reducible refine Kd.C_drew ?_)));(case side2=>exact HC0.out);rintro e w6 ⟨v2,v5,rfl,ho0,ho1,hb⟩;have HO3:=a0_ (Kd.R_lower ho0 (below_size hb_));have HO6:=a0_ (Kd.R_lower ho1 (below_size hb_));replace HB:=a0_ (below_step hb_ hb);(try clear hb);(try clear ho0);(try clear ho1)) | ((with_reducible refine gate_dst (N:=3) rfl ?_);(try (refine gate_guard (by rfl) ?_;dsimp only));refine box_event ?hg (N:=3) ?hd (cs:=#[.slice none 0 0]) (t:=25) ?hr ?_;(case hd=>rfl);(case hg=>rfl);(case hr=>first | (go_simp;done) | (go_simp;rfl));intro gb7 hg w7 hbox hb;replace HO3:=rb_ HO3 hb;replace HO6:=rb_ HO6 hb;have BK7:=a0_ (hbox);have GW7:=a0_ ((by rw [hg];exact (below_size hb_) : w.heap.size ≤ gb7));have GE7:=a0_ ((by rw [hg];exact (below_size hb_) : w.heap.size ≤ gb7));replace HB:=a0_ (below_step hb_ hb);clear hb hbox hg) | ((with_reducible refine gate_dst (N:=4) rfl ?_);(try (refine gate_guard (by rfl) ?_;dsimp only));refine box_event ?hg (N:=4) ?hd (cs:=#[.slice none 0 0]) (t:=28) ?hr ?_;(case hd=>rfl);(case hg=>rfl);(case hr=>first | (go_simp;done) | (go_simp;rfl));intro gb8 hg w8 hbox hb;have n0_:=rb_ HO3 hb;have n1_:=rb_ HO6 hb;have n2_:=kb_ BK7 hb;have n3_:=a0_ (below_step hb_ hb);have n4_:=a0_ (hbox);have n5_:=a0_ ((by rw [hg];exact (below_size hb_) : w.heap.size ≤ gb8));have n6_:=a0_ ((by rw [hg];exact (below_size hb_) : w.heap.size ≤ gb8));have n7_:=a0_ ((by rw [hg];exact Nat.ne_of_lt (blk_lt (bb_ BK7.out)) : gb7 ≠ gb8));have n8_:=a0_ ((by rw [hg];exact Nat.ne_of_gt (blk_lt (bb_ BK7.out)) : gb8 ≠ gb7));clear HO3 HO6;clear BK7 HB;have HO3:=n0_;have HO6:=n1_;have BK7:=n2_;have HB:=n3_;have BK8:=n4_;have GW8:=n5_;have GE8:=n6_;have NB7_8:=n7_;have NB8_7:=n8_;clear n0_ n1_ n2_ n3_ n4_ n5_ n6_ n7_ n8_;clear hb hbox hg;obtain ⟨Ao9,co9,eo9⟩:=Kd.R_slice HO3.out;subst eo9;have hnb10:=NB7_8.out;have hnc10:=NB8_7.out;have hcz11_0 : w8.cell? ⟨gb7,0,none⟩ = some (.slice none 0 0):=(blk_cell BK7.out 0).trans rfl;have hfz11_0:=blk_frozen BK7.out 0;obtain ⟨Ao12,co12,eo12⟩:=Kd.R_slice HO6.out;subst eo12;have hcz13_0 : w8.cell? ⟨gb8,0,none⟩ = some (.slice none 0 0):=(blk_cell BK8.out 0).trans rfl;have hfz13_0:=blk_frozen BK8.out 0) | (go_at_call 30;(with_reducible refine (impl_ValidHeap.calls _ _ t1 _ _ t4 t9 _ ?side1 ?side2 ?side3 ?side4 A4.out).mono ?_);(case side1=>refine (Kd.R_reads' (e:=87) (base:=w.heap.size) (ok:=fun k_=>True) (n:=t1.length) (c:=co9) ?_).2.2;exact (by (with_reducible repeat (first | apply Kd.R_alloc | apply Kd.R_drewN | apply Kd.R_drew));exact (Kd.R_mono (Kd.R_mono (Kd.R_far (p:=⟨gb8,0,none⟩) (Kd.R_far (p:=⟨gb7,0,none⟩) (Kd.R_types (Kd.R_types HO3.out BK7.out (by decide)) BK8.out (by decide)) (fun _ hk=>hk.1.2) (.slice Ao9 t1.length co9)) (fun _ hk=>hk.2) (.slice Ao12 t4.length co12)) (fun _ h_=>h_.1)) (fun _ h_=>h_.1))));(case side2=>exact (Kd.R_reads' HO3.out).2.1);(case side3=>refine (Kd.R_reads' (e:=43) (base:=w.heap.size) (ok:=fun k_=>True) (n:=t4.length) (c:=co12) ?_).2.2;exact (by (with_reducible repeat (first | apply Kd.R_alloc | apply Kd.R_drewN | apply Kd.R_drew));exact (Kd.R_mono (Kd.R_mono (Kd.R_far (p:=⟨gb8,0,none⟩) (Kd.R_far (p:=⟨gb7,0,none⟩) (Kd.R_types (Kd.R_types HO6.out BK7.out (by decide)) BK8.out (by decide)) (fun _ hk=>hk.1.2) (.slice Ao9 t1.length co9)) (fun _ hk=>hk.2) (.slice Ao12 t4.length co12)) (fun _ h_=>h_.1)) (fun _ h_=>h_.1))));(case side4=>exact (Kd.R_reads' HO6.out).2.1);rintro e w14 ⟨rfl,hb⟩;replace HO3:=a0_ (Kd.R_below (by (with_reducible repeat (first | apply Kd.R_alloc | apply Kd.R_drewN | apply Kd.R_drew));exact (Kd.R_mono (Kd.R_mono (Kd.R_far (p:=⟨gb8,0,none⟩) (Kd.R_far (p:=⟨gb7,0,none⟩) (Kd.R_types (Kd.R_types HO3.out BK7.out (by decide)) BK8.out (by decide)) (fun _ hk=>hk.1.2) (.slice Ao9 t1.length co9)) (fun _ hk=>hk.2) (.slice Ao12 t4.length co12)) (fun _ h_=>h_.1)) (fun _ h_=>h_.1))) hb);replace HO6:=a0_ (Kd.R_below (by (with_reducible repeat (first | apply Kd.R_alloc | apply Kd.R_drewN | apply Kd.R_drew));exact (Kd.R_mono (Kd.R_mono (Kd.R_far (p:=⟨gb8,0,none⟩) (Kd.R_far (p:=⟨gb7,0,none⟩) (Kd.R_types (Kd.R_types HO6.out BK7.out (by decide)) BK8.out (by decide)) (fun _ hk=>hk.1.2) (.slice Ao9 t1.length co9)) (fun _ hk=>hk.2) (.slice Ao12 t4.length co12)) (fun _ h_=>h_.1)) (fun _ h_=>h_.1))) hb);replace BK7:=a0_ (blk_below (g:=gb7) (o:=.cells #[.slice Ao9 t1.length co9] 25 (0,0)) (by (with_reducible repeat (first | refine blk_drewN ?_ _ | refine blk_drew ?_ | refine blk_alloc ?_ _));refine blk_far ?_ NB7_8.out _;(with_reducible repeat (first | refine blk_drewN ?_ _ | refine blk_drew ?_ | refine blk_alloc ?_ _));refine blk_put (cs:=#[.slice none 0 0]) ?_ 0 _ rfl;(with_reducible repeat (first | refine blk_drewN ?_ _ | refine blk_drew ?_ | refine blk_alloc ?_ _));exact BK7.out) hb);replace BK8:=a0_ (blk_below (g:=gb8) (o:=.cells #[.slice Ao12 t4.length co12] 28 (0,0)) (by (with_reducible repeat (first | refine blk_drewN ?_ _ | refine blk_drew ?_ | refine blk_alloc ?_ _));refine blk_put (cs:=#[.slice none 0 0]) ?_ 0 _ rfl;(with_reducible repeat (first | refine blk_drewN ?_ _ | refine blk_drew ?_ | refine blk_alloc ?_ _));refine blk_far ?_ NB8_7.out _;(with_reducible repeat (first | refine blk_drewN ?_ _ | refine blk_drew ?_ | refine blk_alloc ?_ _));exact BK8.out) hb);replace HB:=a0_ (below_step hb_ hb);(try clear hb);(try clear hb2);(try clear hk);(try clear hi))))
  (try simp only [Act.put,s1_,s2_,s3_])
  go_cut [27] (fun v27 wc=>∃ (kq : Nat) (x27_4 : Bool),v27 = .bool x27_4 ∧ Aside0 (laws_FnValidHeap.j0 kq t9 x27_4 t1 t4 = some r) ∧ Aside0 (kq ≤ k) ∧ Aside0 (Kd.R k87 87 wc w.heap.size (fun _=>True) (.slice Ao9 t1.length co9) t1) ∧ Aside0 (Kd.R k43 43 wc w.heap.size (fun _=>True) (.slice Ao12 t4.length co12) t4) ∧ Aside0 (wc.heap[gb7]? = some (.cells #[(.slice Ao9 t1.length co9)] 25 (0,0))) ∧ Aside0 (wc.heap[gb8]? = some (.cells #[(.slice Ao12 t4.length co12)] 28 (0,0))) ∧ Aside0 (Below w.heap.size w wc))
  case first =>
   have H:=HC5.out
   clear HC5
   replace H:=Option.bind_eq_some_iff.mp H
   obtain ⟨t10,A150,H⟩:=H
   try dsimp only at H
   have A15:=a0_ A150
   clear A150
   by_cases c16 : (t9 != t10) = true
   ·rw [if_pos c16] at H
    have c16b0 : (t9 != t10) = true:=c16
    (try (have c16b1 : decide (t9 = t10) = false:=by simpa using c16))
    (try (have c16b2 : (t9 == t10) = false:=by simpa using c16))
    (try (have c16b3 : ¬ (t9 = t10):=by simpa using c16))
    clear c16
    (first | rw [c16b0] | (simp only [i64_w,i32_w];rw [c16b0]) | skip)
    have H':=a0_ H
    clear H
    have hnb17:=NB7_8.out
    have hnc17:=NB8_7.out
    have hcz18_0 : w14.cell? ⟨gb7,0,none⟩ = some (.slice Ao9 t1.length co9):=(blk_cell BK7.out 0).trans rfl
    have hfz18_0:=blk_frozen BK7.out 0
    have hcz19_0 : w14.cell? ⟨gb8,0,none⟩ = some (.slice Ao12 t4.length co12):=(blk_cell BK8.out 0).trans rfl
    have hfz19_0:=blk_frozen BK8.out 0
    go_wp2_with (first | (go_at_call 32;(with_reducible refine (spec_ValidHeap.calls k _ _ t1 _ _ t4 t10 _ ?side1 ?side2 ?side3 ?side4 A15.out).mono ?_);(case side1=>exact cc_ (Kd.R_reads' HO3.out).2.2);(case side2=>exact (Kd.R_reads' HO3.out).2.1);(case side3=>exact cc_ (Kd.R_reads' HO6.out).2.2);(case side4=>exact (Kd.R_reads' HO6.out).2.1);rintro e w20 ⟨rfl,hb⟩;replace HO3:=rb_ HO3 hb;replace HO6:=rb_ HO6 hb;replace BK7:=kb_ BK7 hb;replace BK8:=kb_ BK8 hb;replace HB:=a0_ (below_step hb_ hb);(try clear hb);(try clear hb2);(try clear hk);(try clear hi)))
    repeat (go_quiet (first | (go_at_call 32;(with_reducible refine (spec_ValidHeap.calls k _ _ t1 _ _ t4 t10 _ ?side1 ?side2 ?side3 ?side4 A15.out).mono ?_);(case side1=>exact cc_ (Kd.R_reads' HO3.out).2.2);(case side2=>exact (Kd.R_reads' HO3.out).2.1);(case side3=>exact cc_ (Kd.R_reads' HO6.out).2.2);(case side4=>exact (Kd.R_reads' HO6.out).2.1);rintro e w20 ⟨rfl,hb⟩;replace HO3:=rb_ HO3 hb;replace HO6:=rb_ HO6 hb;replace BK7:=kb_ BK7 hb;replace BK8:=kb_ BK8 hb;replace HB:=a0_ (below_step hb_ hb);(try clear hb);(try clear hb2);(try clear hk);(try clear hi)));try go_wp2_with (first | (go_at_call 32;(with_reducible refine (spec_ValidHeap.calls k _ _ t1 _ _ t4 t10 _ ?side1 ?side2 ?side3 ?side4 A15.out).mono ?_);(case side1=>exact cc_ (Kd.R_reads' HO3.out).2.2);(case side2=>exact (Kd.R_reads' HO3.out).2.1);(case side3=>exact cc_ (Kd.R_reads' HO6.out).2.2);(case side4=>exact (Kd.R_reads' HO6.out).2.1);rintro e w20 ⟨rfl,hb⟩;replace HO3:=rb_ HO3 hb;replace HO6:=rb_ HO6 hb;replace BK7:=kb_ BK7 hb;replace BK8:=kb_ BK8 hb;replace HB:=a0_ (below_step hb_ hb);(try clear hb);(try clear hb2);(try clear hk);(try clear hi))))
    go_meet
    case rel=>exact ⟨_,(true),(by first | rfl | (simp;done) | (simp [*];done)),H',⟨by first | omega | exact Nat.le_refl _⟩,⟨by (with_reducible repeat (first | apply Kd.R_alloc | apply Kd.R_drewN | apply Kd.R_drew));exact HO3.out⟩,⟨by (with_reducible repeat (first | apply Kd.R_alloc | apply Kd.R_drewN | apply Kd.R_drew));exact HO6.out⟩,⟨by (with_reducible repeat (first | refine blk_drewN ?_ _ | refine blk_drew ?_ | refine blk_alloc ?_ _));exact BK7.out⟩,⟨by (with_reducible repeat (first | refine blk_drewN ?_ _ | refine blk_drew ?_ | refine blk_alloc ?_ _));exact BK8.out⟩,⟨hb_⟩⟩
   ·rw [if_neg c16] at H
    have c16b0 : (t9 != t10) = false:=by simpa using c16
    (try (have c16b1 : decide (t9 = t10) = true:=by simpa using c16))
    (try (have c16b2 : (t9 == t10) = true:=by simpa using c16))
    clear c16
    (first | rw [c16b0] | (simp only [i64_w,i32_w];rw [c16b0]) | skip)
    have H':=a0_ H
    clear H
    have hnb21:=NB7_8.out
    have hnc21:=NB8_7.out
    have hcz22_0 : w14.cell? ⟨gb7,0,none⟩ = some (.slice Ao9 t1.length co9):=(blk_cell BK7.out 0).trans rfl
    have hfz22_0:=blk_frozen BK7.out 0
    have hcz23_0 : w14.cell? ⟨gb8,0,none⟩ = some (.slice Ao12 t4.length co12):=(blk_cell BK8.out 0).trans rfl
    have hfz23_0:=blk_frozen BK8.out 0
    go_wp2_with (first | (go_at_call 32;(with_reducible refine (spec_ValidHeap.calls k _ _ t1 _ _ t4 t10 _ ?side1 ?side2 ?side3 ?side4 A15.out).mono ?_);(case side1=>exact cc_ (Kd.R_reads' HO3.out).2.2);(case side2=>exact (Kd.R_reads' HO3.out).2.1);(case side3=>exact cc_ (Kd.R_reads' HO6.out).2.2);(case side4=>exact (Kd.R_reads' HO6.out).2.1);rintro e w24 ⟨rfl,hb⟩;replace HO3:=rb_ HO3 hb;replace HO6:=rb_ HO6 hb;replace BK7:=kb_ BK7 hb;replace BK8:=kb_ BK8 hb;replace HB:=a0_ (below_step hb_ hb);(try clear hb);(try clear hb2);(try clear hk);(try clear hi)))
    repeat (go_quiet (first | (go_at_call 32;(with_reducible refine (spec_ValidHeap.calls k _ _ t1 _ _ t4 t10 _ ?side1 ?side2 ?side3 ?side4 A15.out).mono ?_);(case side1=>exact cc_ (Kd.R_reads' HO3.out).2.2);(case side2=>exact (Kd.R_reads' HO3.out).2.1);(case side3=>exact cc_ (Kd.R_reads' HO6.out).2.2);(case side4=>exact (Kd.R_reads' HO6.out).2.1);rintro e w24 ⟨rfl,hb⟩;replace HO3:=rb_ HO3 hb;replace HO6:=rb_ HO6 hb;replace BK7:=kb_ BK7 hb;replace BK8:=kb_ BK8 hb;replace HB:=a0_ (below_step hb_ hb);(try clear hb);(try clear hb2);(try clear hk);(try clear hi)));try go_wp2_with (first | (go_at_call 32;(with_reducible refine (spec_ValidHeap.calls k _ _ t1 _ _ t4 t10 _ ?side1 ?side2 ?side3 ?side4 A15.out).mono ?_);(case side1=>exact cc_ (Kd.R_reads' HO3.out).2.2);(case side2=>exact (Kd.R_reads' HO3.out).2.1);(case side3=>exact cc_ (Kd.R_reads' HO6.out).2.2);(case side4=>exact (Kd.R_reads' HO6.out).2.1);rintro e w24 ⟨rfl,hb⟩;replace HO3:=rb_ HO3 hb;replace HO6:=rb_ HO6 hb;replace BK7:=kb_ BK7 hb;replace BK8:=kb_ BK8 hb;replace HB:=a0_ (below_step hb_ hb);(try clear hb);(try clear hb2);(try clear hk);(try clear hi))))
    go_meet
    case rel=>exact ⟨_,(!t9),(by first | rfl | (simp;done) | (simp [*];done)),H',⟨by first | omega | exact Nat.le_refl _⟩,⟨by (with_reducible repeat (first | apply Kd.R_alloc | apply Kd.R_drewN | apply Kd.R_drew));exact HO3.out⟩,⟨by (with_reducible repeat (first | apply Kd.R_alloc | apply Kd.R_drewN | apply Kd.R_drew));exact HO6.out⟩,⟨by (with_reducible repeat (first | refine blk_drewN ?_ _ | refine blk_drew ?_ | refine blk_alloc ?_ _));exact BK7.out⟩,⟨by (with_reducible repeat (first | refine blk_drewN ?_ _ | refine blk_drew ?_ | refine blk_alloc ?_ _));exact BK8.out⟩,⟨hb_⟩⟩
  case rest =>
   clear HC5
   try clear c1
   try clear c2
   try clear c2b0
   try clear c2b1
   try clear p2
   try clear c9
   try clear c10
   try clear c16
   try clear c16b0
   try clear c16b1
   try clear c16b2
   try clear c17
   try clear c21
   try clear hcz11_0
   try clear hcz13_0
   try clear hcz18_0
   try clear hcz19_0
   try clear hcz22_0
   try clear hcz23_0
   try clear hfz11_0
   try clear hfz13_0
   try clear hfz18_0
   try clear hfz19_0
   try clear hfz22_0
   try clear hfz23_0
   obtain ⟨kq,x27_4,rfl,HA,HJ4,Z8,Z9,BK7,BK8,HB⟩:=hcut
   cases kq with
   | zero=>exact absurd HA.out (by simp [laws_FnValidHeap.j0])
   | succ kj4 =>
    have H:=HA.out
    clear HA
    simp only [laws_FnValidHeap.j0] at H
    by_cases c25 : x27_4 = true
    ·subst c25
     have H1 : ((spec_ValidHeap.f kj4 t1 t4).bind fun t11=>(some (t9 == t11))) = some r:=by rw [if_pos rfl] at H;exact H
     clear H
     have H:=H1
     clear H1
     replace H:=Option.bind_eq_some_iff.mp H
     obtain ⟨t11,A260,H⟩:=H
     replace H : (some (t9 == t11)) = some r:=H
     have A26:=a0_ A260
     clear A260
     obtain rfl:=Option.some.inj H
     have hnb27:=NB7_8.out
     have hnc27:=NB8_7.out
     have hcz28_0 : wc.cell? ⟨gb7,0,none⟩ = some (.slice Ao9 t1.length co9):=(blk_cell BK7.out 0).trans rfl
     have hfz28_0:=blk_frozen BK7.out 0
     have hcz29_0 : wc.cell? ⟨gb8,0,none⟩ = some (.slice Ao12 t4.length co12):=(blk_cell BK8.out 0).trans rfl
     have hfz29_0:=blk_frozen BK8.out 0
     go_wp2_with (first | (go_at_call 32;(with_reducible refine (spec_ValidHeap.calls kj4 _ _ t1 _ _ t4 t11 _ ?side1 ?side2 ?side3 ?side4 A26.out).mono ?_);(case side1=>exact cc_ (Kd.R_reads' Z8.out).2.2);(case side2=>exact (Kd.R_reads' Z8.out).2.1);(case side3=>exact cc_ (Kd.R_reads' Z9.out).2.2);(case side4=>exact (Kd.R_reads' Z9.out).2.1);rintro e w30 ⟨rfl,hb⟩;replace Z8:=rb_ Z8 hb;replace Z9:=rb_ Z9 hb;replace BK7:=kb_ BK7 hb;replace BK8:=kb_ BK8 hb;replace HB:=a0_ (below_step hb_ hb);(try clear hb);(try clear hb2);(try clear hk);(try clear hi)))
     repeat (go_quiet (first | (go_at_call 32;(with_reducible refine (spec_ValidHeap.calls kj4 _ _ t1 _ _ t4 t11 _ ?side1 ?side2 ?side3 ?side4 A26.out).mono ?_);(case side1=>exact cc_ (Kd.R_reads' Z8.out).2.2);(case side2=>exact (Kd.R_reads' Z8.out).2.1);(case side3=>exact cc_ (Kd.R_reads' Z9.out).2.2);(case side4=>exact (Kd.R_reads' Z9.out).2.1);rintro e w30 ⟨rfl,hb⟩;replace Z8:=rb_ Z8 hb;replace Z9:=rb_ Z9 hb;replace BK7:=kb_ BK7 hb;replace BK8:=kb_ BK8 hb;replace HB:=a0_ (below_step hb_ hb);(try clear hb);(try clear hb2);(try clear hk);(try clear hi)));try go_wp2_with (first | (go_at_call 32;(with_reducible refine (spec_ValidHeap.calls kj4 _ _ t1 _ _ t4 t11 _ ?side1 ?side2 ?side3 ?side4 A26.out).mono ?_);(case side1=>exact cc_ (Kd.R_reads' Z8.out).2.2);(case side2=>exact (Kd.R_reads' Z8.out).2.1);(case side3=>exact cc_ (Kd.R_reads' Z9.out).2.2);(case side4=>exact (Kd.R_reads' Z9.out).2.1);rintro e w30 ⟨rfl,hb⟩;replace Z8:=rb_ Z8 hb;replace Z9:=rb_ Z9 hb;replace BK7:=kb_ BK7 hb;replace BK8:=kb_ BK8 hb;replace HB:=a0_ (below_step hb_ hb);(try clear hb);(try clear hb2);(try clear hk);(try clear hi))))
     go_ret
     exact ⟨by first | rfl | (simp [errW_none,errW_some] <;> rfl) | (simp [*,errW_none,errW_some] <;> rfl),hb_⟩
    ·replace c25:=Bool.eq_false_iff.mpr c25
     subst c25
     have H1 : (laws_FnValidHeap.l0 kj4 0 t1 t4) = some r:=by rw [if_neg (show ¬ (false = true) by decide)] at H;exact H
     clear H
     have H:=H1
     clear H1
     have H':=a0_ H
     clear H
     go_wp2
     repeat (go_quiet (fail);try go_wp2)
     go_loopg [6] kj4 (fun kq v6 w'=>∃ (x6_2 : Int),v6 = .int .i64 x6_2 ∧ Aside0 (laws_FnValidHeap.l0 kq x6_2 t1 t4 = some r) ∧ Aside0 (kq ≤ kj4) ∧ Aside0 (Kd.R k87 87 w' w.heap.size (fun _=>True) (.slice Ao9 t1.length co9) t1) ∧ Aside0 (Kd.R k43 43 w' w.heap.size (fun _=>True) (.slice Ao12 t4.length co12) t4) ∧ Aside0 (w'.heap[gb7]? = some (.cells #[(.slice Ao9 t1.length co9)] 25 (0,0))) ∧ Aside0 (w'.heap[gb8]? = some (.cells #[(.slice Ao12 t4.length co12)] 28 (0,0))) ∧ Aside0 (Below w.heap.size w w'))
     case atStart=>exact ⟨(0),(by first | rfl | (simp;done) | (simp [*];done)),H',⟨Nat.le_refl _⟩,⟨by (with_reducible repeat (first | apply Kd.R_alloc | apply Kd.R_drewN | apply Kd.R_drew));exact Z8.out⟩,⟨by (with_reducible repeat (first | apply Kd.R_alloc | apply Kd.R_drewN | apply Kd.R_drew));exact Z9.out⟩,⟨by (with_reducible repeat (first | refine blk_drewN ?_ _ | refine blk_drew ?_ | refine blk_alloc ?_ _));exact BK7.out⟩,⟨by (with_reducible repeat (first | refine blk_drewN ?_ _ | refine blk_drew ?_ | refine blk_alloc ?_ _));exact BK8.out⟩,⟨hb_⟩⟩
     case round =>
      clear H'
      try clear c1
      try clear c2
      try clear c2b0
      try clear c2b1
      try clear p2
      try clear c9
      try clear c10
      try clear c16
      try clear c16b0
      try clear c16b1
      try clear c16b2
      try clear c17
      try clear c21
      try clear c25
      try clear c27
      try clear hcz11_0
      try clear hcz13_0
      try clear hcz18_0
      try clear hcz19_0
      try clear hcz22_0
      try clear hcz23_0
      try clear hcz28_0
      try clear hcz29_0
      try clear hfz11_0
      try clear hfz13_0
      try clear hfz18_0
      try clear hfz19_0
      try clear hfz22_0
      try clear hfz23_0
      try clear hfz28_0
      try clear hfz29_0
      try clear p2
      obtain ⟨x6_2,rfl,HA,HK2,Z8,Z9,BK7,BK8,HB⟩:=hrel
      cases gk with
      | zero=>exact absurd HA.out (by simp [laws_FnValidHeap.l0])
      | succ k2 =>
       have H:=HA.out
       clear HA
       simp only [laws_FnValidHeap.l0] at H
       by_cases c31 : x6_2 < (t4.length : Int)
       ·rw [if_pos c31] at H
        have c31b0 : decide (x6_2 < (t4.length : Int)) = true:=decide_eq_true c31
        clear c31
        replace H:=Option.bind_eq_some_iff.mp H
        obtain ⟨t12,A320,H⟩:=H
        try dsimp only at H
        have A32:=a0_ A320
        clear A320
        by_cases c33 : (t12.length : Int) = 0
        ·rw [if_pos c33] at H
         have c33b0 : ((t12.length : Int) == 0) = true:=beq_iff_eq.mpr c33
         have c33b1 : ((t12.length : Int) != 0) = false:=bne_eq_false_iff_eq.mpr c33
         clear c33
         obtain rfl:=Option.some.inj H
         have hnb34:=NB8_7.out
         have hnc34:=NB7_8.out
         have hcz35_0 : wr.cell? ⟨gb8,0,none⟩ = some (.slice Ao12 t4.length co12):=(blk_cell BK8.out 0).trans rfl
         have hfz35_0:=blk_frozen BK8.out 0
         have hcz36_0 : wr.cell? ⟨gb7,0,none⟩ = some (.slice Ao9 t1.length co9):=(blk_cell BK7.out 0).trans rfl
         have hfz36_0:=blk_frozen BK7.out 0
         go_wp2_with (first | (go_at_call 26;(with_reducible refine (impl_ContextChain.calls _ _ t1 _ _ t4 x6_2 t12 _ ?side1 ?side2 ?side3 ?side4 A32.out).mono ?_);(case side1=>exact cc_ (Kd.R_reads' Z8.out).2.2);(case side2=>exact (Kd.R_reads' Z8.out).2.1);(case side3=>exact cc_ (Kd.R_reads' Z9.out).2.2);(case side4=>exact (Kd.R_reads' Z9.out).2.1);rintro e w37 ⟨v13,rfl,ho0,hb⟩;replace Z8:=rb_ Z8 hb;replace Z9:=rb_ Z9 hb;have HO14:=a0_ (Kd.R_lower ho0 (below_size hb_));replace BK7:=kb_ BK7 hb;replace BK8:=kb_ BK8 hb;replace HB:=a0_ (below_step hb_ hb);(try clear hb);(try clear ho0);obtain ⟨Ao38,co38,eo38⟩:=Kd.R_slice HO14.out;subst eo38))
         repeat (go_quiet (first | (go_at_call 26;(with_reducible refine (impl_ContextChain.calls _ _ t1 _ _ t4 x6_2 t12 _ ?side1 ?side2 ?side3 ?side4 A32.out).mono ?_);(case side1=>exact cc_ (Kd.R_reads' Z8.out).2.2);(case side2=>exact (Kd.R_reads' Z8.out).2.1);(case side3=>exact cc_ (Kd.R_reads' Z9.out).2.2);(case side4=>exact (Kd.R_reads' Z9.out).2.1);rintro e w37 ⟨v13,rfl,ho0,hb⟩;replace Z8:=rb_ Z8 hb;replace Z9:=rb_ Z9 hb;have HO14:=a0_ (Kd.R_lower ho0 (below_size hb_));replace BK7:=kb_ BK7 hb;replace BK8:=kb_ BK8 hb;replace HB:=a0_ (below_step hb_ hb);(try clear hb);(try clear ho0);obtain ⟨Ao38,co38,eo38⟩:=Kd.R_slice HO14.out;subst eo38));try go_wp2_with (first | (go_at_call 26;(with_reducible refine (impl_ContextChain.calls _ _ t1 _ _ t4 x6_2 t12 _ ?side1 ?side2 ?side3 ?side4 A32.out).mono ?_);(case side1=>exact cc_ (Kd.R_reads' Z8.out).2.2);(case side2=>exact (Kd.R_reads' Z8.out).2.1);(case side3=>exact cc_ (Kd.R_reads' Z9.out).2.2);(case side4=>exact (Kd.R_reads' Z9.out).2.1);rintro e w37 ⟨v13,rfl,ho0,hb⟩;replace Z8:=rb_ Z8 hb;replace Z9:=rb_ Z9 hb;have HO14:=a0_ (Kd.R_lower ho0 (below_size hb_));replace BK7:=kb_ BK7 hb;replace BK8:=kb_ BK8 hb;replace HB:=a0_ (below_step hb_ hb);(try clear hb);(try clear ho0);obtain ⟨Ao38,co38,eo38⟩:=Kd.R_slice HO14.out;subst eo38)))
         go_ret
         exact ⟨by first | rfl | (simp [errW_none,errW_some] <;> rfl) | (simp [*,errW_none,errW_some] <;> rfl),hb_⟩
        ·rw [if_neg c33] at H
         have c33b0 : ((t12.length : Int) == 0) = false:=beq_eq_false_iff_ne.mpr c33
         have c33b1 : ((t12.length : Int) != 0) = true:=bne_iff_ne.mpr c33
         have c33b2 : ¬ (t12 = []):=fun h_=>c33 (by rw [h_];rfl)
         obtain ⟨ji39,hji39⟩ : ∃ j_ : Int,(wrap64 ((t12.length : Int) - 1)) = j_:=⟨_,rfl⟩
         replace H : (if 0 ≤ (ji39) then (if (ji39) < (t12.length : Int) then (if 0 ≤ (rd t12 (ji39)) then (if (rd t12 (ji39)) < (t4.length : Int) then (if ((rd_T43 t4 (rd t12 (ji39))).f3) = (-1) then (if 0 < (t12.length : Int) then (if (rd t12 0) = x6_2 then (laws_FnValidHeap.l0 k2 (wrap64 (x6_2 + 1)) t1 t4) else (some false)) else (none)) else (some false)) else (none)) else (none)) else (none)) else (none)) = some r:=by first | (rw [hji39] at H;exact H) | (simp only [hji39] at H ⊢;exact H)
         (try rw [hji39] at A32)
         have hji39w : (IntKind.i64.wrap ((t12.length : Int) - 1)) = ji39:=(i64_w _).trans hji39
         by_cases c40 : 0 ≤ (ji39)
         ·rw [if_pos c40] at H
          have c40b0 : decide (0 ≤ (ji39)) = true:=decide_eq_true c40
          clear c40
          by_cases c41 : (ji39) < (t12.length : Int)
          ·rw [if_pos c41] at H
           have c41b0 : decide ((ji39) < (t12.length : Int)) = true:=decide_eq_true c41
           clear c41
           by_cases c42 : 0 ≤ (rd t12 (ji39))
           ·rw [if_pos c42] at H
            have c42b0 : decide (0 ≤ (rd t12 (ji39))) = true:=decide_eq_true c42
            clear c42
            by_cases c43 : (rd t12 (ji39)) < (t4.length : Int)
            ·rw [if_pos c43] at H
             have c43b0 : decide ((rd t12 (ji39)) < (t4.length : Int)) = true:=decide_eq_true c43
             clear c43
             by_cases c44 : ((rd_T43 t4 (rd t12 (ji39))).f3) = (-1)
             ·rw [if_pos c44] at H
              have c44b0 : (((rd_T43 t4 (rd t12 (ji39))).f3) == (-1)) = true:=beq_iff_eq.mpr c44
              have c44b1 : (((rd_T43 t4 (rd t12 (ji39))).f3) != (-1)) = false:=bne_eq_false_iff_eq.mpr c44
              clear c44
              by_cases c45 : 0 < (t12.length : Int)
              ·rw [if_pos c45] at H
               have c45b0 : decide (0 < (t12.length : Int)) = true:=decide_eq_true c45
               have c45b1 : decide (0 < t12.length) = true:=decide_eq_true (by omega)
               clear c45
               by_cases c46 : (rd t12 0) = x6_2
               ·rw [if_pos c46] at H
                have c46b0 : ((rd t12 0) == x6_2) = true:=beq_iff_eq.mpr c46
                have c46b1 : ((rd t12 0) != x6_2) = false:=bne_eq_false_iff_eq.mpr c46
                clear c46
                have H':=a0_ H
                clear H
                have hnb47:=NB8_7.out
                have hnc47:=NB7_8.out
                have hcz48_0 : wr.cell? ⟨gb8,0,none⟩ = some (.slice Ao12 t4.length co12):=(blk_cell BK8.out 0).trans rfl
                have hfz48_0:=blk_frozen BK8.out 0
                have hcz49_0 : wr.cell? ⟨gb7,0,none⟩ = some (.slice Ao9 t1.length co9):=(blk_cell BK7.out 0).trans rfl
                have hfz49_0:=blk_frozen BK7.out 0
                go_wp2_with (first | (go_at_call 26;(with_reducible refine (impl_ContextChain.calls _ _ t1 _ _ t4 x6_2 t12 _ ?side1 ?side2 ?side3 ?side4 A32.out).mono ?_);(case side1=>exact cc_ (Kd.R_reads' Z8.out).2.2);(case side2=>exact (Kd.R_reads' Z8.out).2.1);(case side3=>exact cc_ (Kd.R_reads' Z9.out).2.2);(case side4=>exact (Kd.R_reads' Z9.out).2.1);rintro e w50 ⟨v13,rfl,ho0,hb⟩;replace Z8:=rb_ Z8 hb;replace Z9:=rb_ Z9 hb;have HO14:=a0_ (Kd.R_lower ho0 (below_size hb_));replace BK7:=kb_ BK7 hb;replace BK8:=kb_ BK8 hb;replace HB:=a0_ (below_step hb_ hb);(try clear hb);(try clear ho0);obtain ⟨Ao51,co51,eo51⟩:=Kd.R_slice HO14.out;subst eo51;have hcz52_0 : w50.cell? ⟨gb8,0,none⟩ = some (.slice Ao12 t4.length co12):=(blk_cell BK8.out 0).trans rfl;have hfz52_0:=blk_frozen BK8.out 0;have p15 : 0 ≤ ((ji39) : Int):=of_decide_eq_true (by first | (with_reducible assumption) | assumption);have q15 : (ji39) < (t12.length : Int):=of_decide_eq_true (by first | (with_reducible assumption) | assumption);obtain ⟨ad15,e15,hx15_0⟩:=Kd.at_int (Kd.R_reads' HO14.out).2.2 (ji39) p15 q15;cases e15;replace p15:=eq_true p15;replace q15:=eq_true q15;have p16 : 0 ≤ ((rd t12 (ji39)) : Int):=of_decide_eq_true (by first | (with_reducible assumption) | assumption);have q16 : (rd t12 (ji39)) < (t4.length : Int):=of_decide_eq_true (by first | (with_reducible assumption) | assumption);obtain ⟨ad16,e16,hx16_0,hx16_1,hx16_2,hx16_3,hx16_4⟩:=at_T43 (Kd.R_reads' Z9.out).2.2 (rd t12 (ji39)) p16 q16;cases e16;replace p16:=eq_true p16;replace q16:=eq_true q16;have p17 : 0 ≤ (0 : Int):=(by omega);have q17 : 0 < (t12.length : Int):=of_decide_eq_true (by first | (with_reducible assumption) | assumption);obtain ⟨ad17,e17,hx17_0⟩:=Kd.at_int (Kd.R_reads' HO14.out).2.2 0 p17 q17;obtain rfl : ad15 = ad17:=(by injection e17);have qi17 : (0 < t12.length) = True:=eq_true (by omega);(try rw [show ((0 : Int)).toNat = 0 from rfl] at hx17_0);(try rw [Addr.add_zero'] at hx17_0);replace p17:=eq_true p17;replace q17:=eq_true q17))
                repeat (go_quiet (first | (go_at_call 26;(with_reducible refine (impl_ContextChain.calls _ _ t1 _ _ t4 x6_2 t12 _ ?side1 ?side2 ?side3 ?side4 A32.out).mono ?_);(case side1=>exact cc_ (Kd.R_reads' Z8.out).2.2);(case side2=>exact (Kd.R_reads' Z8.out).2.1);(case side3=>exact cc_ (Kd.R_reads' Z9.out).2.2);(case side4=>exact (Kd.R_reads' Z9.out).2.1);rintro e w50 ⟨v13,rfl,ho0,hb⟩;replace Z8:=rb_ Z8 hb;replace Z9:=rb_ Z9 hb;have HO14:=a0_ (Kd.R_lower ho0 (below_size hb_));replace BK7:=kb_ BK7 hb;replace BK8:=kb_ BK8 hb;replace HB:=a0_ (below_step hb_ hb);(try clear hb);(try clear ho0);obtain ⟨Ao51,co51,eo51⟩:=Kd.R_slice HO14.out;subst eo51;have hcz52_0 : w50.cell? ⟨gb8,0,none⟩ = some (.slice Ao12 t4.length co12):=(blk_cell BK8.out 0).trans rfl;have hfz52_0:=blk_frozen BK8.out 0;have p15 : 0 ≤ ((ji39) : Int):=of_decide_eq_true (by first | (with_reducible assumption) | assumption);have q15 : (ji39) < (t12.length : Int):=of_decide_eq_true (by first | (with_reducible assumption) | assumption);obtain ⟨ad15,e15,hx15_0⟩:=Kd.at_int (Kd.R_reads' HO14.out).2.2 (ji39) p15 q15;cases e15;replace p15:=eq_true p15;replace q15:=eq_true q15;have p16 : 0 ≤ ((rd t12 (ji39)) : Int):=of_decide_eq_true (by first | (with_reducible assumption) | assumption);have q16 : (rd t12 (ji39)) < (t4.length : Int):=of_decide_eq_true (by first | (with_reducible assumption) | assumption);obtain ⟨ad16,e16,hx16_0,hx16_1,hx16_2,hx16_3,hx16_4⟩:=at_T43 (Kd.R_reads' Z9.out).2.2 (rd t12 (ji39)) p16 q16;cases e16;replace p16:=eq_true p16;replace q16:=eq_true q16;have p17 : 0 ≤ (0 : Int):=(by omega);have q17 : 0 < (t12.length : Int):=of_decide_eq_true (by first | (with_reducible assumption) | assumption);obtain ⟨ad17,e17,hx17_0⟩:=Kd.at_int (Kd.R_reads' HO14.out).2.2 0 p17 q17;obtain rfl : ad15 = ad17:=(by injection e17);have qi17 : (0 < t12.length) = True:=eq_true (by omega);(try rw [show ((0 : Int)).toNat = 0 from rfl] at hx17_0);(try rw [Addr.add_zero'] at hx17_0);replace p17:=eq_true p17;replace q17:=eq_true q17));try go_wp2_with (first | (go_at_call 26;(with_reducible refine (impl_ContextChain.calls _ _ t1 _ _ t4 x6_2 t12 _ ?side1 ?side2 ?side3 ?side4 A32.out).mono ?_);(case side1=>exact cc_ (Kd.R_reads' Z8.out).2.2);(case side2=>exact (Kd.R_reads' Z8.out).2.1);(case side3=>exact cc_ (Kd.R_reads' Z9.out).2.2);(case side4=>exact (Kd.R_reads' Z9.out).2.1);rintro e w50 ⟨v13,rfl,ho0,hb⟩;replace Z8:=rb_ Z8 hb;replace Z9:=rb_ Z9 hb;have HO14:=a0_ (Kd.R_lower ho0 (below_size hb_));replace BK7:=kb_ BK7 hb;replace BK8:=kb_ BK8 hb;replace HB:=a0_ (below_step hb_ hb);(try clear hb);(try clear ho0);obtain ⟨Ao51,co51,eo51⟩:=Kd.R_slice HO14.out;subst eo51;have hcz52_0 : w50.cell? ⟨gb8,0,none⟩ = some (.slice Ao12 t4.length co12):=(blk_cell BK8.out 0).trans rfl;have hfz52_0:=blk_frozen BK8.out 0;have p15 : 0 ≤ ((ji39) : Int):=of_decide_eq_true (by first | (with_reducible assumption) | assumption);have q15 : (ji39) < (t12.length : Int):=of_decide_eq_true (by first | (with_reducible assumption) | assumption);obtain ⟨ad15,e15,hx15_0⟩:=Kd.at_int (Kd.R_reads' HO14.out).2.2 (ji39) p15 q15;cases e15;replace p15:=eq_true p15;replace q15:=eq_true q15;have p16 : 0 ≤ ((rd t12 (ji39)) : Int):=of_decide_eq_true (by first | (with_reducible assumption) | assumption);have q16 : (rd t12 (ji39)) < (t4.length : Int):=of_decide_eq_true (by first | (with_reducible assumption) | assumption);obtain ⟨ad16,e16,hx16_0,hx16_1,hx16_2,hx16_3,hx16_4⟩:=at_T43 (Kd.R_reads' Z9.out).2.2 (rd t12 (ji39)) p16 q16;cases e16;replace p16:=eq_true p16;replace q16:=eq_true q16;have p17 : 0 ≤ (0 : Int):=(by omega);have q17 : 0 < (t12.length : Int):=of_decide_eq_true (by first | (with_reducible assumption) | assumption);obtain ⟨ad17,e17,hx17_0⟩:=Kd.at_int (Kd.R_reads' HO14.out).2.2 0 p17 q17;obtain rfl : ad15 = ad17:=(by injection e17);have qi17 : (0 < t12.length) = True:=eq_true (by omega);(try rw [show ((0 : Int)).toNat = 0 from rfl] at hx17_0);(try rw [Addr.add_zero'] at hx17_0);replace p17:=eq_true p17;replace q17:=eq_true q17)))
                go_roundg k2
                case measure=>have:=HJ4.out;have:=HK2.out;omega
                case rel=>exact ⟨(wrap64 (x6_2 + 1)),(by first | rfl | (simp;done) | (simp [*];done)),H',⟨by have:=HJ4.out;have:=HK2.out;omega⟩,⟨by (with_reducible repeat (first | apply Kd.R_alloc | apply Kd.R_drewN | apply Kd.R_drew));exact Z8.out⟩,⟨by (with_reducible repeat (first | apply Kd.R_alloc | apply Kd.R_drewN | apply Kd.R_drew));exact Z9.out⟩,⟨by (with_reducible repeat (first | refine blk_drewN ?_ _ | refine blk_drew ?_ | refine blk_alloc ?_ _));exact BK7.out⟩,⟨by (with_reducible repeat (first | refine blk_drewN ?_ _ | refine blk_drew ?_ | refine blk_alloc ?_ _));exact BK8.out⟩,⟨hb_⟩⟩
               ·rw [if_neg c46] at H
                have c46b0 : ((rd t12 0) == x6_2) = false:=beq_eq_false_iff_ne.mpr c46
                have c46b1 : ((rd t12 0) != x6_2) = true:=bne_iff_ne.mpr c46
                obtain rfl:=Option.some.inj H
                have hnb53:=NB8_7.out
                have hnc53:=NB7_8.out
                have hcz54_0 : wr.cell? ⟨gb8,0,none⟩ = some (.slice Ao12 t4.length co12):=(blk_cell BK8.out 0).trans rfl
                have hfz54_0:=blk_frozen BK8.out 0
                have hcz55_0 : wr.cell? ⟨gb7,0,none⟩ = some (.slice Ao9 t1.length co9):=(blk_cell BK7.out 0).trans rfl
                have hfz55_0:=blk_frozen BK7.out 0
                go_wp2_with (first | (go_at_call 26;(with_reducible refine (impl_ContextChain.calls _ _ t1 _ _ t4 x6_2 t12 _ ?side1 ?side2 ?side3 ?side4 A32.out).mono ?_);(case side1=>exact cc_ (Kd.R_reads' Z8.out).2.2);(case side2=>exact (Kd.R_reads' Z8.out).2.1);(case side3=>exact cc_ (Kd.R_reads' Z9.out).2.2);(case side4=>exact (Kd.R_reads' Z9.out).2.1);rintro e w56 ⟨v13,rfl,ho0,hb⟩;replace Z8:=rb_ Z8 hb;replace Z9:=rb_ Z9 hb;have HO14:=a0_ (Kd.R_lower ho0 (below_size hb_));replace BK7:=kb_ BK7 hb;replace BK8:=kb_ BK8 hb;replace HB:=a0_ (below_step hb_ hb);(try clear hb);(try clear ho0);obtain ⟨Ao57,co57,eo57⟩:=Kd.R_slice HO14.out;subst eo57;have hcz58_0 : w56.cell? ⟨gb8,0,none⟩ = some (.slice Ao12 t4.length co12):=(blk_cell BK8.out 0).trans rfl;have hfz58_0:=blk_frozen BK8.out 0;have p15 : 0 ≤ ((ji39) : Int):=of_decide_eq_true (by first | (with_reducible assumption) | assumption);have q15 : (ji39) < (t12.length : Int):=of_decide_eq_true (by first | (with_reducible assumption) | assumption);obtain ⟨ad15,e15,hx15_0⟩:=Kd.at_int (Kd.R_reads' HO14.out).2.2 (ji39) p15 q15;cases e15;replace p15:=eq_true p15;replace q15:=eq_true q15;have p16 : 0 ≤ ((rd t12 (ji39)) : Int):=of_decide_eq_true (by first | (with_reducible assumption) | assumption);have q16 : (rd t12 (ji39)) < (t4.length : Int):=of_decide_eq_true (by first | (with_reducible assumption) | assumption);obtain ⟨ad16,e16,hx16_0,hx16_1,hx16_2,hx16_3,hx16_4⟩:=at_T43 (Kd.R_reads' Z9.out).2.2 (rd t12 (ji39)) p16 q16;cases e16;replace p16:=eq_true p16;replace q16:=eq_true q16;have p17 : 0 ≤ (0 : Int):=(by omega);have q17 : 0 < (t12.length : Int):=of_decide_eq_true (by first | (with_reducible assumption) | assumption);obtain ⟨ad17,e17,hx17_0⟩:=Kd.at_int (Kd.R_reads' HO14.out).2.2 0 p17 q17;obtain rfl : ad15 = ad17:=(by injection e17);have qi17 : (0 < t12.length) = True:=eq_true (by omega);(try rw [show ((0 : Int)).toNat = 0 from rfl] at hx17_0);(try rw [Addr.add_zero'] at hx17_0);replace p17:=eq_true p17;replace q17:=eq_true q17))
                repeat (go_quiet (first | (go_at_call 26;(with_reducible refine (impl_ContextChain.calls _ _ t1 _ _ t4 x6_2 t12 _ ?side1 ?side2 ?side3 ?side4 A32.out).mono ?_);(case side1=>exact cc_ (Kd.R_reads' Z8.out).2.2);(case side2=>exact (Kd.R_reads' Z8.out).2.1);(case side3=>exact cc_ (Kd.R_reads' Z9.out).2.2);(case side4=>exact (Kd.R_reads' Z9.out).2.1);rintro e w56 ⟨v13,rfl,ho0,hb⟩;replace Z8:=rb_ Z8 hb;replace Z9:=rb_ Z9 hb;have HO14:=a0_ (Kd.R_lower ho0 (below_size hb_));replace BK7:=kb_ BK7 hb;replace BK8:=kb_ BK8 hb;replace HB:=a0_ (below_step hb_ hb);(try clear hb);(try clear ho0);obtain ⟨Ao57,co57,eo57⟩:=Kd.R_slice HO14.out;subst eo57;have hcz58_0 : w56.cell? ⟨gb8,0,none⟩ = some (.slice Ao12 t4.length co12):=(blk_cell BK8.out 0).trans rfl;have hfz58_0:=blk_frozen BK8.out 0;have p15 : 0 ≤ ((ji39) : Int):=of_decide_eq_true (by first | (with_reducible assumption) | assumption);have q15 : (ji39) < (t12.length : Int):=of_decide_eq_true (by first | (with_reducible assumption) | assumption);obtain ⟨ad15,e15,hx15_0⟩:=Kd.at_int (Kd.R_reads' HO14.out).2.2 (ji39) p15 q15;cases e15;replace p15:=eq_true p15;replace q15:=eq_true q15;have p16 : 0 ≤ ((rd t12 (ji39)) : Int):=of_decide_eq_true (by first | (with_reducible assumption) | assumption);have q16 : (rd t12 (ji39)) < (t4.length : Int):=of_decide_eq_true (by first | (with_reducible assumption) | assumption);obtain ⟨ad16,e16,hx16_0,hx16_1,hx16_2,hx16_3,hx16_4⟩:=at_T43 (Kd.R_reads' Z9.out).2.2 (rd t12 (ji39)) p16 q16;cases e16;replace p16:=eq_true p16;replace q16:=eq_true q16;have p17 : 0 ≤ (0 : Int):=(by omega);have q17 : 0 < (t12.length : Int):=of_decide_eq_true (by first | (with_reducible assumption) | assumption);obtain ⟨ad17,e17,hx17_0⟩:=Kd.at_int (Kd.R_reads' HO14.out).2.2 0 p17 q17;obtain rfl : ad15 = ad17:=(by injection e17);have qi17 : (0 < t12.length) = True:=eq_true (by omega);(try rw [show ((0 : Int)).toNat = 0 from rfl] at hx17_0);(try rw [Addr.add_zero'] at hx17_0);replace p17:=eq_true p17;replace q17:=eq_true q17));try go_wp2_with (first | (go_at_call 26;(with_reducible refine (impl_ContextChain.calls _ _ t1 _ _ t4 x6_2 t12 _ ?side1 ?side2 ?side3 ?side4 A32.out).mono ?_);(case side1=>exact cc_ (Kd.R_reads' Z8.out).2.2);(case side2=>exact (Kd.R_reads' Z8.out).2.1);(case side3=>exact cc_ (Kd.R_reads' Z9.out).2.2);(case side4=>exact (Kd.R_reads' Z9.out).2.1);rintro e w56 ⟨v13,rfl,ho0,hb⟩;replace Z8:=rb_ Z8 hb;replace Z9:=rb_ Z9 hb;have HO14:=a0_ (Kd.R_lower ho0 (below_size hb_));replace BK7:=kb_ BK7 hb;replace BK8:=kb_ BK8 hb;replace HB:=a0_ (below_step hb_ hb);(try clear hb);(try clear ho0);obtain ⟨Ao57,co57,eo57⟩:=Kd.R_slice HO14.out;subst eo57;have hcz58_0 : w56.cell? ⟨gb8,0,none⟩ = some (.slice Ao12 t4.length co12):=(blk_cell BK8.out 0).trans rfl;have hfz58_0:=blk_frozen BK8.out 0;have p15 : 0 ≤ ((ji39) : Int):=of_decide_eq_true (by first | (with_reducible assumption) | assumption);have q15 : (ji39) < (t12.length : Int):=of_decide_eq_true (by first | (with_reducible assumption) | assumption);obtain ⟨ad15,e15,hx15_0⟩:=Kd.at_int (Kd.R_reads' HO14.out).2.2 (ji39) p15 q15;cases e15;replace p15:=eq_true p15;replace q15:=eq_true q15;have p16 : 0 ≤ ((rd t12 (ji39)) : Int):=of_decide_eq_true (by first | (with_reducible assumption) | assumption);have q16 : (rd t12 (ji39)) < (t4.length : Int):=of_decide_eq_true (by first | (with_reducible assumption) | assumption);obtain ⟨ad16,e16,hx16_0,hx16_1,hx16_2,hx16_3,hx16_4⟩:=at_T43 (Kd.R_reads' Z9.out).2.2 (rd t12 (ji39)) p16 q16;cases e16;replace p16:=eq_true p16;replace q16:=eq_true q16;have p17 : 0 ≤ (0 : Int):=(by omega);have q17 : 0 < (t12.length : Int):=of_decide_eq_true (by first | (with_reducible assumption) | assumption);obtain ⟨ad17,e17,hx17_0⟩:=Kd.at_int (Kd.R_reads' HO14.out).2.2 0 p17 q17;obtain rfl : ad15 = ad17:=(by injection e17);have qi17 : (0 < t12.length) = True:=eq_true (by omega);(try rw [show ((0 : Int)).toNat = 0 from rfl] at hx17_0);(try rw [Addr.add_zero'] at hx17_0);replace p17:=eq_true p17;replace q17:=eq_true q17)))
                go_ret
                exact ⟨by first | rfl | (simp [errW_none,errW_some] <;> rfl) | (simp only [← hji39];first | rfl | (simp [errW_none,errW_some] <;> rfl)) | (simp [*,errW_none,errW_some] <;> rfl),hb_⟩
              ·rw [if_neg c45] at H
               exact absurd H (by simp)
             ·rw [if_neg c44] at H
              have c44b0 : (((rd_T43 t4 (rd t12 (ji39))).f3) == (-1)) = false:=beq_eq_false_iff_ne.mpr c44
              have c44b1 : (((rd_T43 t4 (rd t12 (ji39))).f3) != (-1)) = true:=bne_iff_ne.mpr c44
              obtain rfl:=Option.some.inj H
              have hnb59:=NB8_7.out
              have hnc59:=NB7_8.out
              have hcz60_0 : wr.cell? ⟨gb8,0,none⟩ = some (.slice Ao12 t4.length co12):=(blk_cell BK8.out 0).trans rfl
              have hfz60_0:=blk_frozen BK8.out 0
              have hcz61_0 : wr.cell? ⟨gb7,0,none⟩ = some (.slice Ao9 t1.length co9):=(blk_cell BK7.out 0).trans rfl
              have hfz61_0:=blk_frozen BK7.out 0
              go_wp2_with (first | (go_at_call 26;(with_reducible refine (impl_ContextChain.calls _ _ t1 _ _ t4 x6_2 t12 _ ?side1 ?side2 ?side3 ?side4 A32.out).mono ?_);(case side1=>exact cc_ (Kd.R_reads' Z8.out).2.2);(case side2=>exact (Kd.R_reads' Z8.out).2.1);(case side3=>exact cc_ (Kd.R_reads' Z9.out).2.2);(case side4=>exact (Kd.R_reads' Z9.out).2.1);rintro e w62 ⟨v13,rfl,ho0,hb⟩;replace Z8:=rb_ Z8 hb;replace Z9:=rb_ Z9 hb;have HO14:=a0_ (Kd.R_lower ho0 (below_size hb_));replace BK7:=kb_ BK7 hb;replace BK8:=kb_ BK8 hb;replace HB:=a0_ (below_step hb_ hb);(try clear hb);(try clear ho0);obtain ⟨Ao63,co63,eo63⟩:=Kd.R_slice HO14.out;subst eo63;have hcz64_0 : w62.cell? ⟨gb8,0,none⟩ = some (.slice Ao12 t4.length co12):=(blk_cell BK8.out 0).trans rfl;have hfz64_0:=blk_frozen BK8.out 0;have p15 : 0 ≤ ((ji39) : Int):=of_decide_eq_true (by first | (with_reducible assumption) | assumption);have q15 : (ji39) < (t12.length : Int):=of_decide_eq_true (by first | (with_reducible assumption) | assumption);obtain ⟨ad15,e15,hx15_0⟩:=Kd.at_int (Kd.R_reads' HO14.out).2.2 (ji39) p15 q15;cases e15;replace p15:=eq_true p15;replace q15:=eq_true q15;have p16 : 0 ≤ ((rd t12 (ji39)) : Int):=of_decide_eq_true (by first | (with_reducible assumption) | assumption);have q16 : (rd t12 (ji39)) < (t4.length : Int):=of_decide_eq_true (by first | (with_reducible assumption) | assumption);obtain ⟨ad16,e16,hx16_0,hx16_1,hx16_2,hx16_3,hx16_4⟩:=at_T43 (Kd.R_reads' Z9.out).2.2 (rd t12 (ji39)) p16 q16;cases e16;replace p16:=eq_true p16;replace q16:=eq_true q16))
              repeat (go_quiet (first | (go_at_call 26;(with_reducible refine (impl_ContextChain.calls _ _ t1 _ _ t4 x6_2 t12 _ ?side1 ?side2 ?side3 ?side4 A32.out).mono ?_);(case side1=>exact cc_ (Kd.R_reads' Z8.out).2.2);(case side2=>exact (Kd.R_reads' Z8.out).2.1);(case side3=>exact cc_ (Kd.R_reads' Z9.out).2.2);(case side4=>exact (Kd.R_reads' Z9.out).2.1);rintro e w62 ⟨v13,rfl,ho0,hb⟩;replace Z8:=rb_ Z8 hb;replace Z9:=rb_ Z9 hb;have HO14:=a0_ (Kd.R_lower ho0 (below_size hb_));replace BK7:=kb_ BK7 hb;replace BK8:=kb_ BK8 hb;replace HB:=a0_ (below_step hb_ hb);(try clear hb);(try clear ho0);obtain ⟨Ao63,co63,eo63⟩:=Kd.R_slice HO14.out;subst eo63;have hcz64_0 : w62.cell? ⟨gb8,0,none⟩ = some (.slice Ao12 t4.length co12):=(blk_cell BK8.out 0).trans rfl;have hfz64_0:=blk_frozen BK8.out 0;have p15 : 0 ≤ ((ji39) : Int):=of_decide_eq_true (by first | (with_reducible assumption) | assumption);have q15 : (ji39) < (t12.length : Int):=of_decide_eq_true (by first | (with_reducible assumption) | assumption);obtain ⟨ad15,e15,hx15_0⟩:=Kd.at_int (Kd.R_reads' HO14.out).2.2 (ji39) p15 q15;cases e15;replace p15:=eq_true p15;replace q15:=eq_true q15;have p16 : 0 ≤ ((rd t12 (ji39)) : Int):=of_decide_eq_true (by first | (with_reducible assumption) | assumption);have q16 : (rd t12 (ji39)) < (t4.length : Int):=of_decide_eq_true (by first | (with_reducible assumption) | assumption);obtain ⟨ad16,e16,hx16_0,hx16_1,hx16_2,hx16_3,hx16_4⟩:=at_T43 (Kd.R_reads' Z9.out).2.2 (rd t12 (ji39)) p16 q16;cases e16;replace p16:=eq_true p16;replace q16:=eq_true q16));try go_wp2_with (first | (go_at_call 26;(with_reducible refine (impl_ContextChain.calls _ _ t1 _ _ t4 x6_2 t12 _ ?side1 ?side2 ?side3 ?side4 A32.out).mono ?_);(case side1=>exact cc_ (Kd.R_reads' Z8.out).2.2);(case side2=>exact (Kd.R_reads' Z8.out).2.1);(case side3=>exact cc_ (Kd.R_reads' Z9.out).2.2);(case side4=>exact (Kd.R_reads' Z9.out).2.1);rintro e w62 ⟨v13,rfl,ho0,hb⟩;replace Z8:=rb_ Z8 hb;replace Z9:=rb_ Z9 hb;have HO14:=a0_ (Kd.R_lower ho0 (below_size hb_));replace BK7:=kb_ BK7 hb;replace BK8:=kb_ BK8 hb;replace HB:=a0_ (below_step hb_ hb);(try clear hb);(try clear ho0);obtain ⟨Ao63,co63,eo63⟩:=Kd.R_slice HO14.out;subst eo63;have hcz64_0 : w62.cell? ⟨gb8,0,none⟩ = some (.slice Ao12 t4.length co12):=(blk_cell BK8.out 0).trans rfl;have hfz64_0:=blk_frozen BK8.out 0;have p15 : 0 ≤ ((ji39) : Int):=of_decide_eq_true (by first | (with_reducible assumption) | assumption);have q15 : (ji39) < (t12.length : Int):=of_decide_eq_true (by first | (with_reducible assumption) | assumption);obtain ⟨ad15,e15,hx15_0⟩:=Kd.at_int (Kd.R_reads' HO14.out).2.2 (ji39) p15 q15;cases e15;replace p15:=eq_true p15;replace q15:=eq_true q15;have p16 : 0 ≤ ((rd t12 (ji39)) : Int):=of_decide_eq_true (by first | (with_reducible assumption) | assumption);have q16 : (rd t12 (ji39)) < (t4.length : Int):=of_decide_eq_true (by first | (with_reducible assumption) | assumption);obtain ⟨ad16,e16,hx16_0,hx16_1,hx16_2,hx16_3,hx16_4⟩:=at_T43 (Kd.R_reads' Z9.out).2.2 (rd t12 (ji39)) p16 q16;cases e16;replace p16:=eq_true p16;replace q16:=eq_true q16)))
              go_ret
              exact ⟨by first | rfl | (simp [errW_none,errW_some] <;> rfl) | (simp only [← hji39];first | rfl | (simp [errW_none,errW_some] <;> rfl)) | (simp [*,errW_none,errW_some] <;> rfl),hb_⟩
            ·rw [if_neg c43] at H
             exact absurd H (by simp)
           ·rw [if_neg c42] at H
            exact absurd H (by simp)
          ·rw [if_neg c41] at H
           exact absurd H (by simp)
         ·rw [if_neg c40] at H
          exact absurd H (by simp)
       ·rw [if_neg c31] at H
        have c31b0 : decide (x6_2 < (t4.length : Int)) = false:=decide_eq_false c31
        clear c31
        replace H:=Option.bind_eq_some_iff.mp H
        obtain ⟨t18,A650,H⟩:=H
        replace H : (some t18) = some r:=H
        have A65:=a0_ A650
        clear A650
        obtain rfl:=Option.some.inj H
        have hnb66:=NB8_7.out
        have hnc66:=NB7_8.out
        have hcz67_0 : wr.cell? ⟨gb8,0,none⟩ = some (.slice Ao12 t4.length co12):=(blk_cell BK8.out 0).trans rfl
        have hfz67_0:=blk_frozen BK8.out 0
        have hcz68_0 : wr.cell? ⟨gb7,0,none⟩ = some (.slice Ao9 t1.length co9):=(blk_cell BK7.out 0).trans rfl
        have hfz68_0:=blk_frozen BK7.out 0
        go_wp2_with (first | (go_at_call 30;(refine (impl_ValidHeap.calls _ _ t1 _ _ ([] : List (S43)) t18 _ ?side1 ?side2 ?side3 ?side4 A65.out).mono ?_);(case side1=>exact cc_ (Kd.R_reads' Z8.out).2.2);(case side2=>exact (Kd.R_reads' Z8.out).2.1);(case side3=>exact Kd.C_nil _ _);(case side4=>exact Nat.le_refl _);rintro e w69 ⟨rfl,hb⟩;replace Z8:=rb_ Z8 hb;replace Z9:=rb_ Z9 hb;replace BK7:=kb_ BK7 hb;replace BK8:=kb_ BK8 hb;replace HB:=a0_ (below_step hb_ hb);(try clear hb);(try clear hb2);(try clear hk);(try clear hi)))
        repeat (go_quiet (first | (go_at_call 30;(refine (impl_ValidHeap.calls _ _ t1 _ _ ([] : List (S43)) t18 _ ?side1 ?side2 ?side3 ?side4 A65.out).mono ?_);(case side1=>exact cc_ (Kd.R_reads' Z8.out).2.2);(case side2=>exact (Kd.R_reads' Z8.out).2.1);(case side3=>exact Kd.C_nil _ _);(case side4=>exact Nat.le_refl _);rintro e w69 ⟨rfl,hb⟩;replace Z8:=rb_ Z8 hb;replace Z9:=rb_ Z9 hb;replace BK7:=kb_ BK7 hb;replace BK8:=kb_ BK8 hb;replace HB:=a0_ (below_step hb_ hb);(try clear hb);(try clear hb2);(try clear hk);(try clear hi)));try go_wp2_with (first | (go_at_call 30;(refine (impl_ValidHeap.calls _ _ t1 _ _ ([] : List (S43)) t18 _ ?side1 ?side2 ?side3 ?side4 A65.out).mono ?_);(case side1=>exact cc_ (Kd.R_reads' Z8.out).2.2);(case side2=>exact (Kd.R_reads' Z8.out).2.1);(case side3=>exact Kd.C_nil _ _);(case side4=>exact Nat.le_refl _);rintro e w69 ⟨rfl,hb⟩;replace Z8:=rb_ Z8 hb;replace Z9:=rb_ Z9 hb;replace BK7:=kb_ BK7 hb;replace BK8:=kb_ BK8 hb;replace HB:=a0_ (below_step hb_ hb);(try clear hb);(try clear hb2);(try clear hk);(try clear hi))))
        go_ret
        exact ⟨by first | rfl | (simp [errW_none,errW_some] <;> rfl) | (simp [*,errW_none,errW_some] <;> rfl),hb_⟩
def laws_FnValidHeap.Pure : Prop:=∀ (l0 : List Int),l0.length ≤ maxLen → l0.length * 1 ≤ 140737488351232 → (∀ x ∈ l0,(Lit.int .u8 x).wf = true) → ∃ k,laws_FnValidHeap.f k l0 = some true
theorem laws_FnValidHeap.walk (P : laws_FnValidHeap.Pure) (a0 : Option Addr) (len0 cap0 : Nat) (z0 : List Int) (w : World) (w0 : (a0 = none ∧ len0 = 0 ∧ cap0 = 0 ∧ z0 = []) ∨ ∃ x,a0 = some x ∧ len0 ≤ cap0 ∧ cap0 ≤ maxLen ∧ z0.length = cap0 ∧ (∀ i,i < z0.length → w.cell? (x.add i) = some (.int .u8 (z0.getD i 0))) ∧ ∀ n ∈ z0,(Lit.int .u8 n).wf = true) (y0 : len0 * 1 ≤ 140737488351232) :
  Calls Try.prog 9 #[.slice a0 len0 cap0] w fun e w'=>e = .returned (.bool true) ∧ Below w.heap.size w w':=by
 obtain ⟨l0,rfl,hr0,hm0,hw0,hc0⟩:=ReadsInt.ofRowC w0
 obtain ⟨k,h⟩:=P l0 hm0 y0 hw0
 refine (laws_FnValidHeap.calls k _ _ l0 true w (Kd.C_of_reads (d:=(0 : Int)) (h1:=fun _=>rfl) hr0) hc0 h).mono ?_
 rintro e w' ⟨rfl,hd⟩
 exact ⟨rfl,hd⟩
end Go.Proofs.Ytmiholmfbjalfaa.P
namespace Go.Proofs.Ytmiholmfbjalfaa.P
open Go.RowKit Go.Proofs.YtmiholmfbjalfaaW.PrintWords Go.Proofs.YtmiholmfbjalfaaW.PrintLast Go.Proofs.YtmiholmfbjalfaaW.PrintMore
attribute [local go_sem] max2_int min2_int max_two min_two max_three min_three max_four min_four
set_option linter.unusedVariables false
set_option linter.unusedSimpArgs false
theorem chain_link (next : Int → Int) : ∀ (d : Nat) (out : List Int) (x : Int) (k : Nat),k + 1 < (chainL next d out x).length → (chainL next d out x).getD (k + 1) 0 = next ((chainL next d out x).getD k 0):=by
 intro d
 induction d with
 | zero=>intro out x k hk;simp [chainL] at hk
 | succ d ih =>
  intro out x k hk
  rw [chainL] at hk ⊢
  by_cases hc : 0 ≤ x ∧ out.contains x = false
  ·rw [if_pos hc] at hk ⊢
   rw [List.length_cons] at hk
   cases k with
   | zero =>
    cases d with
    | zero=>simp [chainL] at hk
    | succ d =>
     rw [chainL] at hk ⊢
     by_cases hc2 : 0 ≤ next x ∧ (out ++ [x]).contains (next x) = false
     ·rw [if_pos hc2]
      simp
     ·rw [if_neg hc2] at hk
      simp at hk
   | succ k=>exact ih (out ++ [x]) (next x) k (by omega)
  ·rw [if_neg hc] at hk
   simp at hk
theorem chain_nodup (next : Int → Int) : ∀ (d : Nat) (out : List Int) (x : Int),(chainL next d out x).Nodup:=by
 intro d
 induction d with
 | zero=>intro out x;exact List.nodup_nil
 | succ d ih =>
  intro out x
  rw [chainL]
  split
  ·refine List.nodup_cons.2 ⟨fun hm=>?_,ih _ _⟩
   have:=(chain_mem next d (out ++ [x]) (next x) x hm).2
   rw [show (out ++ [x]).contains x = true by rw [List.contains_iff_mem];simp] at this
   cases this
  ·exact List.nodup_nil
theorem chain_last (next : Int → Int) (N : Nat) (hn : ∀ x : Int,0 ≤ x → x < (N : Int) → next x < (N : Int)) : ∀ (d : Nat) (out : List Int) (x : Int),x < (N : Int) → restN N out ≤ d → chainL next d out x ≠ [] → next (lastI (chainL next d out x)) < 0 ∨ next (lastI (chainL next d out x)) ∈ out ++ chainL next d out x:=by
 intro d
 induction d with
 | zero=>intro out x _ _ hne;exact absurd rfl hne
 | succ d ih =>
  intro out x hx hr hne
  rw [chainL] at hne ⊢
  by_cases hc : 0 ≤ x ∧ out.contains x = false
  ·rw [if_pos hc] at hne ⊢
   have hlt:=restN_lt hc.1 hx hc.2
   cases hq : chainL next d (out ++ [x]) (next x) with
   | nil =>
    have e : lastI [x] = x:=by simp [lastI]
    rw [e]
    by_cases h0 : 0 ≤ next x
    ·right
     have hin : (out ++ [x]).contains (next x) = true:=by
      cases hz : (out ++ [x]).contains (next x) with
      | true=>rfl
      | false =>
       cases d with
       | zero =>
        have:=restN_zero (n:=N) (out:=out ++ [x]) h0 (hn x hc.1 hx) (by omega)
        rw [this] at hz
        cases hz
       | succ d =>
        rw [chainL,if_pos ⟨h0,hz⟩] at hq
        cases hq
     rwa [List.contains_iff_mem] at hin
    ·left;omega
   | cons z r =>
    rw [lastI_cons,← hq]
    rcases ih (out ++ [x]) (next x) (hn x hc.1 hx) (by omega) (by rw [hq];simp) with h2 | h2
    ·exact Or.inl h2
    ·right
     rw [List.append_assoc] at h2
     exact h2
  ·rw [if_neg hc] at hne
   exact absurd rfl hne
theorem shwL_chain (h : List Fau) (f : Int) : shwL h f = chainL (shwN h) h.length [] f:=by
 unfold shwL
 rw [walkL_chain]
 rfl
section
variable {t : List Cls} {h : List Fau} {f : Int}
theorem shw_rng (hv : vH t h = true) (x : Int) (h0 : 0 ≤ x) (h1 : x < (h.length : Int)) : -1 ≤ shwN h x ∧ shwN h x < (h.length : Int):=fsH_shw (vH_parts hv).1 x h0 h1
theorem shw_head (h0 : 0 ≤ f) (h1 : f < (h.length : Int)) : (shwL h f).getD 0 0 = f:=by
 rw [shwL_chain]
 obtain ⟨n,hn⟩ : ∃ n,h.length = n + 1:=⟨h.length - 1,by omega⟩
 rw [hn,chainL,if_pos ⟨h0,by simp⟩]
 rfl
theorem shw_link (k : Nat) (hk : k + 1 < (shwL h f).length) : (shwL h f).getD (k + 1) 0 = shwN h ((shwL h f).getD k 0):=by
 rw [shwL_chain] at hk ⊢
 exact chain_link _ _ _ _ k hk
theorem shw_new (k : Nat) (hk : k < (shwL h f).length) : ((shwL h f).take k).contains ((shwL h f).getD k 0) = false:=by
 cases hq : ((shwL h f).take k).contains ((shwL h f).getD k 0) with
 | false=>rfl
 | true =>
  rw [List.contains_iff_mem,List.mem_take_iff_getElem] at hq
  obtain ⟨j,hj,e⟩:=hq
  have hnd:=chain_nodup (shwN h) h.length [] f
  rw [← shwL_chain] at hnd
  rw [List.getD_eq_getElem?_getD,List.getElem?_eq_getElem hk] at e
  have:=(List.getElem_inj hnd).1 e
  omega
theorem shw_last (hv : vH t h = true) (h0 : 0 ≤ f) (h1 : f < (h.length : Int)) : shwN h (lastI (shwL h f)) = -1 ∨ (shwL h f).contains (shwN h (lastI (shwL h f))) = true:=by
 have hp:=shwL_pos h f h0 h1
 have hm:=shwL_mem (fun x a b=>(shw_rng hv x a b).2) f h1 _ (lastI_mem hp)
 have hr:=shw_rng hv _ hm.1 hm.2
 have hc:=chain_last (shwN h) h.length (fun x a b=>(shw_rng hv x a b).2) h.length [] f h1 (restN_le _ _)
 rw [← shwL_chain] at hc
 rcases hc (fun hh=>by rw [hh] at hp;simp at hp) with h2 | h2
 ·left;omega
 ·right;rw [List.contains_iff_mem];exact h2
theorem ctx_last (hv : vH t h = true) (h0 : 0 ≤ f) (h1 : f < (h.length : Int)) : ctxN h (lastI (ctxL h f)) = -1:=by
 have hp:=ctxL_pos h f h0 h1
 have hm:=ctxL_mem (fun x a b=>(fsH_ctx (vH_parts hv).1 x a b).2) f h1 _ (lastI_mem hp)
 have hr:=fsH_ctx (vH_parts hv).1 _ hm.1 hm.2
 have:=all_at (vH_parts hv).2.1 f.toNat (by omega)
 unfold endB at this
 rw [show ((f.toNat : Nat) : Int) = f by omega] at this
 have:=of_decide_eq_true this
 omega
theorem ctx_head (h0 : 0 ≤ f) (h1 : f < (h.length : Int)) : (ctxL h f).getD 0 0 = f:=by
 unfold ctxL
 rw [walkL_chain]
 obtain ⟨n,hn⟩ : ∃ n,h.length = n + 1:=⟨h.length - 1,by omega⟩
 rw [hn,chainL,if_pos ⟨h0,by simp⟩]
 rfl
end
theorem hasF_mk {h : List Fau} {f : Int} (h0 : 0 ≤ f) (h1 : f < (h.length : Int)) : hasF h f = true:=by
 unfold hasF
 rw [Bool.and_eq_true,decide_eq_true_eq,decide_eq_true_eq]
 omega
theorem good_mk {t : List Cls} {h : List Fau} {f : Int} (hv : vH t h = true) (h0 : 0 ≤ f) (h1 : f < (h.length : Int)) : (vH t h && hasF h f) = true:=by
 rw [hv,hasF_mk h0 h1]
 rfl
end Go.Proofs.Ytmiholmfbjalfaa.P
namespace Go.Proofs.Ytmiholmfbjalfaa.Pure
open Go.RowKit Go.Proofs.Ytmiholmfbjalfaa.P
open Go.Proofs.YtmiholmfbjalfaaW.PrintWords (rd rdOf wrap_succ wrap_pred wrap_in toL_beq idxP)
set_option linter.unusedVariables false
theorem FnValidHeap : laws_FnValidHeap.Pure:=by
 intro l0 _ _ hw
 refine Ev.out (F:=fun k=>laws_FnValidHeap.f k l0) ?_
 unfold laws_FnValidHeap.f
 by_cases hbig : (l0.length : Int) > 1048576
 ·exact Ev.pos hbig (Ev.const rfl)
 refine Ev.neg hbig ?_
 obtain ⟨t,h,hd,ht,hs,hh⟩:=spec_DrawValidHeap_ev l0 hw
 have hI:=impl_ValidHeap_ev t h hs (by omega)
 have hS:=spec_ValidHeap_ev t h hs (by omega) (by omega)
 cases hv : vH t h with
 | false =>
  rw [hv] at hI hS
  refine Ev.bind hd (Ev.bind (Ev.const hI) (Ev.bind hS (Ev.neg (by simp) (Ev.succ ?_))))
  simp only [laws_FnValidHeap.j0]
  exact Ev.pos (by rfl) (Ev.bind hS (Ev.const rfl))
 | true =>
  rw [hv] at hI hS
  refine Ev.bind hd (Ev.bind (Ev.const hI) (Ev.bind hS (Ev.neg (by simp) (Ev.succ ?_))))
  simp only [laws_FnValidHeap.j0]
  refine Ev.neg (by simp) ?_
  have key : ∀ d j,j + d = h.length → Ev (fun k=>laws_FnValidHeap.l0 k (j : Int) t h) true:=by
   intro d
   induction d with
   | zero =>
    intro j hj
    refine Ev.succ ?_
    simp only [laws_FnValidHeap.l0]
    have h2:=impl_ValidHeap_ev t [] hs (by simp)
    rw [vH_nil (vH_parts hv).2.2.1] at h2
    exact Ev.neg (by omega) (Ev.bind (Ev.const h2) (Ev.const rfl))
   | succ d ih =>
    intro j hj
    refine Ev.succ ?_
    have hC:=impl_ContextChain_ev t h (j : Int) hs (by omega)
    have c1 : ctxP t h (j : Int) = ctxL h (j : Int):=by
     unfold ctxP
     rw [if_pos (good_mk hv (by omega) (by omega))]
    rw [c1] at hC
    have hp:=ctxL_pos h (j : Int) (by omega) (by omega)
    have hn:=ctxL_len h (j : Int)
    have hm:=ctxL_mem (fun x a b=>(fsH_ctx (vH_parts hv).1 x a b).2) (j : Int) (by omega) _ (lastI_mem hp)
    have hl:=ctx_last hv (f:=(j : Int)) (by omega) (by omega)
    have hhd:=ctx_head (h:=h) (f:=(j : Int)) (by omega) (by omega)
    generalize ctxL h (j : Int) = L at hC hp hn hm hl hhd
    have e1 : wrap64 ((L.length : Int) - 1) = ((L.length - 1 : Nat) : Int):=by rw [wrap_in (by omega) (by omega)];omega
    have e2 : rd L ((L.length - 1 : Nat) : Int) = lastI L:=by simp [rd,lastI]
    have e3 : rd L 0 = (j : Int):=by
     have : rd L 0 = L.getD 0 0:=by simp [rd]
     rw [this,hhd]
    have e4 : (rd_T43 h (lastI L)).f3 = -1:=hl
    simp only [laws_FnValidHeap.l0]
    refine Ev.pos (by omega) (Ev.bind (Ev.const hC) ?_)
    rw [e1,e2,e3,e4]
    refine Ev.neg (by omega) (Ev.pos (by omega) (Ev.pos (by omega) (Ev.pos hm.1 (Ev.pos hm.2 (Ev.pos rfl (Ev.pos (by omega) (Ev.pos rfl ?_)))))))
    rw [wrap_succ (i:=(j : Int)) (n:=h.length) (by omega) (by omega) (by omega)]
    exact ih (j + 1) (by omega)
  exact key h.length 0 (by omega)
end Go.Proofs.Ytmiholmfbjalfaa.Pure
