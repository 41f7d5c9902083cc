/- Texts under the proof of FnExactJoinHeaps: helper words, the functions' contracts and the plain laws. No condition. -/
import Derived.Test.YtfhcfhffmblacaaQFnExactJoinHeapsa
import Derived.Test.YtfhcfhffmblacaaQFnExactJoinHeapsb
import Derived.Test.YtfhcfhffmblacaaQFnExactJoinHeapsc
namespace Go.Proofs.Ytfhcfhffmblacaa.P
open Go.RowKit Go.Proofs.YtfhcfhffmblacaaW.PrintWords Go.Proofs.YtfhcfhffmblacaaW.PrintLast Go.Proofs.YtfhcfhffmblacaaW.PrintMore
attribute [local go_sem] max2_int min2_int max_two min_two max_three min_three max_four min_four
set_option linter.unusedVariables false
set_option linter.unusedSimpArgs false
def impl_JoinHeaps.f (l0_0 : List Cls) (l1_0 l2_0 : List Fau) : Option (List Fau × Bool):=if smT l0_0 = true ∧ (l1_0.length ≤ 2097152 ∧ l2_0.length ≤ 2097152) then some (joiP l0_0 l1_0 l2_0) else none
set_option maxHeartbeats 4000000 in
set_option maxRecDepth 100000 in
theorem impl_JoinHeaps.calls (A0_0 : Option Addr) (c0_0 : Nat) (l0_0 : List (S106)) (A1_0 : Option Addr) (c1_0 : Nat) (l1_0 : List (S79)) (A2_0 : Option Addr) (c2_0 : Nat) (l2_0 : List (S79)) (r1 : List (S79)) (r2 : Bool) (w : World) (hr0_0 : Kd.C k106 w A0_0 l0_0.length l0_0) (hc0_0 : l0_0.length ≤ c0_0) (hr1_0 : Kd.C k79 w A1_0 l1_0.length l1_0) (hc1_0 : l1_0.length ≤ c1_0) (hr2_0 : Kd.C k79 w A2_0 l2_0.length l2_0) (hc2_0 : l2_0.length ≤ c2_0) (h : impl_JoinHeaps.f l0_0 l1_0 l2_0 = some (r1,r2)) :
  Calls Try.prog 45 #[.agg #[.slice A0_0 l0_0.length c0_0],.agg #[.slice A1_0 l1_0.length c1_0],.agg #[.slice A2_0 l2_0.length c2_0]] w fun e w'=>∃ v0_ : Value,e = .returned (.tuple #[.agg #[v0_],.bool r2]) ∧ Kd.R k79 79 w' w.heap.size (fun _=>True) v0_ r1 ∧ Below w.heap.size w w':=by
 have hu33:=Try.underlying33
 have hu37:=Try.underlying37
 have hu79:=Try.underlying79
 have hsm : smT l0_0 = true ∧ (l1_0.length ≤ 2097152 ∧ l2_0.length ≤ 2097152):=by
  apply Classical.byContradiction
  intro hn
  rw [impl_JoinHeaps.f,if_neg hn] at h
  cases h
 rw [impl_JoinHeaps.f,if_pos hsm] at h
 have hR:=Option.some.inj h
 clear h
 have HV1:=a0_ (fun (W : World) (hb : Below w.heap.size w W)=>impl_ValidHeap.calls A0_0 c0_0 l0_0 A1_0 c1_0 l1_0 (vH l0_0 l1_0) W (Kd.C_below hr0_0 hb) hc0_0 (Kd.C_below hr1_0 hb) hc1_0 (impl_ValidHeap_ev l0_0 l1_0 hsm.1 hsm.2.1))
 have HV2:=a0_ (fun (W : World) (hb : Below w.heap.size w W)=>impl_ValidHeap.calls A0_0 c0_0 l0_0 A2_0 c2_0 l2_0 (vH l0_0 l2_0) W (Kd.C_below hr0_0 hb) hc0_0 (Kd.C_below hr2_0 hb) hc2_0 (impl_ValidHeap_ev l0_0 l2_0 hsm.1 hsm.2.2))
 have HCL:=a0_ (fun (W : World) (hb : Below w.heap.size w W)=>slices_Clone_Fault.calls A1_0 c1_0 l1_0 l1_0 W (Kd.C_below hr1_0 hb) hc1_0 (by rw [slices_Clone_Fault.f,if_pos (by omega)]))
 have HR2:=a0_ hr2_0
 have BT:=a0_ (blk_alloc (blk_alloc (heap_old2 w (.cells #[.slice A0_0 l0_0.length c0_0] 33) (.cells #[.slice A1_0 l1_0.length c1_0] 37)) (.cells #[.slice A2_0 l2_0.length c2_0] 37)) (.cells #[.slice none 0 0] 37))
 have BH:=a0_ (blk_alloc (blk_alloc (heap_new2 w (.cells #[.slice A0_0 l0_0.length c0_0] 33) (.cells #[.slice A1_0 l1_0.length c1_0] 37)) (.cells #[.slice A2_0 l2_0.length c2_0] 37)) (.cells #[.slice none 0 0] 37))
 have BG:=a0_ (show ((((w.alloc (.cells #[.slice A0_0 l0_0.length c0_0] 33)).alloc (.cells #[.slice A1_0 l1_0.length c1_0] 37)).alloc (.cells #[.slice A2_0 l2_0.length c2_0] 37)).alloc (.cells #[.slice none 0 0] 37)).heap[w.heap.size + 1 + 1]? = some (.cells #[.slice A2_0 l2_0.length c2_0] 37 (0,0)) by
  have:=blk_alloc (heap_new1 ((w.alloc (.cells #[.slice A0_0 l0_0.length c0_0] 33)).alloc (.cells #[.slice A1_0 l1_0.length c1_0] 37)) (.cells #[.slice A2_0 l2_0.length c2_0] 37)) (.cells #[.slice none 0 0] 37)
  simpa using this)
 have BZ:=a0_ (show ((((w.alloc (.cells #[.slice A0_0 l0_0.length c0_0] 33)).alloc (.cells #[.slice A1_0 l1_0.length c1_0] 37)).alloc (.cells #[.slice A2_0 l2_0.length c2_0] 37)).alloc (.cells #[.slice none 0 0] 37)).heap[w.heap.size + 1 + 1 + 1]? = some (.cells #[.slice none 0 0] 37 (0,0)) by
  have:=heap_new1 (((w.alloc (.cells #[.slice A0_0 l0_0.length c0_0] 33)).alloc (.cells #[.slice A1_0 l1_0.length c1_0] 37)).alloc (.cells #[.slice A2_0 l2_0.length c2_0] 37)) (.cells #[.slice none 0 0] 37)
  simpa using this)
 have HB:=a0_ (below_alloc (below_alloc (below2 w (.cells #[.slice A0_0 l0_0.length c0_0] 33) (.cells #[.slice A1_0 l1_0.length c1_0] 37)) (.cells #[.slice A2_0 l2_0.length c2_0] 37)) (.cells #[.slice none 0 0] 37))
 clear hr0_0 hr1_0 hr2_0 hsm
 go_enter Try.func45,Try.ntmps45
 go_upto_region 1 with (fail)
 generalize ((((w.alloc (.cells #[.slice A0_0 l0_0.length c0_0] 33)).alloc (.cells #[.slice A1_0 l1_0.length c1_0] 37)).alloc (.cells #[.slice A2_0 l2_0.length c2_0] 37)).alloc (.cells #[.slice none 0 0] 37)) = W0 at BT BH BG BZ HB ⊢
 have hct:=(blk_cell BT.out 0).trans rfl
 have hch:=(blk_cell BH.out 0).trans rfl
 have hcg:=(blk_cell BG.out 0).trans rfl
 have hcz : W0.cell? ⟨w.heap.size + 1 + 1 + 1,0,none⟩ = some (.slice none 0 0):=(blk_cell BZ.out 0).trans rfl
 have hfz:=blk_frozen BZ.out 0
 cases hq1 : vH l0_0 l1_0 with
 | false =>
  rw [joiP_no (by rw [hq1];simp)] at hR
  rw [hq1] at HV1
  clear hq1
  obtain ⟨rfl,rfl⟩:=Prod.mk.inj hR
  go_wp2_with (first | (go_at_call 19;(with_reducible refine (HV1.out _ HB.out).mono ?_);rintro e w' ⟨rfl,hb'⟩;replace BT:=a0_ (blk_keptB BT.out hb');replace BH:=a0_ (blk_keptB BH.out hb');replace BG:=a0_ (blk_keptB BG.out hb');replace BZ:=a0_ (blk_keptB BZ.out hb');replace HB:=a0_ (below_step HB.out hb');clear hb' hct hch hcg hcz hfz;have hct:=(blk_cell BT.out 0).trans rfl;have hch:=(blk_cell BH.out 0).trans rfl;have hcg:=(blk_cell BG.out 0).trans rfl;have hcz : w'.cell? ⟨w.heap.size + 1 + 1 + 1,0,none⟩ = some (.slice none 0 0):=(blk_cell BZ.out 0).trans rfl;have hfz:=blk_frozen BZ.out 0) | (go_at_call 19;(with_reducible refine (HV2.out _ HB.out).mono ?_);rintro e w' ⟨rfl,hb'⟩;replace BT:=a0_ (blk_keptB BT.out hb');replace BH:=a0_ (blk_keptB BH.out hb');replace BG:=a0_ (blk_keptB BG.out hb');replace BZ:=a0_ (blk_keptB BZ.out hb');replace HB:=a0_ (below_step HB.out hb');clear hb' hct hch hcg hcz hfz;have hct:=(blk_cell BT.out 0).trans rfl;have hch:=(blk_cell BH.out 0).trans rfl;have hcg:=(blk_cell BG.out 0).trans rfl;have hcz : w'.cell? ⟨w.heap.size + 1 + 1 + 1,0,none⟩ = some (.slice none 0 0):=(blk_cell BZ.out 0).trans rfl;have hfz:=blk_frozen BZ.out 0))
  refine bodyPost_ret (results_ct rfl _ _ (w.heap.size + 1 + 1 + 1) 37 #[.slice none 0 0] (0,0) _ rfl (blk_put BZ.out 0 _ rfl) Try.underlying37 rfl (by kernel_rfl)) rfl ?_
  exact ⟨_,rfl,Kd.R_nil _ _ _ _ _,below_set HB.out (by omega)⟩
 | true =>
  cases hq2 : vH l0_0 l2_0 with
  | false =>
   rw [joiP_no (by rw [hq2];simp)] at hR
   rw [hq1] at HV1
   rw [hq2] at HV2
   clear hq1 hq2
   obtain ⟨rfl,rfl⟩:=Prod.mk.inj hR
   go_wp2_with (first | (go_at_call 19;(with_reducible refine (HV1.out _ HB.out).mono ?_);rintro e w' ⟨rfl,hb'⟩;replace BT:=a0_ (blk_keptB BT.out hb');replace BH:=a0_ (blk_keptB BH.out hb');replace BG:=a0_ (blk_keptB BG.out hb');replace BZ:=a0_ (blk_keptB BZ.out hb');replace HB:=a0_ (below_step HB.out hb');clear hb' hct hch hcg hcz hfz;have hct:=(blk_cell BT.out 0).trans rfl;have hch:=(blk_cell BH.out 0).trans rfl;have hcg:=(blk_cell BG.out 0).trans rfl;have hcz : w'.cell? ⟨w.heap.size + 1 + 1 + 1,0,none⟩ = some (.slice none 0 0):=(blk_cell BZ.out 0).trans rfl;have hfz:=blk_frozen BZ.out 0) | (go_at_call 19;(with_reducible refine (HV2.out _ HB.out).mono ?_);rintro e w' ⟨rfl,hb'⟩;replace BT:=a0_ (blk_keptB BT.out hb');replace BH:=a0_ (blk_keptB BH.out hb');replace BG:=a0_ (blk_keptB BG.out hb');replace BZ:=a0_ (blk_keptB BZ.out hb');replace HB:=a0_ (below_step HB.out hb');clear hb' hct hch hcg hcz hfz;have hct:=(blk_cell BT.out 0).trans rfl;have hch:=(blk_cell BH.out 0).trans rfl;have hcg:=(blk_cell BG.out 0).trans rfl;have hcz : w'.cell? ⟨w.heap.size + 1 + 1 + 1,0,none⟩ = some (.slice none 0 0):=(blk_cell BZ.out 0).trans rfl;have hfz:=blk_frozen BZ.out 0))
   refine bodyPost_ret (results_ct rfl _ _ (w.heap.size + 1 + 1 + 1) 37 #[.slice none 0 0] (0,0) _ rfl (blk_put BZ.out 0 _ rfl) Try.underlying37 rfl (by kernel_rfl)) rfl ?_
   exact ⟨_,rfl,Kd.R_nil _ _ _ _ _,below_set HB.out (by omega)⟩
  | true =>
   have hp1:=vH_parts hq1
   have hp2:=vH_parts hq2
   rw [joiP,hq1,hq2] at hR
   rw [hq1] at HV1
   rw [hq2] at HV2
   have hl1:=hp1.2.2.2
   have hl2:=hp2.2.2.2
   have HFS:=a0_ hp2.1
   clear hq1 hq2 hp1 hp2
   go_upto_region 4 with (first | (go_at_call 19;(with_reducible refine (HV1.out _ HB.out).mono ?_);rintro e w' ⟨rfl,hb'⟩;replace BT:=a0_ (blk_keptB BT.out hb');replace BH:=a0_ (blk_keptB BH.out hb');replace BG:=a0_ (blk_keptB BG.out hb');replace BZ:=a0_ (blk_keptB BZ.out hb');replace HB:=a0_ (below_step HB.out hb');clear hb' hct hch hcg hcz hfz;have hct:=(blk_cell BT.out 0).trans rfl;have hch:=(blk_cell BH.out 0).trans rfl;have hcg:=(blk_cell BG.out 0).trans rfl;have hcz : w'.cell? ⟨w.heap.size + 1 + 1 + 1,0,none⟩ = some (.slice none 0 0):=(blk_cell BZ.out 0).trans rfl;have hfz:=blk_frozen BZ.out 0) | (go_at_call 19;(with_reducible refine (HV2.out _ HB.out).mono ?_);rintro e w' ⟨rfl,hb'⟩;replace BT:=a0_ (blk_keptB BT.out hb');replace BH:=a0_ (blk_keptB BH.out hb');replace BG:=a0_ (blk_keptB BG.out hb');replace BZ:=a0_ (blk_keptB BZ.out hb');replace HB:=a0_ (below_step HB.out hb');clear hb' hct hch hcg hcz hfz;have hct:=(blk_cell BT.out 0).trans rfl;have hch:=(blk_cell BH.out 0).trans rfl;have hcg:=(blk_cell BG.out 0).trans rfl;have hcz : w'.cell? ⟨w.heap.size + 1 + 1 + 1,0,none⟩ = some (.slice none 0 0):=(blk_cell BZ.out 0).trans rfl;have hfz:=blk_frozen BZ.out 0) | (go_at_call 82;refine (HCL.out _ HB.out).mono ?_;rintro e w' ⟨v0,rfl,ho4,hb'⟩;have HO4:=a0_ (Kd.R_lower ho4 (below_size HB.out));replace BT:=a0_ (blk_keptB BT.out hb');replace BH:=a0_ (blk_keptB BH.out hb');replace BG:=a0_ (blk_keptB BG.out hb');replace BZ:=a0_ (blk_keptB BZ.out hb');replace HB:=a0_ (below_step HB.out hb');clear hb' hct hch hcg hcz hfz;have hct:=(blk_cell BT.out 0).trans rfl;have hch:=(blk_cell BH.out 0).trans rfl;have hcg:=(blk_cell BG.out 0).trans rfl;have hcz : w'.cell? ⟨w.heap.size + 1 + 1 + 1,0,none⟩ = some (.slice none 0 0):=(blk_cell BZ.out 0).trans rfl;have hfz:=blk_frozen BZ.out 0))
   go_wp2
   go_loopg [8,30] l2_0.length (fun gg s8 s30 wr=>∃ kk : Nat,kk ≤ l2_0.length ∧ l2_0.length - kk ≤ gg ∧ s30 = .int .i64 kk ∧ Aside0 (Kd.R k79 79 wr w.heap.size (fun _=>True) s8 (l1_0 ++ (l2_0.take kk).map (shF l1_0.length))) ∧ Aside0 (Below w.heap.size w wr) ∧ Aside0 (wr.heap[w.heap.size + 1]? = some (.cells #[.slice A1_0 l1_0.length c1_0] 37 (0,0))) ∧ Aside0 (wr.heap[w.heap.size + 1 + 1 + 1]? = some (.cells #[.slice none 0 0] 37 (0,0))))
   case atStart=>exact ⟨0,Nat.zero_le _,by omega,rfl,⟨by simpa using HO4.out⟩,HB,BH,BZ⟩
   case round =>
    clear HB BH BZ BT BG HO4 hct hch hcg hcz hfz
    obtain ⟨kk,hkk,hg,rfl,HO,HB,BH,BZ⟩:=hrel
    by_cases hlt : kk < l2_0.length
    ·have hltz : (kk : Int) < (l2_0.length : Int):=by omega
     obtain ⟨ad,ea,hx0,hx1,hx2,hx3,hx4⟩:=at_T79 HR2.out (kk : Int) (by omega) (by omega)
     cases ea
     have hrd : rd_T79 l2_0 (kk : Int) = l2_0[kk]:=by simp [rd_T79,hlt]
     rw [hrd] at hx0 hx1 hx2 hx3 hx4
     rw [Int.toNat_natCast] at hx0 hx1 hx2 hx3 hx4
     replace hx0:=(HB.out.cell (World.block_lt_of_cell? w _ hx0)).trans hx0
     replace hx1:=(HB.out.cell (World.block_lt_of_cell? w _ hx1)).trans hx1
     replace hx2:=(HB.out.cell (World.block_lt_of_cell? w _ hx2)).trans hx2
     replace hx3:=(HB.out.cell (World.block_lt_of_cell? w _ hx3)).trans hx3
     replace hx4:=(HB.out.cell (World.block_lt_of_cell? w _ hx4)).trans hx4
     have hst:=shF_take l1_0 l2_0 kk hlt
     have hlen : (l1_0 ++ (l2_0.take kk).map (shF l1_0.length)).length ≤ 48:=by simp;omega
     have b2:=fsH_cause HFS.out (kk : Int) (by omega) hltz
     have b3:=fsH_ctx HFS.out (kk : Int) (by omega) hltz
     unfold ctxN at b3
     have hgd : l2_0.getD (kk : Int).toNat z79 = l2_0[kk]:=by simp [hlt]
     rw [hgd] at b2 b3
     clear hrd hgd
     generalize l1_0 ++ (l2_0.take kk).map (shF l1_0.length) = acc at HO hst hlen
     generalize l2_0[kk] = y at hx0 hx1 hx2 hx3 hx4 hst b2 b3
     obtain ⟨y0,y1,y2,y3,y4⟩:=y
     simp only at b2 b3
     go_upto_region 7 with (fail)
     have HB1:=a0_ (below_alloc HB.out (.cells #[.int .i64 y0,.int .i64 y1,.int .i64 y2,.int .i64 y3,.bool y4] 79))
     have BH1:=a0_ (blk_alloc BH.out (.cells #[.int .i64 y0,.int .i64 y1,.int .i64 y2,.int .i64 y3,.bool y4] 79))
     have BZ1:=a0_ (blk_alloc BZ.out (.cells #[.int .i64 y0,.int .i64 y1,.int .i64 y2,.int .i64 y3,.bool y4] 79))
     have BY:=a0_ (heap_new1 wr (.cells #[.int .i64 y0,.int .i64 y1,.int .i64 y2,.int .i64 y3,.bool y4] 79))
     have HO1:=a0_ (Kd.R_mono (Kd.R_alloc (Kd.R_elderB HO.out wr.heap.size (Nat.le_refl _)) (.cells #[.int .i64 y0,.int .i64 y1,.int .i64 y2,.int .i64 y3,.bool y4] 79)) (fun _ hk=>hk.2))
     have GY:=a0_ (below_size HB.out)
     have NH:=a0_ (Nat.ne_of_lt (blk_lt BH.out))
     have NZ:=a0_ (Nat.ne_of_lt (blk_lt BZ.out))
     clear HB BH BZ HO hx0 hx1 hx2 hx3 hx4
     generalize wr.alloc (.cells #[.int .i64 y0,.int .i64 y1,.int .i64 y2,.int .i64 y3,.bool y4] 79) = W1 at HB1 BH1 BZ1 BY HO1 ⊢
     generalize wr.heap.size = gb at BY GY HO1 NH NZ ⊢
     have NS:=a0_ (Nat.ne_of_gt (blk_lt BY.out))
     go_wp2
     go_loopg [38] 2 (fun gg s38 wi=>∃ jj : Nat,jj ≤ 2 ∧ 2 - jj ≤ gg ∧ s38 = .int .i64 jj ∧ Aside0 (wi.heap[gb]? = some (.cells #[.int .i64 y0,.int .i64 y1,.int .i64 (if 1 ≤ jj then shI l1_0.length y2 else y2),.int .i64 (if 2 ≤ jj then shI l1_0.length y3 else y3),.bool y4] 79 (0,0))) ∧ Aside0 (wi.heap[W1.heap.size]? = some (.cells #[.pointer (some ⟨gb,2,none⟩),.pointer (some ⟨gb,3,none⟩)] 98 (0,0))) ∧ Aside0 (Kd.R k79 79 wi w.heap.size (fun k_=>k_ ≠ gb) u8 acc) ∧ Aside0 (Below w.heap.size w wi) ∧ Aside0 (wi.heap[w.heap.size + 1]? = some (.cells #[.slice A1_0 l1_0.length c1_0] 37 (0,0))) ∧ Aside0 (wi.heap[w.heap.size + 1 + 1 + 1]? = some (.cells #[.slice none 0 0] 37 (0,0))))
     case atStart=>exact ⟨0,by omega,by omega,rfl,⟨by simpa using blk_alloc BY.out _⟩,⟨heap_new1 W1 _⟩,⟨Kd.R_alloc HO1.out _⟩,⟨below_alloc HB1.out _⟩,⟨blk_alloc BH1.out _⟩,⟨blk_alloc BZ1.out _⟩⟩
     case round =>
      clear HB1 BH1 BZ1 BY HO1
      obtain ⟨jj,hjj,hgg,rfl,BY,BS,HO,HB,BH,BZ⟩:=hrel
      have hch : wr.cell? ⟨w.heap.size + 1,0,none⟩ = some (.slice A1_0 l1_0.length c1_0):=(blk_cell BH.out 0).trans rfl
      rcases (by omega : jj = 0 ∨ jj = 1 ∨ jj = 2) with rfl | rfl | rfl
      ·replace BY:=a0_ (show wr.heap[gb]? = some (.cells #[.int .i64 y0,.int .i64 y1,.int .i64 y2,.int .i64 y3,.bool y4] 79 (0,0)) from by simpa using BY.out)
       have hps : wr.cell? ⟨W1.heap.size,0,none⟩ = some (.pointer (some ⟨gb,2,none⟩)):=(blk_cell BS.out 0).trans rfl
       have hv : wr.cell? ⟨gb,2,none⟩ = some (.int .i64 y2):=(blk_cell BY.out 2).trans rfl
       have hfv:=blk_frozen BY.out 2
       by_cases hd : 0 ≤ y2
       ·have hdd : decide (0 ≤ y2) = true:=decide_eq_true hd
        have o2:=wrap_in (i:=y2 + (l1_0.length : Int)) (by omega) (by omega)
        go_upto_region 11 with (fail)
        have BY5:=blk_drew BY.out
        have BH5:=blk_drew BH.out
        have BZ5:=blk_drew BZ.out
        have BS5:=blk_drew BS.out
        have HB5:=below_drew HB.out
        have HO5:=Kd.R_drew HO.out
        clear BY BH BZ BS HB HO hch hv hfv hps
        refine start_ (n:=9) (S:=fun w'=>w'.cell? ⟨gb,2,none⟩ = some (.int .i64 y2) ∧ w'.cell? ⟨w.heap.size + 1,0,none⟩ = some (.slice A1_0 l1_0.length c1_0)) (ds:=[8]) #[false,false,false,false,false,false,false,false,false] (by kernel_rfl) rfl rfl ⟨(blk_cell BY5 2).trans rfl,(blk_cell BH5 0).trans rfl⟩ (fun hHeld=>?_)
        generalize wr.drew = W6 at BY5 BH5 BZ5 BS5 HB5 HO5 hHeld ⊢
        refine pure_ (i:=0) (N:=some 46) (v:=?_) (a':=?_) #[true,false,false,false,false,false,false,false,false] rfl rfl (by kernel_rfl) (fun _ _ _ h=>h) (Or.inl ⟨by rfl,?_⟩) ?_ ?_
        rotate_left
        ·intro w'
         go_simp
         with_reducible rfl
        rotate_left
        ·simp only [Act.put,s1_,s2_,s3_,i64_w,i32_w]
         rfl
        refine pure_ (i:=3) (N:=some 49) (v:=?_) (a':=?_) #[true,false,false,true,false,false,false,false,false] rfl rfl (by kernel_rfl) (fun _ _ _ h=>h) (Or.inl ⟨by rfl,?_⟩) ?_ ?_
        rotate_left
        ·intro w'
         go_simp
         with_reducible rfl
        rotate_left
        ·simp only [Act.put,s1_,s2_,s3_,i64_w,i32_w]
         rfl
        refine pure_ (i:=1) (N:=some 47) (v:=?_) (a':=?_) #[true,true,false,true,false,false,false,false,false] rfl rfl (by kernel_rfl) (fun _ _ _ h=>h) (Or.inl ⟨by rfl,?_⟩) ?_ ?_
        rotate_left
        ·intro w'
         go_simp
         with_reducible rfl
        rotate_left
        ·simp only [Act.put,s1_,s2_,s3_,i64_w,i32_w]
         rfl
        refine take_ (i:=2) (N:=some 48) (v:=?_) (a':=?_) #[true,true,true,true,false,false,false,false,false] rfl rfl (by kernel_rfl) (fun _ _ _ h=>h) (Or.inl ⟨by rfl,?_⟩) hHeld ?_ ?_
        rotate_left
        ·rintro w' ⟨s0,s1⟩
         go_simp
         with_reducible rfl
        rotate_left
        ·simp only [Act.put,s1_,s2_,s3_,i64_w,i32_w]
         rfl
        refine take_ (i:=4) (N:=some 50) (v:=?_) (a':=?_) #[true,true,true,true,true,false,false,false,false] rfl rfl (by kernel_rfl) (fun _ _ _ h=>h) (Or.inl ⟨by rfl,?_⟩) hHeld ?_ ?_
        rotate_left
        ·rintro w' ⟨s0,s1⟩
         go_simp
         with_reducible rfl
        rotate_left
        ·simp only [Act.put,s1_,s2_,s3_,i64_w,i32_w]
         rfl
        refine pure_ (i:=5) (N:=some 51) (v:=?_) (a':=?_) #[true,true,true,true,true,true,false,false,false] rfl rfl (by kernel_rfl) (fun _ _ _ h=>h) (Or.inl ⟨by rfl,?_⟩) ?_ ?_
        rotate_left
        ·intro w'
         go_simp
         with_reducible rfl
        rotate_left
        ·simp only [Act.put,s1_,s2_,s3_,i64_w,i32_w]
         rfl
        refine pure_ (i:=6) (N:=some 52) (v:=?_) (a':=?_) #[true,true,true,true,true,true,true,false,false] rfl rfl (by kernel_rfl) (fun _ _ _ h=>h) (Or.inl ⟨by rfl,?_⟩) ?_ ?_
        rotate_left
        ·intro w'
         go_simp
         with_reducible rfl
        rotate_left
        ·simp only [Act.put,s1_,s2_,s3_,i64_w,i32_w]
         rfl
        refine pure_ (i:=7) (N:=some 53) (v:=?_) (a':=?_) #[true,true,true,true,true,true,true,true,false] rfl rfl (by kernel_rfl) (fun _ _ _ h=>h) (Or.inl ⟨by rfl,?_⟩) ?_ ?_
        rotate_left
        ·intro w'
         go_simp
         with_reducible rfl
        rotate_left
        ·simp only [Act.put,s1_,s2_,s3_,i64_w,i32_w]
         rfl
        have hv : W6.cell? ⟨gb,2,none⟩ = some (.int .i64 y2):=(blk_cell BY5 2).trans rfl
        have hfv:=blk_frozen BY5 2
        refine last_ (i:=8) (N:=none) #[true,true,true,true,true,true,true,true,true] rfl rfl (by kernel_rfl) (by decide) (fun K hK=>?_)
        refine skip_ (w1:=W6.setCell ⟨gb,2,none⟩ (.int .i64 (y2 + (l1_0.length : Int)))) (by rfl) rfl ?hrun9 ?_
        case hrun9=>first | (go_simp;done) | (go_simp;rfl)
        refine hK.out _ _ ?_
        clear hK K hHeld hv hfv
        refine done_ (by kernel_rfl) ?_
        have BY:=a0_ (blk_put (cs':=#[.int .i64 y0,.int .i64 y1,.int .i64 (y2 + (l1_0.length : Int)),.int .i64 y3,.bool y4]) BY5 2 (.int .i64 (y2 + (l1_0.length : Int))) rfl)
        have BH:=a0_ (blk_far (p:=⟨gb,2,none⟩) BH5 NH.out (.int .i64 (y2 + (l1_0.length : Int))))
        have BZ:=a0_ (blk_far (p:=⟨gb,2,none⟩) BZ5 NZ.out (.int .i64 (y2 + (l1_0.length : Int))))
        have BS:=a0_ (blk_far (p:=⟨gb,2,none⟩) BS5 NS.out (.int .i64 (y2 + (l1_0.length : Int))))
        have HB:=a0_ (below_set (j:=2) (v:=.int .i64 (y2 + (l1_0.length : Int))) HB5 GY.out)
        have HO:=a0_ (Kd.R_far (p:=⟨gb,2,none⟩) HO5 (fun _ hk=>hk) (.int .i64 (y2 + (l1_0.length : Int))))
        clear BY5 BH5 BZ5 BS5 HB5 HO5
        generalize W6.setCell ⟨gb,2,none⟩ (.int .i64 (y2 + (l1_0.length : Int))) = W7 at BY BH BZ BS HB HO ⊢
        go_wp2
        go_roundg 1
        case measure=>omega
        case rel=>exact ⟨1,by omega,by omega,by go_num,⟨by have:=BY.out;have hs : shI l1_0.length y2 = y2 + (l1_0.length : Int):=if_pos (by omega);simpa [hs] using this⟩,BS,HO,HB,BH,BZ⟩
       ·have hdd : decide (0 ≤ y2) = false:=decide_eq_false hd
        go_wp2
        go_roundg 1
        case measure=>omega
        case rel=>exact ⟨1,by omega,by omega,by go_num,⟨by have:=BY.out;have hs : shI l1_0.length y2 = y2:=if_neg (by omega);simpa [hs] using this⟩,BS,HO,HB,BH,BZ⟩
      ·replace BY:=a0_ (show wr.heap[gb]? = some (.cells #[.int .i64 y0,.int .i64 y1,.int .i64 (shI l1_0.length y2),.int .i64 y3,.bool y4] 79 (0,0)) from by simpa using BY.out)
       have hps : wr.cell? ⟨W1.heap.size,1,none⟩ = some (.pointer (some ⟨gb,3,none⟩)):=(blk_cell BS.out 1).trans rfl
       have hv : wr.cell? ⟨gb,3,none⟩ = some (.int .i64 y3):=(blk_cell BY.out 3).trans rfl
       have hfv:=blk_frozen BY.out 3
       by_cases hd : 0 ≤ y3
       ·have hdd : decide (0 ≤ y3) = true:=decide_eq_true hd
        have o2:=wrap_in (i:=y3 + (l1_0.length : Int)) (by omega) (by omega)
        go_upto_region 11 with (fail)
        have BY5:=blk_drew BY.out
        have BH5:=blk_drew BH.out
        have BZ5:=blk_drew BZ.out
        have BS5:=blk_drew BS.out
        have HB5:=below_drew HB.out
        have HO5:=Kd.R_drew HO.out
        clear BY BH BZ BS HB HO hch hv hfv hps
        refine start_ (n:=9) (S:=fun w'=>w'.cell? ⟨gb,3,none⟩ = some (.int .i64 y3) ∧ w'.cell? ⟨w.heap.size + 1,0,none⟩ = some (.slice A1_0 l1_0.length c1_0)) (ds:=[8]) #[false,false,false,false,false,false,false,false,false] (by kernel_rfl) rfl rfl ⟨(blk_cell BY5 3).trans rfl,(blk_cell BH5 0).trans rfl⟩ (fun hHeld=>?_)
        generalize wr.drew = W6 at BY5 BH5 BZ5 BS5 HB5 HO5 hHeld ⊢
        refine pure_ (i:=0) (N:=some 46) (v:=?_) (a':=?_) #[true,false,false,false,false,false,false,false,false] rfl rfl (by kernel_rfl) (fun _ _ _ h=>h) (Or.inl ⟨by rfl,?_⟩) ?_ ?_
        rotate_left
        ·intro w'
         go_simp
         with_reducible rfl
        rotate_left
        ·simp only [Act.put,s1_,s2_,s3_,i64_w,i32_w]
         rfl
        refine pure_ (i:=3) (N:=some 49) (v:=?_) (a':=?_) #[true,false,false,true,false,false,false,false,false] rfl rfl (by kernel_rfl) (fun _ _ _ h=>h) (Or.inl ⟨by rfl,?_⟩) ?_ ?_
        rotate_left
        ·intro w'
         go_simp
         with_reducible rfl
        rotate_left
        ·simp only [Act.put,s1_,s2_,s3_,i64_w,i32_w]
         rfl
        refine pure_ (i:=1) (N:=some 47) (v:=?_) (a':=?_) #[true,true,false,true,false,false,false,false,false] rfl rfl (by kernel_rfl) (fun _ _ _ h=>h) (Or.inl ⟨by rfl,?_⟩) ?_ ?_
        rotate_left
        ·intro w'
         go_simp
         with_reducible rfl
        rotate_left
        ·simp only [Act.put,s1_,s2_,s3_,i64_w,i32_w]
         rfl
        refine take_ (i:=2) (N:=some 48) (v:=?_) (a':=?_) #[true,true,true,true,false,false,false,false,false] rfl rfl (by kernel_rfl) (fun _ _ _ h=>h) (Or.inl ⟨by rfl,?_⟩) hHeld ?_ ?_
        rotate_left
        ·rintro w' ⟨s0,s1⟩
         go_simp
         with_reducible rfl
        rotate_left
        ·simp only [Act.put,s1_,s2_,s3_,i64_w,i32_w]
         rfl
        refine take_ (i:=4) (N:=some 50) (v:=?_) (a':=?_) #[true,true,true,true,true,false,false,false,false] rfl rfl (by kernel_rfl) (fun _ _ _ h=>h) (Or.inl ⟨by rfl,?_⟩) hHeld ?_ ?_
        rotate_left
        ·rintro w' ⟨s0,s1⟩
         go_simp
         with_reducible rfl
        rotate_left
        ·simp only [Act.put,s1_,s2_,s3_,i64_w,i32_w]
         rfl
        refine pure_ (i:=5) (N:=some 51) (v:=?_) (a':=?_) #[true,true,true,true,true,true,false,false,false] rfl rfl (by kernel_rfl) (fun _ _ _ h=>h) (Or.inl ⟨by rfl,?_⟩) ?_ ?_
        rotate_left
        ·intro w'
         go_simp
         with_reducible rfl
        rotate_left
        ·simp only [Act.put,s1_,s2_,s3_,i64_w,i32_w]
         rfl
        refine pure_ (i:=6) (N:=some 52) (v:=?_) (a':=?_) #[true,true,true,true,true,true,true,false,false] rfl rfl (by kernel_rfl) (fun _ _ _ h=>h) (Or.inl ⟨by rfl,?_⟩) ?_ ?_
        rotate_left
        ·intro w'
         go_simp
         with_reducible rfl
        rotate_left
        ·simp only [Act.put,s1_,s2_,s3_,i64_w,i32_w]
         rfl
        refine pure_ (i:=7) (N:=some 53) (v:=?_) (a':=?_) #[true,true,true,true,true,true,true,true,false] rfl rfl (by kernel_rfl) (fun _ _ _ h=>h) (Or.inl ⟨by rfl,?_⟩) ?_ ?_
        rotate_left
        ·intro w'
         go_simp
         with_reducible rfl
        rotate_left
        ·simp only [Act.put,s1_,s2_,s3_,i64_w,i32_w]
         rfl
        have hv : W6.cell? ⟨gb,3,none⟩ = some (.int .i64 y3):=(blk_cell BY5 3).trans rfl
        have hfv:=blk_frozen BY5 3
        refine last_ (i:=8) (N:=none) #[true,true,true,true,true,true,true,true,true] rfl rfl (by kernel_rfl) (by decide) (fun K hK=>?_)
        refine skip_ (w1:=W6.setCell ⟨gb,3,none⟩ (.int .i64 (y3 + (l1_0.length : Int)))) (by rfl) rfl ?hrun9 ?_
        case hrun9=>first | (go_simp;done) | (go_simp;rfl)
        refine hK.out _ _ ?_
        clear hK K hHeld hv hfv
        refine done_ (by kernel_rfl) ?_
        have BY:=a0_ (blk_put (cs':=#[.int .i64 y0,.int .i64 y1,.int .i64 (shI l1_0.length y2),.int .i64 (y3 + (l1_0.length : Int)),.bool y4]) BY5 3 (.int .i64 (y3 + (l1_0.length : Int))) rfl)
        have BH:=a0_ (blk_far (p:=⟨gb,3,none⟩) BH5 NH.out (.int .i64 (y3 + (l1_0.length : Int))))
        have BZ:=a0_ (blk_far (p:=⟨gb,3,none⟩) BZ5 NZ.out (.int .i64 (y3 + (l1_0.length : Int))))
        have BS:=a0_ (blk_far (p:=⟨gb,3,none⟩) BS5 NS.out (.int .i64 (y3 + (l1_0.length : Int))))
        have HB:=a0_ (below_set (j:=3) (v:=.int .i64 (y3 + (l1_0.length : Int))) HB5 GY.out)
        have HO:=a0_ (Kd.R_far (p:=⟨gb,3,none⟩) HO5 (fun _ hk=>hk) (.int .i64 (y3 + (l1_0.length : Int))))
        clear BY5 BH5 BZ5 BS5 HB5 HO5
        generalize W6.setCell ⟨gb,3,none⟩ (.int .i64 (y3 + (l1_0.length : Int))) = W7 at BY BH BZ BS HB HO ⊢
        go_wp2
        go_roundg 0
        case measure=>omega
        case rel=>exact ⟨2,by omega,by omega,by go_num,⟨by have:=BY.out;have hs : shI l1_0.length y3 = y3 + (l1_0.length : Int):=if_pos (by omega);simpa [hs] using this⟩,BS,HO,HB,BH,BZ⟩
       ·have hdd : decide (0 ≤ y3) = false:=decide_eq_false hd
        go_wp2
        go_roundg 0
        case measure=>omega
        case rel=>exact ⟨2,by omega,by omega,by go_num,⟨by have:=BY.out;have hs : shI l1_0.length y3 = y3:=if_neg (by omega);simpa [hs] using this⟩,BS,HO,HB,BH,BZ⟩
      ·replace BY:=a0_ (show wr.heap[gb]? = some (.cells #[.int .i64 y0,.int .i64 y1,.int .i64 (shI l1_0.length y2),.int .i64 (shI l1_0.length y3),.bool y4] 79 (0,0)) from by simpa using BY.out)
       have hy0 : wr.cell? ⟨gb,0,none⟩ = some (.int .i64 y0):=(blk_cell BY.out 0).trans rfl
       have hy1 : wr.cell? ⟨gb,1,none⟩ = some (.int .i64 y1):=(blk_cell BY.out 1).trans rfl
       have hy2 : wr.cell? ⟨gb,2,none⟩ = some (.int .i64 (shI l1_0.length y2)):=(blk_cell BY.out 2).trans rfl
       have hy3 : wr.cell? ⟨gb,3,none⟩ = some (.int .i64 (shI l1_0.length y3)):=(blk_cell BY.out 3).trans rfl
       have hy4 : wr.cell? ⟨gb,4,none⟩ = some (.bool y4):=(blk_cell BY.out 4).trans rfl
       go_wp2_with ((with_reducible refine gate_builtin (b:=.append) (xs:=#[.tmp 55,.tmp 57]) rfl ?_);at_builtin;refine Kd.R_append k79 (w0:=w) w.heap.size rfl (.tmp 55) (.tmp 57) 35 79 (.agg #[(.int .i64 0),(.int .i64 0),(.int .i64 0),(.int .i64 0),(.bool false)]) 40 rfl Try.underlying35 info79 rfl (by decide) (by omega) u8 acc (⟨y0,y1,shI l1_0.length y2,shI l1_0.length y3,y4⟩ : S79) [.int .i64 y0,.int .i64 y1,.int .i64 (shI l1_0.length y2),.int .i64 (shI l1_0.length y3),.bool y4] (fun k_=>k_ ≠ gb) (fun _=>False) rfl ?aV ?aP (fun _ hk=>hk.elim) ?aF ?aO HB.out (below_size HB.out) (by omega) ?_;(case aV=>first | (go_simp;done) | (go_simp;rfl));(case aP=>exact k79_mkM _ _ _ (⟨y0,y1,shI l1_0.length y2,shI l1_0.length y3,y4⟩ : S79));(case aF=>exact fun k_ hk=>Kd.freshB BY.out k_ hk);(case aO=>exact HO.out);intro v3 w3 ho hb hg3 hat;replace BH:=a0_ (blk_grown BH.out hg3 (Kd.R_ne HO.out BH.out (by decide)));replace BZ:=a0_ (blk_grown BZ.out hg3 (Kd.R_ne HO.out BZ.out (by decide)));have HO3:=a0_ (Kd.R_mono ho (fun _ _=>trivial));replace HB:=a0_ hb;clear ho hb hg3 hat HO BY BS)
       go_roundg (l2_0.length - (kk + 1))
       case measure=>omega
       case rel=>exact ⟨kk + 1,by omega,by omega,by go_num,⟨by rw [hst];exact HO3.out⟩,HB,BH,BZ⟩
    ·have hclip : ∀ l : List Fau,slices_Clip_Fault.f l = some l:=fun l=>by
      unfold slices_Clip_Fault.f
      rw [if_pos (by omega),if_pos (by omega)]
      simp
     have he : l1_0 ++ (l2_0.take kk).map (shF l1_0.length) = joinH l1_0 l2_0:=by rw [List.take_of_length_le (by omega)];rfl
     rw [he] at HO
     clear he
     have hlm : (joinH l1_0 l2_0).length ≤ 2097152:=by rw [joinH_len];omega
     have hltz : ¬ (kk : Int) < (l2_0.length : Int):=by omega
     have hcz : wr.cell? ⟨w.heap.size + 1 + 1 + 1,0,none⟩ = some (.slice none 0 0):=(blk_cell BZ.out 0).trans rfl
     have hfz:=blk_frozen BZ.out 0
     obtain ⟨A8,c8,e8⟩:=Kd.R_slice HO.out
     subst e8
     generalize joinH l1_0 l2_0 = J at HO hlm hR
     by_cases h24 : J.length ≤ 24
     ·rw [if_pos ⟨rfl,h24⟩] at hR
      obtain ⟨rfl,rfl⟩:=Prod.mk.inj hR
      have hgt : ¬ (24 : Int) < (J.length : Int):=by omega
      go_wp2_with (go_at_call 83;refine (slices_Clip_Fault.calls (fun k_=>True ∧ k_ ≠ w.heap.size + 1 + 1 + 1) _ _ _ w _ HB.out (Kd.R_types HO.out BZ.out (by decide)) (hclip J)).mono ?_;rintro e w' ⟨v9,rfl,ho9,hb9,hk9⟩;replace BZ:=a0_ (blk_kept BZ.out hk9 (fun hh=>hh.2 rfl));replace HO:=a0_ (Kd.R_mono ho9 (fun _ _=>trivial));replace HB:=a0_ hb9;obtain ⟨A9,c9,e9⟩:=Kd.R_slice ho9;subst e9;clear ho9 hb9 hk9 hcz hfz;have hcz : w'.cell? ⟨w.heap.size + 1 + 1 + 1,0,none⟩ = some (.slice none 0 0):=(blk_cell BZ.out 0).trans rfl;have hfz:=blk_frozen BZ.out 0)
      have h3:=Kd.R_set HO.out BZ.out (by decide) 0 (.slice A9 J.length c9)
      refine bodyPost_ret (results_ct rfl _ _ (w.heap.size + 1 + 1 + 1) 37 #[.slice A9 J.length c9] (0,0) _ rfl (blk_put BZ.out 0 _ rfl) Try.underlying37 rfl (by kernel_rfl)) rfl ?_
      exact ⟨_,rfl,h3,below_set HB.out (by omega)⟩
     ·rw [if_neg (fun hh=>h24 hh.2)] at hR
      obtain ⟨rfl,rfl⟩:=Prod.mk.inj hR
      have hgt : (24 : Int) < (J.length : Int):=by omega
      go_wp2
      refine bodyPost_ret (results_ct rfl _ _ (w.heap.size + 1 + 1 + 1) 37 #[.slice none 0 0] (0,0) _ rfl (blk_put BZ.out 0 _ rfl) Try.underlying37 rfl (by kernel_rfl)) rfl ?_
      exact ⟨_,rfl,Kd.R_nil _ _ _ _ _,below_set HB.out (by omega)⟩
theorem impl_JoinHeaps_ev (t : List Cls) (h m : List Fau) (hs : smT t = true) (hl : h.length ≤ 2097152) (hm : m.length ≤ 2097152) : impl_JoinHeaps.f t h m = some (joiP t h m):=by rw [impl_JoinHeaps.f,if_pos ⟨hs,hl,hm⟩]
end Go.Proofs.Ytfhcfhffmblacaa.P
namespace Go.Proofs.Ytfhcfhffmblacaa.P
open Go.RowKit Go.Proofs.YtfhcfhffmblacaaW.PrintWords Go.Proofs.YtfhcfhffmblacaaW.PrintLast Go.Proofs.YtfhcfhffmblacaaW.PrintMore
attribute [local go_sem] max2_int min2_int max_two min_two max_three min_three max_four min_four
set_option linter.unusedVariables false
set_option linter.unusedSimpArgs false
mutual
def laws_FnExactJoinHeaps.j0 : Nat → Bool → Bool → Bool → List (S103) → List (S109) → List (S109) → List (S79) → List (S106) → List (S79) → List (S79) → List (S79) → Option (Bool)
 | 0,_,_,_,_,_,_,_,_,_,_,_=>none
 | k + 1,x9,x14,x66,x2000,x3000,x4000,x21000,x25000,x29000,x33000,x38000=>if x66 = true then (some false) else ((laws_toTree.f k x2000).bind fun t39=>((laws_eqTree.f k x25000 t39).bind fun t42=>(if t42 = true then ((laws_toHeap.f k x3000).bind fun t43=>((laws_eqHeap.f k x29000 t43).bind fun t46=>(if t46 = true then ((laws_toHeap.f k x4000).bind fun t47=>((laws_eqHeap.f k x33000 t47).bind fun t50=>(if t50 = true then ((laws_markTree.f k x25000 1).bind fun bt51=>((laws_markHeap.f k x29000 bt51.1).bind fun bt53=>((laws_markHeap.f k x33000 bt53.1).bind fun bt55=>(if bt55.1 < 0 then (laws_FnExactJoinHeaps.j1 k x9 true x2000 x3000 x4000 x21000 x38000) else ((laws_eqHeap.f k x38000 x21000).bind fun t57=>(if t57 = true then (laws_FnExactJoinHeaps.j1 k x9 (x14 != x9) x2000 x3000 x4000 x21000 x38000) else (laws_FnExactJoinHeaps.j1 k x9 true x2000 x3000 x4000 x21000 x38000))))))) else (some false)))) else (some false)))) else (some false))))
def laws_FnExactJoinHeaps.j1 : Nat → Bool → Bool → List (S103) → List (S109) → List (S109) → List (S79) → List (S79) → Option (Bool)
 | 0,_,_,_,_,_,_,_=>none
 | k + 1,x9,x103,x2000,x3000,x4000,x21000,x38000=>if x103 = true then (some false) else ((laws_markHeap.f k x38000 1).bind fun bt58=>((laws_heldHeap.f k bt58.2 1).bind fun t60=>(if t60 < 0 then (some false) else (if t60 = bt58.1 then ((laws_toTree.f k x2000).bind fun t61=>((laws_toHeap.f k x3000).bind fun t64=>((laws_toHeap.f k x4000).bind fun t67=>((impl_JoinHeaps.f t61 t64 t67).bind fun bt70=>((laws_eqHeap.f k bt70.1 x21000).bind fun t75=>(if t75 = true then (laws_FnExactJoinHeaps.j2 k bt58.1 (bt70.2 != x9) bt58.2) else (laws_FnExactJoinHeaps.j2 k bt58.1 true bt58.2))))))) else (some false)))))
def laws_FnExactJoinHeaps.j2 : Nat → Int → Bool → List (S79) → Option (Bool)
 | 0,_,_,_=>none
 | k + 1,x16,x133,x38000=>if x133 = true then (some false) else ((laws_heldHeap.f k x38000 1).bind fun t76=>(if t76 < 0 then (some false) else (if t76 = x16 then (some true) else (some false))))
end
def laws_FnExactJoinHeaps.f (k : Nat) (l0_0 : List (S103)) (l1_0 : List (S109)) (l2_0 : List (S109)) : Option (Bool):=(laws_szTree.f k l0_0 1048576).bind fun t4=>(if t4 < 0 then (some true) else ((laws_szHeap.f l1_0 t4).bind fun t5=>(if t5 < 0 then (some true) else ((laws_szHeap.f l2_0 t5).bind fun t6=>(if t6 < 0 then (some true) else ((laws_toTree.f k l0_0).bind fun t7=>((laws_toHeap.f k l1_0).bind fun t10=>((laws_toHeap.f k l2_0).bind fun t13=>((spec_JoinHeaps.f t7 t10 t13).bind fun bt16=>((laws_toTree.f k l0_0).bind fun t21=>((laws_toHeap.f k l1_0).bind fun t25=>((laws_toHeap.f k l2_0).bind fun t29=>((impl_JoinHeaps.f t21 t25 t29).bind fun bt33=>((laws_eqHeap.f k bt33.1 bt16.1).bind fun t38=>(if t38 = true then (laws_FnExactJoinHeaps.j0 k bt16.2 bt33.2 (bt33.2 != bt16.2) l0_0 l1_0 l2_0 bt16.1 t21 t25 t29 bt33.1) else (laws_FnExactJoinHeaps.j0 k bt16.2 bt33.2 true l0_0 l1_0 l2_0 bt16.1 t21 t25 t29 bt33.1))))))))))))))))
theorem laws_FnExactJoinHeaps.mono_l : ∀ k,(∀ y0 y1 y2 y3 y4 y5 y6 y7 y8 y9 y10,LeO (laws_FnExactJoinHeaps.j0 k y0 y1 y2 y3 y4 y5 y6 y7 y8 y9 y10) (laws_FnExactJoinHeaps.j0 (k + 1) y0 y1 y2 y3 y4 y5 y6 y7 y8 y9 y10)) ∧ (∀ y0 y1 y2 y3 y4 y5 y6,LeO (laws_FnExactJoinHeaps.j1 k y0 y1 y2 y3 y4 y5 y6) (laws_FnExactJoinHeaps.j1 (k + 1) y0 y1 y2 y3 y4 y5 y6)) ∧ (∀ y0 y1 y2,LeO (laws_FnExactJoinHeaps.j2 k y0 y1 y2) (laws_FnExactJoinHeaps.j2 (k + 1) y0 y1 y2))
 | 0=>⟨fun _ _ _ _ _ _ _ _ _ _ _ r h=>by simp [laws_FnExactJoinHeaps.j0] at h,fun _ _ _ _ _ _ _ r h=>by simp [laws_FnExactJoinHeaps.j1] at h,fun _ _ _ r h=>by simp [laws_FnExactJoinHeaps.j2] at h⟩
 | k + 1=>by
  obtain ⟨ih0,ih1,ih2⟩:=laws_FnExactJoinHeaps.mono_l k
  refine ⟨?_,?_,?_⟩
  ·intro y0 y1 y2 y3 y4 y5 y6 y7 y8 y9 y10
   unfold laws_FnExactJoinHeaps.j0
   repeat' first
   | (with_reducible exact ih0 _ _ _ _ _ _ _ _ _ _ _)
   | (with_reducible exact ih1 _ _ _ _ _ _ _)
   | (with_reducible exact ih2 _ _ _)
   | (with_reducible exact laws_eqHeap.mono _ _ _)
   | (with_reducible exact laws_eqTree.mono _ _ _)
   | (with_reducible exact laws_heldHeap.mono _ _ _)
   | (with_reducible exact laws_markHeap.mono _ _ _)
   | (with_reducible exact laws_markTree.mono _ _ _)
   | (with_reducible exact laws_szTree.mono _ _ _)
   | (with_reducible exact laws_toHeap.mono _ _)
   | (with_reducible exact laws_toTree.mono _ _)
   | (with_reducible exact LeO.refl _)
   | (with_reducible exact LeO.none _)
   | (with_reducible refine LeO.ite ?_ ?_)
   | (with_reducible refine LeO.bind ?_ (fun _=>?_))
   | exact ih0 _ _ _ _ _ _ _ _ _ _ _
   | exact ih1 _ _ _ _ _ _ _
   | exact ih2 _ _ _
   | exact laws_eqHeap.mono _ _ _
   | exact laws_eqTree.mono _ _ _
   | exact laws_heldHeap.mono _ _ _
   | exact laws_markHeap.mono _ _ _
   | exact laws_markTree.mono _ _ _
   | exact laws_szTree.mono _ _ _
   | exact laws_toHeap.mono _ _
   | exact laws_toTree.mono _ _
   | exact LeO.none _
   | refine LeO.ite ?_ ?_
   | refine LeO.bind ?_ (fun _=>?_)
  ·intro y0 y1 y2 y3 y4 y5 y6
   unfold laws_FnExactJoinHeaps.j1
   repeat' first
   | (with_reducible exact ih0 _ _ _ _ _ _ _ _ _ _ _)
   | (with_reducible exact ih1 _ _ _ _ _ _ _)
   | (with_reducible exact ih2 _ _ _)
   | (with_reducible exact laws_eqHeap.mono _ _ _)
   | (with_reducible exact laws_eqTree.mono _ _ _)
   | (with_reducible exact laws_heldHeap.mono _ _ _)
   | (with_reducible exact laws_markHeap.mono _ _ _)
   | (with_reducible exact laws_markTree.mono _ _ _)
   | (with_reducible exact laws_szTree.mono _ _ _)
   | (with_reducible exact laws_toHeap.mono _ _)
   | (with_reducible exact laws_toTree.mono _ _)
   | (with_reducible exact LeO.refl _)
   | (with_reducible exact LeO.none _)
   | (with_reducible refine LeO.ite ?_ ?_)
   | (with_reducible refine LeO.bind ?_ (fun _=>?_))
   | exact ih0 _ _ _ _ _ _ _ _ _ _ _
   | exact ih1 _ _ _ _ _ _ _
   | exact ih2 _ _ _
   | exact laws_eqHeap.mono _ _ _
   | exact laws_eqTree.mono _ _ _
   | exact laws_heldHeap.mono _ _ _
   | exact laws_markHeap.mono _ _ _
   | exact laws_markTree.mono _ _ _
   | exact laws_szTree.mono _ _ _
   | exact laws_toHeap.mono _ _
   | exact laws_toTree.mono _ _
   | exact LeO.none _
   | refine LeO.ite ?_ ?_
   | refine LeO.bind ?_ (fun _=>?_)
  ·intro y0 y1 y2
   unfold laws_FnExactJoinHeaps.j2
   repeat' first
   | (with_reducible exact ih0 _ _ _ _ _ _ _ _ _ _ _)
   | (with_reducible exact ih1 _ _ _ _ _ _ _)
   | (with_reducible exact ih2 _ _ _)
   | (with_reducible exact laws_eqHeap.mono _ _ _)
   | (with_reducible exact laws_eqTree.mono _ _ _)
   | (with_reducible exact laws_heldHeap.mono _ _ _)
   | (with_reducible exact laws_markHeap.mono _ _ _)
   | (with_reducible exact laws_markTree.mono _ _ _)
   | (with_reducible exact laws_szTree.mono _ _ _)
   | (with_reducible exact laws_toHeap.mono _ _)
   | (with_reducible exact laws_toTree.mono _ _)
   | (with_reducible exact LeO.refl _)
   | (with_reducible exact LeO.none _)
   | (with_reducible refine LeO.ite ?_ ?_)
   | (with_reducible refine LeO.bind ?_ (fun _=>?_))
   | exact ih0 _ _ _ _ _ _ _ _ _ _ _
   | exact ih1 _ _ _ _ _ _ _
   | exact ih2 _ _ _
   | exact laws_eqHeap.mono _ _ _
   | exact laws_eqTree.mono _ _ _
   | exact laws_heldHeap.mono _ _ _
   | exact laws_markHeap.mono _ _ _
   | exact laws_markTree.mono _ _ _
   | exact laws_szTree.mono _ _ _
   | exact laws_toHeap.mono _ _
   | exact laws_toTree.mono _ _
   | exact LeO.none _
   | refine LeO.ite ?_ ?_
   | refine LeO.bind ?_ (fun _=>?_)
theorem laws_FnExactJoinHeaps.mono : ∀ a0 a1 a2 k,LeO (laws_FnExactJoinHeaps.f k a0 a1 a2) (laws_FnExactJoinHeaps.f (k + 1) a0 a1 a2):=by
 intro a0 a1 a2 k
 obtain ⟨ih0,ih1,ih2⟩:=laws_FnExactJoinHeaps.mono_l k
 unfold laws_FnExactJoinHeaps.f
 repeat' first
   | (with_reducible exact ih0 _ _ _ _ _ _ _ _ _ _ _)
   | (with_reducible exact ih1 _ _ _ _ _ _ _)
   | (with_reducible exact ih2 _ _ _)
   | (with_reducible exact laws_eqHeap.mono _ _ _)
   | (with_reducible exact laws_eqTree.mono _ _ _)
   | (with_reducible exact laws_heldHeap.mono _ _ _)
   | (with_reducible exact laws_markHeap.mono _ _ _)
   | (with_reducible exact laws_markTree.mono _ _ _)
   | (with_reducible exact laws_szTree.mono _ _ _)
   | (with_reducible exact laws_toHeap.mono _ _)
   | (with_reducible exact laws_toTree.mono _ _)
   | (with_reducible exact LeO.refl _)
   | (with_reducible exact LeO.none _)
   | (with_reducible refine LeO.ite ?_ ?_)
   | (with_reducible refine LeO.bind ?_ (fun _=>?_))
   | exact ih0 _ _ _ _ _ _ _ _ _ _ _
   | exact ih1 _ _ _ _ _ _ _
   | exact ih2 _ _ _
   | exact laws_eqHeap.mono _ _ _
   | exact laws_eqTree.mono _ _ _
   | exact laws_heldHeap.mono _ _ _
   | exact laws_markHeap.mono _ _ _
   | exact laws_markTree.mono _ _ _
   | exact laws_szTree.mono _ _ _
   | exact laws_toHeap.mono _ _
   | exact laws_toTree.mono _ _
   | exact LeO.none _
   | refine LeO.ite ?_ ?_
   | refine LeO.bind ?_ (fun _=>?_)
def laws_FnExactJoinHeaps.T11 : Bool × List (List Nat × List Nat):=(true,[([],[]),([0],[0]),([],[]),([2,1],[2]),([],[]),([4,3],[4]),([1,3,5,5],[1,3,5]),([6],[6]),([7],[7]),([7],[7]),([],[]),([10,8,6,0,1,2,3,4,5,6,7,8,10],[8,10]),([9,11,0,1,2,3,4,5,6,7,8,9,10,11],[9])])
def laws_FnExactJoinHeaps.B11 : List Nat:=[0,1,0,7,0,31,63,127,255,255,0,1535,4095]
theorem laws_FnExactJoinHeaps.tab11 : rtab .any (opsOf Try.f12 11) = laws_FnExactJoinHeaps.T11:=by kernel_rfl
theorem laws_FnExactJoinHeaps.bits11 : waitsOk laws_FnExactJoinHeaps.T11.2 laws_FnExactJoinHeaps.B11 = true:=by kernel_rfl
def laws_FnExactJoinHeaps.T38 : Bool × List (List Nat × List Nat):=(true,[([],[]),([0],[0]),([],[]),([2,1],[2]),([],[]),([4,3],[4]),([1,3,5,5],[1,3,5]),([6],[6]),([7],[7]),([7],[7]),([],[]),([10,8,6,0,1,2,3,4,5,6,7,8,10],[8,10]),([9,11,0,1,2,3,4,5,6,7,8,9,10,11],[9])])
def laws_FnExactJoinHeaps.B38 : List Nat:=[0,1,0,7,0,31,63,127,255,255,0,1535,4095]
theorem laws_FnExactJoinHeaps.tab38 : rtab .any (opsOf Try.f12 38) = laws_FnExactJoinHeaps.T38:=by kernel_rfl
theorem laws_FnExactJoinHeaps.bits38 : waitsOk laws_FnExactJoinHeaps.T38.2 laws_FnExactJoinHeaps.B38 = true:=by kernel_rfl
end Go.Proofs.Ytfhcfhffmblacaa.P
