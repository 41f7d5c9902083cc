/- Texts under the proof of FnShownChain: helper words, the functions' contracts and the plain laws. No condition. -/
import Derived.Test.YtmiholmfbjalfaaQFnShownChaina
import Derived.Test.YtmiholmfbjalfaaQFnShownChaind
import Derived.Test.YtmiholmfbjalfaaQFnShownChainc
namespace Go.Proofs.Ytmiholmfbjalfaa.P
open Go.RowKit Go.Proofs.YtmiholmfbjalfaaW.PrintWords Go.Proofs.YtmiholmfbjalfaaW.PrintLast Go.Proofs.YtmiholmfbjalfaaW.PrintMore
attribute [local go_sem] max2_int min2_int max_two min_two max_three min_three max_four min_four
set_option linter.unusedVariables false
set_option linter.unusedSimpArgs false
mutual
def spec_validHeap.l0 : Nat → Int → List (S87) → List (S43) → Option (Bool)
 | 0,_,_,_=>none
 | k + 1,x5,x2000,x3000=>if x5 < (x3000.length : Int) then (if 0 ≤ x5 then ((spec_hasClass.f x2000 ((rd_T43 x3000 x5).f0)).bind fun t5=>(if t5 = true then ((spec_inRange.f ((rd_T43 x3000 x5).f1) 0 99).bind fun t6=>(if t6 = true then ((spec_validLinks.f x3000 x5).bind fun t7=>(if t7 = true then (spec_validHeap.l0 k (wrap64 (x5 + 1)) x2000 x3000) else (some false))) else (some false))) else (some false))) else (none)) else (spec_validHeap.l1 k 0 x2000 x3000)
def spec_validHeap.l1 : Nat → Int → List (S87) → List (S43) → Option (Bool)
 | 0,_,_,_=>none
 | k + 1,x7,x2000,x3000=>if x7 < (x3000.length : Int) then ((spec_contexts.f k x3000 x7).bind fun t8=>(if 0 ≤ (wrap64 ((t8.length : Int) - 1)) then (if (wrap64 ((t8.length : Int) - 1)) < (t8.length : Int) then (if 0 ≤ (rd t8 (wrap64 ((t8.length : Int) - 1))) then (if (rd t8 (wrap64 ((t8.length : Int) - 1))) < (x3000.length : Int) then (if ((rd_T43 x3000 (rd t8 (wrap64 ((t8.length : Int) - 1)))).f3) ≥ 0 then (some false) else (spec_validHeap.l1 k (wrap64 (x7 + 1)) x2000 x3000)) else (none)) else (none)) else (none)) else (none))) else ((spec_validTree.f x2000).bind fun t13=>(if t13 = true then (some (decide ((x3000.length : Int) ≤ 24))) else (some false)))
end
def spec_validHeap.f (k : Nat) (l0_0 : List (S87)) (l1_0 : List (S43)) : Option (Bool):=spec_validHeap.l0 k 0 l0_0 l1_0
theorem spec_validHeap.mono_l : ∀ k,(∀ y0 y1 y2,LeO (spec_validHeap.l0 k y0 y1 y2) (spec_validHeap.l0 (k + 1) y0 y1 y2)) ∧ (∀ y0 y1 y2,LeO (spec_validHeap.l1 k y0 y1 y2) (spec_validHeap.l1 (k + 1) y0 y1 y2))
 | 0=>⟨fun _ _ _ r h=>by simp [spec_validHeap.l0] at h,fun _ _ _ r h=>by simp [spec_validHeap.l1] at h⟩
 | k + 1=>by
  obtain ⟨ih0,ih1⟩:=spec_validHeap.mono_l k
  refine ⟨?_,?_⟩
  ·intro y0 y1 y2
   unfold spec_validHeap.l0
   repeat' first
   | (with_reducible exact ih0 _ _ _)
   | (with_reducible exact ih1 _ _ _)
   | (with_reducible exact spec_contexts.mono _ _ _)
   | (with_reducible exact LeO.refl _)
   | (with_reducible exact LeO.none _)
   | (with_reducible refine LeO.ite ?_ ?_)
   | (with_reducible refine LeO.bind ?_ (fun _=>?_))
   | exact ih0 _ _ _
   | exact ih1 _ _ _
   | exact spec_contexts.mono _ _ _
   | exact LeO.none _
   | refine LeO.ite ?_ ?_
   | refine LeO.bind ?_ (fun _=>?_)
  ·intro y0 y1 y2
   unfold spec_validHeap.l1
   repeat' first
   | (with_reducible exact ih0 _ _ _)
   | (with_reducible exact ih1 _ _ _)
   | (with_reducible exact spec_contexts.mono _ _ _)
   | (with_reducible exact LeO.refl _)
   | (with_reducible exact LeO.none _)
   | (with_reducible refine LeO.ite ?_ ?_)
   | (with_reducible refine LeO.bind ?_ (fun _=>?_))
   | exact ih0 _ _ _
   | exact ih1 _ _ _
   | exact spec_contexts.mono _ _ _
   | exact LeO.none _
   | refine LeO.ite ?_ ?_
   | refine LeO.bind ?_ (fun _=>?_)
theorem spec_validHeap.mono : ∀ a0 a1 k,LeO (spec_validHeap.f k a0 a1) (spec_validHeap.f (k + 1) a0 a1):=by
 intro a0 a1 k
 obtain ⟨ih0,ih1⟩:=spec_validHeap.mono_l k
 unfold spec_validHeap.f
 repeat' first
   | (with_reducible exact ih0 _ _ _)
   | (with_reducible exact ih1 _ _ _)
   | (with_reducible exact spec_contexts.mono _ _ _)
   | (with_reducible exact LeO.refl _)
   | (with_reducible exact LeO.none _)
   | (with_reducible refine LeO.ite ?_ ?_)
   | (with_reducible refine LeO.bind ?_ (fun _=>?_))
   | exact ih0 _ _ _
   | exact ih1 _ _ _
   | exact spec_contexts.mono _ _ _
   | exact LeO.none _
   | refine LeO.ite ?_ ?_
   | refine LeO.bind ?_ (fun _=>?_)
set_option maxHeartbeats 8000000 in
set_option maxRecDepth 100000 in
theorem spec_validHeap.calls (k : Nat) (A0_0 : Option Addr) (c0_0 : Nat) (l0_0 : List (S87)) (A1_0 : Option Addr) (c1_0 : Nat) (l1_0 : List (S43)) (r : Bool) (w : World) (hr0_0 : Kd.C k87 w A0_0 l0_0.length l0_0) (hc0_0 : l0_0.length ≤ c0_0) (hr1_0 : Kd.C k43 w A1_0 l1_0.length l1_0) (hc1_0 : l1_0.length ≤ c1_0) (h : spec_validHeap.f k l0_0 l1_0 = some r) :
  Calls Try.prog 46 #[.agg #[.slice A0_0 l0_0.length c0_0],.agg #[.slice A1_0 l1_0.length c1_0]] w fun e w'=>e = .returned (.bool r) ∧ Below w.heap.size w w':=by
 have hu25:=Try.underlying25
 have hu28:=Try.underlying28
 have hu43:=Try.underlying43
 have HR0_0:=a0_ hr0_0
 have HC0_0:=a0_ hc0_0
 clear hr0_0 hc0_0
 have HR1_0:=a0_ hr1_0
 have HC1_0:=a0_ hc1_0
 clear hr1_0 hc1_0
 have HB:=a0_ (Below.refl w.heap.size w)
 have H : (spec_validHeap.l0 k 0 l0_0 l1_0) = some r:=h
 clear h
 have H':=a0_ H
 clear H
 go_enter Try.func46,Try.ntmps46
 go_wp2_with (first | ((with_reducible refine gate_dst (N:=2) rfl ?_);(try (refine gate_guard (by rfl) ?_;dsimp only));refine box_event ?hg (N:=2) ?hd (cs:=#[.slice A0_0 l0_0.length c0_0]) (t:=25) ?hr ?_;(case hd=>rfl);(case hg=>rfl);(case hr=>first | (go_simp;done) | (go_simp;rfl));intro gb1 hg w3 hbox hb;have BK1:=a0_ (hbox);have GW1:=a0_ ((by rw [hg];exact (below_size hb_) : w.heap.size ≤ gb1));have GE1:=a0_ ((by rw [hg];exact (below_size hb_) : w.heap.size ≤ gb1));replace HB:=a0_ (below_step hb_ hb);clear hb hbox hg) | ((with_reducible refine gate_dst (N:=3) rfl ?_);(try (refine gate_guard (by rfl) ?_;dsimp only));refine box_event ?hg (N:=3) ?hd (cs:=#[.slice A1_0 l1_0.length c1_0]) (t:=28) ?hr ?_;(case hd=>rfl);(case hg=>rfl);(case hr=>first | (go_simp;done) | (go_simp;rfl));intro gb2 hg w4 hbox hb;have n0_:=kb_ BK1 hb;have n1_:=a0_ (below_step hb_ hb);have n2_:=a0_ (hbox);have n3_:=a0_ ((by rw [hg];exact (below_size hb_) : w.heap.size ≤ gb2));have n4_:=a0_ ((by rw [hg];exact (below_size hb_) : w.heap.size ≤ gb2));have n5_:=a0_ ((by rw [hg];exact Nat.ne_of_lt (blk_lt (bb_ BK1.out)) : gb1 ≠ gb2));have n6_:=a0_ ((by rw [hg];exact Nat.ne_of_gt (blk_lt (bb_ BK1.out)) : gb2 ≠ gb1));clear BK1 HB;have BK1:=n0_;have HB:=n1_;have BK2:=n2_;have GW2:=n3_;have GE2:=n4_;have NB1_2:=n5_;have NB2_1:=n6_;clear n0_ n1_ n2_ n3_ n4_ n5_ n6_;clear hb hbox hg))
 repeat (go_quiet (first | ((with_reducible refine gate_dst (N:=2) rfl ?_);(try (refine gate_guard (by rfl) ?_;dsimp only));refine box_event ?hg (N:=2) ?hd (cs:=#[.slice A0_0 l0_0.length c0_0]) (t:=25) ?hr ?_;(case hd=>rfl);(case hg=>rfl);(case hr=>first | (go_simp;done) | (go_simp;rfl));intro gb1 hg w3 hbox hb;have BK1:=a0_ (hbox);have GW1:=a0_ ((by rw [hg];exact (below_size hb_) : w.heap.size ≤ gb1));have GE1:=a0_ ((by rw [hg];exact (below_size hb_) : w.heap.size ≤ gb1));replace HB:=a0_ (below_step hb_ hb);clear hb hbox hg) | ((with_reducible refine gate_dst (N:=3) rfl ?_);(try (refine gate_guard (by rfl) ?_;dsimp only));refine box_event ?hg (N:=3) ?hd (cs:=#[.slice A1_0 l1_0.length c1_0]) (t:=28) ?hr ?_;(case hd=>rfl);(case hg=>rfl);(case hr=>first | (go_simp;done) | (go_simp;rfl));intro gb2 hg w4 hbox hb;have n0_:=kb_ BK1 hb;have n1_:=a0_ (below_step hb_ hb);have n2_:=a0_ (hbox);have n3_:=a0_ ((by rw [hg];exact (below_size hb_) : w.heap.size ≤ gb2));have n4_:=a0_ ((by rw [hg];exact (below_size hb_) : w.heap.size ≤ gb2));have n5_:=a0_ ((by rw [hg];exact Nat.ne_of_lt (blk_lt (bb_ BK1.out)) : gb1 ≠ gb2));have n6_:=a0_ ((by rw [hg];exact Nat.ne_of_gt (blk_lt (bb_ BK1.out)) : gb2 ≠ gb1));clear BK1 HB;have BK1:=n0_;have HB:=n1_;have BK2:=n2_;have GW2:=n3_;have GE2:=n4_;have NB1_2:=n5_;have NB2_1:=n6_;clear n0_ n1_ n2_ n3_ n4_ n5_ n6_;clear hb hbox hg));try go_wp2_with (first | ((with_reducible refine gate_dst (N:=2) rfl ?_);(try (refine gate_guard (by rfl) ?_;dsimp only));refine box_event ?hg (N:=2) ?hd (cs:=#[.slice A0_0 l0_0.length c0_0]) (t:=25) ?hr ?_;(case hd=>rfl);(case hg=>rfl);(case hr=>first | (go_simp;done) | (go_simp;rfl));intro gb1 hg w3 hbox hb;have BK1:=a0_ (hbox);have GW1:=a0_ ((by rw [hg];exact (below_size hb_) : w.heap.size ≤ gb1));have GE1:=a0_ ((by rw [hg];exact (below_size hb_) : w.heap.size ≤ gb1));replace HB:=a0_ (below_step hb_ hb);clear hb hbox hg) | ((with_reducible refine gate_dst (N:=3) rfl ?_);(try (refine gate_guard (by rfl) ?_;dsimp only));refine box_event ?hg (N:=3) ?hd (cs:=#[.slice A1_0 l1_0.length c1_0]) (t:=28) ?hr ?_;(case hd=>rfl);(case hg=>rfl);(case hr=>first | (go_simp;done) | (go_simp;rfl));intro gb2 hg w4 hbox hb;have n0_:=kb_ BK1 hb;have n1_:=a0_ (below_step hb_ hb);have n2_:=a0_ (hbox);have n3_:=a0_ ((by rw [hg];exact (below_size hb_) : w.heap.size ≤ gb2));have n4_:=a0_ ((by rw [hg];exact (below_size hb_) : w.heap.size ≤ gb2));have n5_:=a0_ ((by rw [hg];exact Nat.ne_of_lt (blk_lt (bb_ BK1.out)) : gb1 ≠ gb2));have n6_:=a0_ ((by rw [hg];exact Nat.ne_of_gt (blk_lt (bb_ BK1.out)) : gb2 ≠ gb1));clear BK1 HB;have BK1:=n0_;have HB:=n1_;have BK2:=n2_;have GW2:=n3_;have GE2:=n4_;have NB1_2:=n5_;have NB2_1:=n6_;clear n0_ n1_ n2_ n3_ n4_ n5_ n6_;clear hb hbox hg)))
 go_loopg [5] k (fun kq v5 w'=>∃ (x5_1 : Int),v5 = .int .i64 x5_1 ∧ Aside0 (spec_validHeap.l0 kq x5_1 l0_0 l1_0 = some r) ∧ Aside0 (kq ≤ k) ∧ Aside0 (w'.heap[gb1]? = some (.cells #[(.slice A0_0 l0_0.length c0_0)] 25 (0,0))) ∧ Aside0 (w'.heap[gb2]? = some (.cells #[(.slice A1_0 l1_0.length c1_0)] 28 (0,0))) ∧ Aside0 (Below w.heap.size w w'))
 case atStart=>exact ⟨(0),(by first | rfl | (simp;done) | (simp [*];done)),H',⟨Nat.le_refl _⟩,⟨by (with_reducible repeat (first | refine blk_drewN ?_ _ | refine blk_drew ?_ | refine blk_alloc ?_ _));exact BK1.out⟩,⟨by (with_reducible repeat (first | refine blk_drewN ?_ _ | refine blk_drew ?_ | refine blk_alloc ?_ _));exact BK2.out⟩,⟨hb_⟩⟩
 case round =>
  clear H'
  try clear c1
  try clear p2
  try clear c4
  obtain ⟨x5_1,rfl,HA,HK1,BK1,BK2,HB⟩:=hrel
  cases gk with
  | zero=>exact absurd HA.out (by simp [spec_validHeap.l0])
  | succ k1 =>
   have H:=HA.out
   clear HA
   simp only [spec_validHeap.l0] at H
   by_cases c5 : x5_1 < (l1_0.length : Int)
   ·rw [if_pos c5] at H
    have c5b0 : decide (x5_1 < (l1_0.length : Int)) = true:=decide_eq_true c5
    clear c5
    by_cases c6 : 0 ≤ x5_1
    ·rw [if_pos c6] at H
     have c6b0 : decide (0 ≤ x5_1) = true:=decide_eq_true c6
     clear c6
     replace H:=Option.bind_eq_some_iff.mp H
     obtain ⟨t5,A70,H⟩:=H
     try dsimp only at H
     have A7:=a0_ A70
     clear A70
     by_cases c8 : t5 = true
     ·subst c8
      have H1 : ((spec_inRange.f ((rd_T43 l1_0 x5_1).f1) 0 99).bind fun t6=>(if t6 = true then ((spec_validLinks.f l1_0 x5_1).bind fun t7=>(if t7 = true then (spec_validHeap.l0 k1 (wrap64 (x5_1 + 1)) l0_0 l1_0) else (some false))) else (some false))) = some r:=by rw [if_pos rfl] at H;exact H
      clear H
      have H:=H1
      clear H1
      replace H:=Option.bind_eq_some_iff.mp H
      obtain ⟨t6,A90,H⟩:=H
      try dsimp only at H
      have A9:=a0_ A90
      clear A90
      by_cases c10 : t6 = true
      ·subst c10
       have H1 : ((spec_validLinks.f l1_0 x5_1).bind fun t7=>(if t7 = true then (spec_validHeap.l0 k1 (wrap64 (x5_1 + 1)) l0_0 l1_0) else (some false))) = some r:=by rw [if_pos rfl] at H;exact H
       clear H
       have H:=H1
       clear H1
       replace H:=Option.bind_eq_some_iff.mp H
       obtain ⟨t7,A110,H⟩:=H
       try dsimp only at H
       have A11:=a0_ A110
       clear A110
       by_cases c12 : t7 = true
       ·subst c12
        have H1 : (spec_validHeap.l0 k1 (wrap64 (x5_1 + 1)) l0_0 l1_0) = some r:=by rw [if_pos rfl] at H;exact H
        clear H
        have H:=H1
        clear H1
        have H':=a0_ H
        clear H
        have hnb13:=NB2_1.out
        have hnc13:=NB1_2.out
        have hcz14_0 : wr.cell? ⟨gb2,0,none⟩ = some (.slice A1_0 l1_0.length c1_0):=(blk_cell BK2.out 0).trans rfl
        have hfz14_0:=blk_frozen BK2.out 0
        have p3 : 0 ≤ (x5_1 : Int):=of_decide_eq_true (by first | (with_reducible assumption) | assumption)
        have q3 : x5_1 < (l1_0.length : Int):=of_decide_eq_true (by first | (with_reducible assumption) | assumption)
        obtain ⟨ad3,e3,hx3_0,hx3_1,hx3_2,hx3_3,hx3_4⟩:=at_T43 HR1_0.out x5_1 p3 q3
        cases e3
        replace hx3_0:=(HB.out.cell (World.block_lt_of_cell? w _ hx3_0)).trans hx3_0
        replace hx3_1:=(HB.out.cell (World.block_lt_of_cell? w _ hx3_1)).trans hx3_1
        replace hx3_2:=(HB.out.cell (World.block_lt_of_cell? w _ hx3_2)).trans hx3_2
        replace hx3_3:=(HB.out.cell (World.block_lt_of_cell? w _ hx3_3)).trans hx3_3
        replace hx3_4:=(HB.out.cell (World.block_lt_of_cell? w _ hx3_4)).trans hx3_4
        replace p3:=eq_true p3
        replace q3:=eq_true q3
        go_wp2_with (first | ((with_reducible refine gate_dst (N:=6) rfl ?_);(try (refine gate_guard (by rfl) ?_;dsimp only));refine box_event ?hg (N:=6) ?hd (cs:=#[.int .i64 0,.int .i64 0,.int .i64 0,.int .i64 0,.bool false]) (t:=43) ?hr ?_;(case hd=>rfl);(case hg=>rfl);(case hr=>first | (go_simp;done) | (go_simp;rfl));intro gb4 hg w15 hbox hb;have n0_:=kb_ BK1 hb;have n1_:=kb_ BK2 hb;have n2_:=a0_ (below_step hb_ hb);have n3_:=a0_ (hbox);have n4_:=a0_ ((by rw [hg];exact (below_size hb_) : w.heap.size ≤ gb4));have n5_:=a0_ ((by rw [hg];exact (below_size hb_) : w.heap.size ≤ gb4));have n6_:=a0_ ((by rw [hg];exact Nat.ne_of_lt (blk_lt (bb_ BK1.out)) : gb1 ≠ gb4));have n7_:=a0_ ((by rw [hg];exact Nat.ne_of_gt (blk_lt (bb_ BK1.out)) : gb4 ≠ gb1));have n8_:=a0_ ((by rw [hg];exact Nat.ne_of_lt (blk_lt (bb_ BK2.out)) : gb2 ≠ gb4));have n9_:=a0_ ((by rw [hg];exact Nat.ne_of_gt (blk_lt (bb_ BK2.out)) : gb4 ≠ gb2));clear BK1 BK2 HB;have BK1:=n0_;have BK2:=n1_;have HB:=n2_;have BK4:=n3_;have GW4:=n4_;have GE4:=n5_;have NB1_4:=n6_;have NB4_1:=n7_;have NB2_4:=n8_;have NB4_2:=n9_;clear n0_ n1_ n2_ n3_ n4_ n5_ n6_ n7_ n8_ n9_;clear hb hbox hg;have hnb16:=NB4_1.out;have hnc16:=NB1_4.out;have hnb17:=NB4_2.out;have hnc17:=NB2_4.out;have hcz18_0 : w15.cell? ⟨gb4,0,none⟩ = some (.int .i64 0):=(blk_cell BK4.out 0).trans rfl;have hcz18_1 : w15.cell? ⟨gb4,1,none⟩ = some (.int .i64 0):=(blk_cell BK4.out 1).trans rfl;have hcz18_2 : w15.cell? ⟨gb4,2,none⟩ = some (.int .i64 0):=(blk_cell BK4.out 2).trans rfl;have hcz18_3 : w15.cell? ⟨gb4,3,none⟩ = some (.int .i64 0):=(blk_cell BK4.out 3).trans rfl;have hcz18_4 : w15.cell? ⟨gb4,4,none⟩ = some (.bool false):=(blk_cell BK4.out 4).trans rfl;have hfz18_0:=blk_frozen BK4.out 0;have hfz18_1:=blk_frozen BK4.out 1;have hfz18_2:=blk_frozen BK4.out 2;have hfz18_3:=blk_frozen BK4.out 3;have hfz18_4:=blk_frozen BK4.out 4;have hcz19_0 : w15.cell? ⟨gb1,0,none⟩ = some (.slice A0_0 l0_0.length c0_0):=(blk_cell BK1.out 0).trans rfl;have hfz19_0:=blk_frozen BK1.out 0) | (go_at_call 70;(with_reducible refine (spec_hasClass.calls _ _ l0_0 ((rd_T43 l1_0 x5_1).f0) true _ ?side1 ?side2 A7.out).mono ?_);(case side1=>exact Kd.C_below HR0_0.out hb_);(case side2=>exact HC0_0.out);rintro e w20 ⟨rfl,hb⟩;replace BK1:=a0_ (blk_below (g:=gb1) (o:=.cells #[.slice A0_0 l0_0.length c0_0] 25 (0,0)) (bff_ BK1.out) hb);replace BK2:=a0_ (blk_below (g:=gb2) (o:=.cells #[.slice (some ad3) l1_0.length c1_0] 28 (0,0)) (bff_ BK2.out) hb);replace BK4:=a0_ (blk_below (g:=gb4) (o:=.cells #[.int .i64 ((rd_T43 l1_0 x5_1).f0),.int .i64 ((rd_T43 l1_0 x5_1).f1),.int .i64 ((rd_T43 l1_0 x5_1).f2),.int .i64 ((rd_T43 l1_0 x5_1).f3),.bool ((rd_T43 l1_0 x5_1).f4)] 43 (0,0)) (by (with_reducible repeat (first | refine blk_drewN ?_ _ | refine blk_drew ?_ | refine blk_alloc ?_ _));refine blk_put (cs:=#[.int .i64 ((rd_T43 l1_0 x5_1).f0),.int .i64 ((rd_T43 l1_0 x5_1).f1),.int .i64 ((rd_T43 l1_0 x5_1).f2),.int .i64 ((rd_T43 l1_0 x5_1).f3),.bool false]) ?_ 4 _ rfl;(with_reducible repeat (first | refine blk_drewN ?_ _ | refine blk_drew ?_ | refine blk_alloc ?_ _));refine blk_put (cs:=#[.int .i64 ((rd_T43 l1_0 x5_1).f0),.int .i64 ((rd_T43 l1_0 x5_1).f1),.int .i64 ((rd_T43 l1_0 x5_1).f2),.int .i64 0,.bool false]) ?_ 3 _ rfl;(with_reducible repeat (first | refine blk_drewN ?_ _ | refine blk_drew ?_ | refine blk_alloc ?_ _));refine blk_put (cs:=#[.int .i64 ((rd_T43 l1_0 x5_1).f0),.int .i64 ((rd_T43 l1_0 x5_1).f1),.int .i64 0,.int .i64 0,.bool false]) ?_ 2 _ rfl;(with_reducible repeat (first | refine blk_drewN ?_ _ | refine blk_drew ?_ | refine blk_alloc ?_ _));refine blk_put (cs:=#[.int .i64 ((rd_T43 l1_0 x5_1).f0),.int .i64 0,.int .i64 0,.int .i64 0,.bool false]) ?_ 1 _ rfl;(with_reducible repeat (first | refine blk_drewN ?_ _ | refine blk_drew ?_ | refine blk_alloc ?_ _));refine blk_put (cs:=#[.int .i64 0,.int .i64 0,.int .i64 0,.int .i64 0,.bool false]) ?_ 0 _ rfl;(with_reducible repeat (first | refine blk_drewN ?_ _ | refine blk_drew ?_ | refine blk_alloc ?_ _));exact BK4.out) hb);replace HB:=a0_ (below_step hb_ hb);(try clear hb);have hcz21_0 : w20.cell? ⟨gb4,0,none⟩ = some (.int .i64 ((rd_T43 l1_0 x5_1).f0)):=(blk_cell BK4.out 0).trans rfl;have hcz21_1 : w20.cell? ⟨gb4,1,none⟩ = some (.int .i64 ((rd_T43 l1_0 x5_1).f1)):=(blk_cell BK4.out 1).trans rfl;have hcz21_2 : w20.cell? ⟨gb4,2,none⟩ = some (.int .i64 ((rd_T43 l1_0 x5_1).f2)):=(blk_cell BK4.out 2).trans rfl;have hcz21_3 : w20.cell? ⟨gb4,3,none⟩ = some (.int .i64 ((rd_T43 l1_0 x5_1).f3)):=(blk_cell BK4.out 3).trans rfl;have hcz21_4 : w20.cell? ⟨gb4,4,none⟩ = some (.bool ((rd_T43 l1_0 x5_1).f4)):=(blk_cell BK4.out 4).trans rfl;have hfz21_0:=blk_frozen BK4.out 0;have hfz21_1:=blk_frozen BK4.out 1;have hfz21_2:=blk_frozen BK4.out 2;have hfz21_3:=blk_frozen BK4.out 3;have hfz21_4:=blk_frozen BK4.out 4) | (go_at_call 71;(with_reducible refine (spec_inRange.calls ((rd_T43 l1_0 x5_1).f1) 0 99 true _ A9.out).mono ?_);rintro e w' ⟨rfl,⟨nd,rfl⟩⟩;(try first | exact ⟨rfl,_,World.drewN_drewN _ _ _⟩ | exact ⟨rfl,_,Eq.trans (World.drewN_drewN _ _ _) (congrArg (World.drewN _) (Nat.add_assoc _ _ _))⟩);have hcz22_0 : w20.cell? ⟨gb2,0,none⟩ = some (.slice (some ad3) l1_0.length c1_0):=(blk_cell BK2.out 0).trans rfl;have hfz22_0:=blk_frozen BK2.out 0) | (go_at_call 72;(with_reducible refine (spec_validLinks.calls _ _ l1_0 x5_1 true _ ?side1 ?side2 A11.out).mono ?_);(case side1=>repeat (first | exact (Kd.C_below HR1_0.out hb_) | (with_reducible refine Kd.C_alloc ?_ _) | (with_reducible refine Kd.C_drewN ?_ _) | (with_reducible refine Kd.C_drew ?_)));(case side2=>exact HC1_0.out);rintro e w23 ⟨rfl,hb⟩;replace BK1:=kb_ BK1 hb;replace BK2:=kb_ BK2 hb;replace BK4:=kb_ BK4 hb;replace HB:=a0_ (below_step hb_ hb);(try clear hb);(try clear hb2);(try clear hk);(try clear hi)))
        repeat (go_quiet (first | ((with_reducible refine gate_dst (N:=6) rfl ?_);(try (refine gate_guard (by rfl) ?_;dsimp only));refine box_event ?hg (N:=6) ?hd (cs:=#[.int .i64 0,.int .i64 0,.int .i64 0,.int .i64 0,.bool false]) (t:=43) ?hr ?_;(case hd=>rfl);(case hg=>rfl);(case hr=>first | (go_simp;done) | (go_simp;rfl));intro gb4 hg w15 hbox hb;have n0_:=kb_ BK1 hb;have n1_:=kb_ BK2 hb;have n2_:=a0_ (below_step hb_ hb);have n3_:=a0_ (hbox);have n4_:=a0_ ((by rw [hg];exact (below_size hb_) : w.heap.size ≤ gb4));have n5_:=a0_ ((by rw [hg];exact (below_size hb_) : w.heap.size ≤ gb4));have n6_:=a0_ ((by rw [hg];exact Nat.ne_of_lt (blk_lt (bb_ BK1.out)) : gb1 ≠ gb4));have n7_:=a0_ ((by rw [hg];exact Nat.ne_of_gt (blk_lt (bb_ BK1.out)) : gb4 ≠ gb1));have n8_:=a0_ ((by rw [hg];exact Nat.ne_of_lt (blk_lt (bb_ BK2.out)) : gb2 ≠ gb4));have n9_:=a0_ ((by rw [hg];exact Nat.ne_of_gt (blk_lt (bb_ BK2.out)) : gb4 ≠ gb2));clear BK1 BK2 HB;have BK1:=n0_;have BK2:=n1_;have HB:=n2_;have BK4:=n3_;have GW4:=n4_;have GE4:=n5_;have NB1_4:=n6_;have NB4_1:=n7_;have NB2_4:=n8_;have NB4_2:=n9_;clear n0_ n1_ n2_ n3_ n4_ n5_ n6_ n7_ n8_ n9_;clear hb hbox hg;have hnb16:=NB4_1.out;have hnc16:=NB1_4.out;have hnb17:=NB4_2.out;have hnc17:=NB2_4.out;have hcz18_0 : w15.cell? ⟨gb4,0,none⟩ = some (.int .i64 0):=(blk_cell BK4.out 0).trans rfl;have hcz18_1 : w15.cell? ⟨gb4,1,none⟩ = some (.int .i64 0):=(blk_cell BK4.out 1).trans rfl;have hcz18_2 : w15.cell? ⟨gb4,2,none⟩ = some (.int .i64 0):=(blk_cell BK4.out 2).trans rfl;have hcz18_3 : w15.cell? ⟨gb4,3,none⟩ = some (.int .i64 0):=(blk_cell BK4.out 3).trans rfl;have hcz18_4 : w15.cell? ⟨gb4,4,none⟩ = some (.bool false):=(blk_cell BK4.out 4).trans rfl;have hfz18_0:=blk_frozen BK4.out 0;have hfz18_1:=blk_frozen BK4.out 1;have hfz18_2:=blk_frozen BK4.out 2;have hfz18_3:=blk_frozen BK4.out 3;have hfz18_4:=blk_frozen BK4.out 4;have hcz19_0 : w15.cell? ⟨gb1,0,none⟩ = some (.slice A0_0 l0_0.length c0_0):=(blk_cell BK1.out 0).trans rfl;have hfz19_0:=blk_frozen BK1.out 0) | (go_at_call 70;(with_reducible refine (spec_hasClass.calls _ _ l0_0 ((rd_T43 l1_0 x5_1).f0) true _ ?side1 ?side2 A7.out).mono ?_);(case side1=>exact Kd.C_below HR0_0.out hb_);(case side2=>exact HC0_0.out);rintro e w20 ⟨rfl,hb⟩;replace BK1:=a0_ (blk_below (g:=gb1) (o:=.cells #[.slice A0_0 l0_0.length c0_0] 25 (0,0)) (bff_ BK1.out) hb);replace BK2:=a0_ (blk_below (g:=gb2) (o:=.cells #[.slice (some ad3) l1_0.length c1_0] 28 (0,0)) (bff_ BK2.out) hb);replace BK4:=a0_ (blk_below (g:=gb4) (o:=.cells #[.int .i64 ((rd_T43 l1_0 x5_1).f0),.int .i64 ((rd_T43 l1_0 x5_1).f1),.int .i64 ((rd_T43 l1_0 x5_1).f2),.int .i64 ((rd_T43 l1_0 x5_1).f3),.bool ((rd_T43 l1_0 x5_1).f4)] 43 (0,0)) (by (with_reducible repeat (first | refine blk_drewN ?_ _ | refine blk_drew ?_ | refine blk_alloc ?_ _));refine blk_put (cs:=#[.int .i64 ((rd_T43 l1_0 x5_1).f0),.int .i64 ((rd_T43 l1_0 x5_1).f1),.int .i64 ((rd_T43 l1_0 x5_1).f2),.int .i64 ((rd_T43 l1_0 x5_1).f3),.bool false]) ?_ 4 _ rfl;(with_reducible repeat (first | refine blk_drewN ?_ _ | refine blk_drew ?_ | refine blk_alloc ?_ _));refine blk_put (cs:=#[.int .i64 ((rd_T43 l1_0 x5_1).f0),.int .i64 ((rd_T43 l1_0 x5_1).f1),.int .i64 ((rd_T43 l1_0 x5_1).f2),.int .i64 0,.bool false]) ?_ 3 _ rfl;(with_reducible repeat (first | refine blk_drewN ?_ _ | refine blk_drew ?_ | refine blk_alloc ?_ _));refine blk_put (cs:=#[.int .i64 ((rd_T43 l1_0 x5_1).f0),.int .i64 ((rd_T43 l1_0 x5_1).f1),.int .i64 0,.int .i64 0,.bool false]) ?_ 2 _ rfl;(with_reducible repeat (first | refine blk_drewN ?_ _ | refine blk_drew ?_ | refine blk_alloc ?_ _));refine blk_put (cs:=#[.int .i64 ((rd_T43 l1_0 x5_1).f0),.int .i64 0,.int .i64 0,.int .i64 0,.bool false]) ?_ 1 _ rfl;(with_reducible repeat (first | refine blk_drewN ?_ _ | refine blk_drew ?_ | refine blk_alloc ?_ _));refine blk_put (cs:=#[.int .i64 0,.int .i64 0,.int .i64 0,.int .i64 0,.bool false]) ?_ 0 _ rfl;(with_reducible repeat (first | refine blk_drewN ?_ _ | refine blk_drew ?_ | refine blk_alloc ?_ _));exact BK4.out) hb);replace HB:=a0_ (below_step hb_ hb);(try clear hb);have hcz21_0 : w20.cell? ⟨gb4,0,none⟩ = some (.int .i64 ((rd_T43 l1_0 x5_1).f0)):=(blk_cell BK4.out 0).trans rfl;have hcz21_1 : w20.cell? ⟨gb4,1,none⟩ = some (.int .i64 ((rd_T43 l1_0 x5_1).f1)):=(blk_cell BK4.out 1).trans rfl;have hcz21_2 : w20.cell? ⟨gb4,2,none⟩ = some (.int .i64 ((rd_T43 l1_0 x5_1).f2)):=(blk_cell BK4.out 2).trans rfl;have hcz21_3 : w20.cell? ⟨gb4,3,none⟩ = some (.int .i64 ((rd_T43 l1_0 x5_1).f3)):=(blk_cell BK4.out 3).trans rfl;have hcz21_4 : w20.cell? ⟨gb4,4,none⟩ = some (.bool ((rd_T43 l1_0 x5_1).f4)):=(blk_cell BK4.out 4).trans rfl;have hfz21_0:=blk_frozen BK4.out 0;have hfz21_1:=blk_frozen BK4.out 1;have hfz21_2:=blk_frozen BK4.out 2;have hfz21_3:=blk_frozen BK4.out 3;have hfz21_4:=blk_frozen BK4.out 4) | (go_at_call 71;(with_reducible refine (spec_inRange.calls ((rd_T43 l1_0 x5_1).f1) 0 99 true _ A9.out).mono ?_);rintro e w' ⟨rfl,⟨nd,rfl⟩⟩;(try first | exact ⟨rfl,_,World.drewN_drewN _ _ _⟩ | exact ⟨rfl,_,Eq.trans (World.drewN_drewN _ _ _) (congrArg (World.drewN _) (Nat.add_assoc _ _ _))⟩);have hcz22_0 : w20.cell? ⟨gb2,0,none⟩ = some (.slice (some ad3) l1_0.length c1_0):=(blk_cell BK2.out 0).trans rfl;have hfz22_0:=blk_frozen BK2.out 0) | (go_at_call 72;(with_reducible refine (spec_validLinks.calls _ _ l1_0 x5_1 true _ ?side1 ?side2 A11.out).mono ?_);(case side1=>repeat (first | exact (Kd.C_below HR1_0.out hb_) | (with_reducible refine Kd.C_alloc ?_ _) | (with_reducible refine Kd.C_drewN ?_ _) | (with_reducible refine Kd.C_drew ?_)));(case side2=>exact HC1_0.out);rintro e w23 ⟨rfl,hb⟩;replace BK1:=kb_ BK1 hb;replace BK2:=kb_ BK2 hb;replace BK4:=kb_ BK4 hb;replace HB:=a0_ (below_step hb_ hb);(try clear hb);(try clear hb2);(try clear hk);(try clear hi)));try go_wp2_with (first | ((with_reducible refine gate_dst (N:=6) rfl ?_);(try (refine gate_guard (by rfl) ?_;dsimp only));refine box_event ?hg (N:=6) ?hd (cs:=#[.int .i64 0,.int .i64 0,.int .i64 0,.int .i64 0,.bool false]) (t:=43) ?hr ?_;(case hd=>rfl);(case hg=>rfl);(case hr=>first | (go_simp;done) | (go_simp;rfl));intro gb4 hg w15 hbox hb;have n0_:=kb_ BK1 hb;have n1_:=kb_ BK2 hb;have n2_:=a0_ (below_step hb_ hb);have n3_:=a0_ (hbox);have n4_:=a0_ ((by rw [hg];exact (below_size hb_) : w.heap.size ≤ gb4));have n5_:=a0_ ((by rw [hg];exact (below_size hb_) : w.heap.size ≤ gb4));have n6_:=a0_ ((by rw [hg];exact Nat.ne_of_lt (blk_lt (bb_ BK1.out)) : gb1 ≠ gb4));have n7_:=a0_ ((by rw [hg];exact Nat.ne_of_gt (blk_lt (bb_ BK1.out)) : gb4 ≠ gb1));have n8_:=a0_ ((by rw [hg];exact Nat.ne_of_lt (blk_lt (bb_ BK2.out)) : gb2 ≠ gb4));have n9_:=a0_ ((by rw [hg];exact Nat.ne_of_gt (blk_lt (bb_ BK2.out)) : gb4 ≠ gb2));clear BK1 BK2 HB;have BK1:=n0_;have BK2:=n1_;have HB:=n2_;have BK4:=n3_;have GW4:=n4_;have GE4:=n5_;have NB1_4:=n6_;have NB4_1:=n7_;have NB2_4:=n8_;have NB4_2:=n9_;clear n0_ n1_ n2_ n3_ n4_ n5_ n6_ n7_ n8_ n9_;clear hb hbox hg;have hnb16:=NB4_1.out;have hnc16:=NB1_4.out;have hnb17:=NB4_2.out;have hnc17:=NB2_4.out;have hcz18_0 : w15.cell? ⟨gb4,0,none⟩ = some (.int .i64 0):=(blk_cell BK4.out 0).trans rfl;have hcz18_1 : w15.cell? ⟨gb4,1,none⟩ = some (.int .i64 0):=(blk_cell BK4.out 1).trans rfl;have hcz18_2 : w15.cell? ⟨gb4,2,none⟩ = some (.int .i64 0):=(blk_cell BK4.out 2).trans rfl;have hcz18_3 : w15.cell? ⟨gb4,3,none⟩ = some (.int .i64 0):=(blk_cell BK4.out 3).trans rfl;have hcz18_4 : w15.cell? ⟨gb4,4,none⟩ = some (.bool false):=(blk_cell BK4.out 4).trans rfl;have hfz18_0:=blk_frozen BK4.out 0;have hfz18_1:=blk_frozen BK4.out 1;have hfz18_2:=blk_frozen BK4.out 2;have hfz18_3:=blk_frozen BK4.out 3;have hfz18_4:=blk_frozen BK4.out 4;have hcz19_0 : w15.cell? ⟨gb1,0,none⟩ = some (.slice A0_0 l0_0.length c0_0):=(blk_cell BK1.out 0).trans rfl;have hfz19_0:=blk_frozen BK1.out 0) | (go_at_call 70;(with_reducible refine (spec_hasClass.calls _ _ l0_0 ((rd_T43 l1_0 x5_1).f0) true _ ?side1 ?side2 A7.out).mono ?_);(case side1=>exact Kd.C_below HR0_0.out hb_);(case side2=>exact HC0_0.out);rintro e w20 ⟨rfl,hb⟩;replace BK1:=a0_ (blk_below (g:=gb1) (o:=.cells #[.slice A0_0 l0_0.length c0_0] 25 (0,0)) (bff_ BK1.out) hb);replace BK2:=a0_ (blk_below (g:=gb2) (o:=.cells #[.slice (some ad3) l1_0.length c1_0] 28 (0,0)) (bff_ BK2.out) hb);replace BK4:=a0_ (blk_below (g:=gb4) (o:=.cells #[.int .i64 ((rd_T43 l1_0 x5_1).f0),.int .i64 ((rd_T43 l1_0 x5_1).f1),.int .i64 ((rd_T43 l1_0 x5_1).f2),.int .i64 ((rd_T43 l1_0 x5_1).f3),.bool ((rd_T43 l1_0 x5_1).f4)] 43 (0,0)) (by (with_reducible repeat (first | refine blk_drewN ?_ _ | refine blk_drew ?_ | refine blk_alloc ?_ _));refine blk_put (cs:=#[.int .i64 ((rd_T43 l1_0 x5_1).f0),.int .i64 ((rd_T43 l1_0 x5_1).f1),.int .i64 ((rd_T43 l1_0 x5_1).f2),.int .i64 ((rd_T43 l1_0 x5_1).f3),.bool false]) ?_ 4 _ rfl;(with_reducible repeat (first | refine blk_drewN ?_ _ | refine blk_drew ?_ | refine blk_alloc ?_ _));refine blk_put (cs:=#[.int .i64 ((rd_T43 l1_0 x5_1).f0),.int .i64 ((rd_T43 l1_0 x5_1).f1),.int .i64 ((rd_T43 l1_0 x5_1).f2),.int .i64 0,.bool false]) ?_ 3 _ rfl;(with_reducible repeat (first | refine blk_drewN ?_ _ | refine blk_drew ?_ | refine blk_alloc ?_ _));refine blk_put (cs:=#[.int .i64 ((rd_T43 l1_0 x5_1).f0),.int .i64 ((rd_T43 l1_0 x5_1).f1),.int .i64 0,.int .i64 0,.bool false]) ?_ 2 _ rfl;(with_reducible repeat (first | refine blk_drewN ?_ _ | refine blk_drew ?_ | refine blk_alloc ?_ _));refine blk_put (cs:=#[.int .i64 ((rd_T43 l1_0 x5_1).f0),.int .i64 0,.int .i64 0,.int .i64 0,.bool false]) ?_ 1 _ rfl;(with_reducible repeat (first | refine blk_drewN ?_ _ | refine blk_drew ?_ | refine blk_alloc ?_ _));refine blk_put (cs:=#[.int .i64 0,.int .i64 0,.int .i64 0,.int .i64 0,.bool false]) ?_ 0 _ rfl;(with_reducible repeat (first | refine blk_drewN ?_ _ | refine blk_drew ?_ | refine blk_alloc ?_ _));exact BK4.out) hb);replace HB:=a0_ (below_step hb_ hb);(try clear hb);have hcz21_0 : w20.cell? ⟨gb4,0,none⟩ = some (.int .i64 ((rd_T43 l1_0 x5_1).f0)):=(blk_cell BK4.out 0).trans rfl;have hcz21_1 : w20.cell? ⟨gb4,1,none⟩ = some (.int .i64 ((rd_T43 l1_0 x5_1).f1)):=(blk_cell BK4.out 1).trans rfl;have hcz21_2 : w20.cell? ⟨gb4,2,none⟩ = some (.int .i64 ((rd_T43 l1_0 x5_1).f2)):=(blk_cell BK4.out 2).trans rfl;have hcz21_3 : w20.cell? ⟨gb4,3,none⟩ = some (.int .i64 ((rd_T43 l1_0 x5_1).f3)):=(blk_cell BK4.out 3).trans rfl;have hcz21_4 : w20.cell? ⟨gb4,4,none⟩ = some (.bool ((rd_T43 l1_0 x5_1).f4)):=(blk_cell BK4.out 4).trans rfl;have hfz21_0:=blk_frozen BK4.out 0;have hfz21_1:=blk_frozen BK4.out 1;have hfz21_2:=blk_frozen BK4.out 2;have hfz21_3:=blk_frozen BK4.out 3;have hfz21_4:=blk_frozen BK4.out 4) | (go_at_call 71;(with_reducible refine (spec_inRange.calls ((rd_T43 l1_0 x5_1).f1) 0 99 true _ A9.out).mono ?_);rintro e w' ⟨rfl,⟨nd,rfl⟩⟩;(try first | exact ⟨rfl,_,World.drewN_drewN _ _ _⟩ | exact ⟨rfl,_,Eq.trans (World.drewN_drewN _ _ _) (congrArg (World.drewN _) (Nat.add_assoc _ _ _))⟩);have hcz22_0 : w20.cell? ⟨gb2,0,none⟩ = some (.slice (some ad3) l1_0.length c1_0):=(blk_cell BK2.out 0).trans rfl;have hfz22_0:=blk_frozen BK2.out 0) | (go_at_call 72;(with_reducible refine (spec_validLinks.calls _ _ l1_0 x5_1 true _ ?side1 ?side2 A11.out).mono ?_);(case side1=>repeat (first | exact (Kd.C_below HR1_0.out hb_) | (with_reducible refine Kd.C_alloc ?_ _) | (with_reducible refine Kd.C_drewN ?_ _) | (with_reducible refine Kd.C_drew ?_)));(case side2=>exact HC1_0.out);rintro e w23 ⟨rfl,hb⟩;replace BK1:=kb_ BK1 hb;replace BK2:=kb_ BK2 hb;replace BK4:=kb_ BK4 hb;replace HB:=a0_ (below_step hb_ hb);(try clear hb);(try clear hb2);(try clear hk);(try clear hi))))
        go_roundg k1
        case measure=>have:=HK1.out;omega
        case rel=>exact ⟨(wrap64 (x5_1 + 1)),(by first | rfl | (simp;done) | (simp [*];done)),H',⟨by have:=HK1.out;omega⟩,⟨by (with_reducible repeat (first | refine blk_drewN ?_ _ | refine blk_drew ?_ | refine blk_alloc ?_ _));exact BK1.out⟩,⟨by (with_reducible repeat (first | refine blk_drewN ?_ _ | refine blk_drew ?_ | refine blk_alloc ?_ _));exact BK2.out⟩,⟨hb_⟩⟩
       ·replace c12:=Bool.eq_false_iff.mpr c12
        subst c12
        have H1 : (some false) = some r:=by rw [if_neg (show ¬ (false = true) by decide)] at H;exact H
        clear H
        have H:=H1
        clear H1
        obtain rfl:=Option.some.inj H
        have hnb24:=NB2_1.out
        have hnc24:=NB1_2.out
        have hcz25_0 : wr.cell? ⟨gb2,0,none⟩ = some (.slice A1_0 l1_0.length c1_0):=(blk_cell BK2.out 0).trans rfl
        have hfz25_0:=blk_frozen BK2.out 0
        have p3 : 0 ≤ (x5_1 : Int):=of_decide_eq_true (by first | (with_reducible assumption) | assumption)
        have q3 : x5_1 < (l1_0.length : Int):=of_decide_eq_true (by first | (with_reducible assumption) | assumption)
        obtain ⟨ad3,e3,hx3_0,hx3_1,hx3_2,hx3_3,hx3_4⟩:=at_T43 HR1_0.out x5_1 p3 q3
        cases e3
        replace hx3_0:=(HB.out.cell (World.block_lt_of_cell? w _ hx3_0)).trans hx3_0
        replace hx3_1:=(HB.out.cell (World.block_lt_of_cell? w _ hx3_1)).trans hx3_1
        replace hx3_2:=(HB.out.cell (World.block_lt_of_cell? w _ hx3_2)).trans hx3_2
        replace hx3_3:=(HB.out.cell (World.block_lt_of_cell? w _ hx3_3)).trans hx3_3
        replace hx3_4:=(HB.out.cell (World.block_lt_of_cell? w _ hx3_4)).trans hx3_4
        replace p3:=eq_true p3
        replace q3:=eq_true q3
        go_wp2_with (first | ((with_reducible refine gate_dst (N:=6) rfl ?_);(try (refine gate_guard (by rfl) ?_;dsimp only));refine box_event ?hg (N:=6) ?hd (cs:=#[.int .i64 0,.int .i64 0,.int .i64 0,.int .i64 0,.bool false]) (t:=43) ?hr ?_;(case hd=>rfl);(case hg=>rfl);(case hr=>first | (go_simp;done) | (go_simp;rfl));intro gb4 hg w26 hbox hb;have n0_:=kb_ BK1 hb;have n1_:=kb_ BK2 hb;have n2_:=a0_ (below_step hb_ hb);have n3_:=a0_ (hbox);have n4_:=a0_ ((by rw [hg];exact (below_size hb_) : w.heap.size ≤ gb4));have n5_:=a0_ ((by rw [hg];exact (below_size hb_) : w.heap.size ≤ gb4));have n6_:=a0_ ((by rw [hg];exact Nat.ne_of_lt (blk_lt (bb_ BK1.out)) : gb1 ≠ gb4));have n7_:=a0_ ((by rw [hg];exact Nat.ne_of_gt (blk_lt (bb_ BK1.out)) : gb4 ≠ gb1));have n8_:=a0_ ((by rw [hg];exact Nat.ne_of_lt (blk_lt (bb_ BK2.out)) : gb2 ≠ gb4));have n9_:=a0_ ((by rw [hg];exact Nat.ne_of_gt (blk_lt (bb_ BK2.out)) : gb4 ≠ gb2));clear BK1 BK2 HB;have BK1:=n0_;have BK2:=n1_;have HB:=n2_;have BK4:=n3_;have GW4:=n4_;have GE4:=n5_;have NB1_4:=n6_;have NB4_1:=n7_;have NB2_4:=n8_;have NB4_2:=n9_;clear n0_ n1_ n2_ n3_ n4_ n5_ n6_ n7_ n8_ n9_;clear hb hbox hg;have hnb27:=NB4_1.out;have hnc27:=NB1_4.out;have hnb28:=NB4_2.out;have hnc28:=NB2_4.out;have hcz29_0 : w26.cell? ⟨gb4,0,none⟩ = some (.int .i64 0):=(blk_cell BK4.out 0).trans rfl;have hcz29_1 : w26.cell? ⟨gb4,1,none⟩ = some (.int .i64 0):=(blk_cell BK4.out 1).trans rfl;have hcz29_2 : w26.cell? ⟨gb4,2,none⟩ = some (.int .i64 0):=(blk_cell BK4.out 2).trans rfl;have hcz29_3 : w26.cell? ⟨gb4,3,none⟩ = some (.int .i64 0):=(blk_cell BK4.out 3).trans rfl;have hcz29_4 : w26.cell? ⟨gb4,4,none⟩ = some (.bool false):=(blk_cell BK4.out 4).trans rfl;have hfz29_0:=blk_frozen BK4.out 0;have hfz29_1:=blk_frozen BK4.out 1;have hfz29_2:=blk_frozen BK4.out 2;have hfz29_3:=blk_frozen BK4.out 3;have hfz29_4:=blk_frozen BK4.out 4;have hcz30_0 : w26.cell? ⟨gb1,0,none⟩ = some (.slice A0_0 l0_0.length c0_0):=(blk_cell BK1.out 0).trans rfl;have hfz30_0:=blk_frozen BK1.out 0) | (go_at_call 70;(with_reducible refine (spec_hasClass.calls _ _ l0_0 ((rd_T43 l1_0 x5_1).f0) true _ ?side1 ?side2 A7.out).mono ?_);(case side1=>exact Kd.C_below HR0_0.out hb_);(case side2=>exact HC0_0.out);rintro e w31 ⟨rfl,hb⟩;replace BK1:=a0_ (blk_below (g:=gb1) (o:=.cells #[.slice A0_0 l0_0.length c0_0] 25 (0,0)) (bff_ BK1.out) hb);replace BK2:=a0_ (blk_below (g:=gb2) (o:=.cells #[.slice (some ad3) l1_0.length c1_0] 28 (0,0)) (bff_ BK2.out) hb);replace BK4:=a0_ (blk_below (g:=gb4) (o:=.cells #[.int .i64 ((rd_T43 l1_0 x5_1).f0),.int .i64 ((rd_T43 l1_0 x5_1).f1),.int .i64 ((rd_T43 l1_0 x5_1).f2),.int .i64 ((rd_T43 l1_0 x5_1).f3),.bool ((rd_T43 l1_0 x5_1).f4)] 43 (0,0)) (by (with_reducible repeat (first | refine blk_drewN ?_ _ | refine blk_drew ?_ | refine blk_alloc ?_ _));refine blk_put (cs:=#[.int .i64 ((rd_T43 l1_0 x5_1).f0),.int .i64 ((rd_T43 l1_0 x5_1).f1),.int .i64 ((rd_T43 l1_0 x5_1).f2),.int .i64 ((rd_T43 l1_0 x5_1).f3),.bool false]) ?_ 4 _ rfl;(with_reducible repeat (first | refine blk_drewN ?_ _ | refine blk_drew ?_ | refine blk_alloc ?_ _));refine blk_put (cs:=#[.int .i64 ((rd_T43 l1_0 x5_1).f0),.int .i64 ((rd_T43 l1_0 x5_1).f1),.int .i64 ((rd_T43 l1_0 x5_1).f2),.int .i64 0,.bool false]) ?_ 3 _ rfl;(with_reducible repeat (first | refine blk_drewN ?_ _ | refine blk_drew ?_ | refine blk_alloc ?_ _));refine blk_put (cs:=#[.int .i64 ((rd_T43 l1_0 x5_1).f0),.int .i64 ((rd_T43 l1_0 x5_1).f1),.int .i64 0,.int .i64 0,.bool false]) ?_ 2 _ rfl;(with_reducible repeat (first | refine blk_drewN ?_ _ | refine blk_drew ?_ | refine blk_alloc ?_ _));refine blk_put (cs:=#[.int .i64 ((rd_T43 l1_0 x5_1).f0),.int .i64 0,.int .i64 0,.int .i64 0,.bool false]) ?_ 1 _ rfl;(with_reducible repeat (first | refine blk_drewN ?_ _ | refine blk_drew ?_ | refine blk_alloc ?_ _));refine blk_put (cs:=#[.int .i64 0,.int .i64 0,.int .i64 0,.int .i64 0,.bool false]) ?_ 0 _ rfl;(with_reducible repeat (first | refine blk_drewN ?_ _ | refine blk_drew ?_ | refine blk_alloc ?_ _));exact BK4.out) hb);replace HB:=a0_ (below_step hb_ hb);(try clear hb);have hcz32_0 : w31.cell? ⟨gb4,0,none⟩ = some (.int .i64 ((rd_T43 l1_0 x5_1).f0)):=(blk_cell BK4.out 0).trans rfl;have hcz32_1 : w31.cell? ⟨gb4,1,none⟩ = some (.int .i64 ((rd_T43 l1_0 x5_1).f1)):=(blk_cell BK4.out 1).trans rfl;have hcz32_2 : w31.cell? ⟨gb4,2,none⟩ = some (.int .i64 ((rd_T43 l1_0 x5_1).f2)):=(blk_cell BK4.out 2).trans rfl;have hcz32_3 : w31.cell? ⟨gb4,3,none⟩ = some (.int .i64 ((rd_T43 l1_0 x5_1).f3)):=(blk_cell BK4.out 3).trans rfl;have hcz32_4 : w31.cell? ⟨gb4,4,none⟩ = some (.bool ((rd_T43 l1_0 x5_1).f4)):=(blk_cell BK4.out 4).trans rfl;have hfz32_0:=blk_frozen BK4.out 0;have hfz32_1:=blk_frozen BK4.out 1;have hfz32_2:=blk_frozen BK4.out 2;have hfz32_3:=blk_frozen BK4.out 3;have hfz32_4:=blk_frozen BK4.out 4) | (go_at_call 71;(with_reducible refine (spec_inRange.calls ((rd_T43 l1_0 x5_1).f1) 0 99 true _ A9.out).mono ?_);rintro e w' ⟨rfl,⟨nd,rfl⟩⟩;(try first | exact ⟨rfl,_,World.drewN_drewN _ _ _⟩ | exact ⟨rfl,_,Eq.trans (World.drewN_drewN _ _ _) (congrArg (World.drewN _) (Nat.add_assoc _ _ _))⟩);have hcz33_0 : w31.cell? ⟨gb2,0,none⟩ = some (.slice (some ad3) l1_0.length c1_0):=(blk_cell BK2.out 0).trans rfl;have hfz33_0:=blk_frozen BK2.out 0) | (go_at_call 72;(with_reducible refine (spec_validLinks.calls _ _ l1_0 x5_1 false _ ?side1 ?side2 A11.out).mono ?_);(case side1=>repeat (first | exact (Kd.C_below HR1_0.out hb_) | (with_reducible refine Kd.C_alloc ?_ _) | (with_reducible refine Kd.C_drewN ?_ _) | (with_reducible refine Kd.C_drew ?_)));(case side2=>exact HC1_0.out);rintro e w34 ⟨rfl,hb⟩;replace BK1:=kb_ BK1 hb;replace BK2:=kb_ BK2 hb;replace BK4:=kb_ BK4 hb;replace HB:=a0_ (below_step hb_ hb);(try clear hb);(try clear hb2);(try clear hk);(try clear hi)))
        repeat (go_quiet (first | ((with_reducible refine gate_dst (N:=6) rfl ?_);(try (refine gate_guard (by rfl) ?_;dsimp only));refine box_event ?hg (N:=6) ?hd (cs:=#[.int .i64 0,.int .i64 0,.int .i64 0,.int .i64 0,.bool false]) (t:=43) ?hr ?_;(case hd=>rfl);(case hg=>rfl);(case hr=>first | (go_simp;done) | (go_simp;rfl));intro gb4 hg w26 hbox hb;have n0_:=kb_ BK1 hb;have n1_:=kb_ BK2 hb;have n2_:=a0_ (below_step hb_ hb);have n3_:=a0_ (hbox);have n4_:=a0_ ((by rw [hg];exact (below_size hb_) : w.heap.size ≤ gb4));have n5_:=a0_ ((by rw [hg];exact (below_size hb_) : w.heap.size ≤ gb4));have n6_:=a0_ ((by rw [hg];exact Nat.ne_of_lt (blk_lt (bb_ BK1.out)) : gb1 ≠ gb4));have n7_:=a0_ ((by rw [hg];exact Nat.ne_of_gt (blk_lt (bb_ BK1.out)) : gb4 ≠ gb1));have n8_:=a0_ ((by rw [hg];exact Nat.ne_of_lt (blk_lt (bb_ BK2.out)) : gb2 ≠ gb4));have n9_:=a0_ ((by rw [hg];exact Nat.ne_of_gt (blk_lt (bb_ BK2.out)) : gb4 ≠ gb2));clear BK1 BK2 HB;have BK1:=n0_;have BK2:=n1_;have HB:=n2_;have BK4:=n3_;have GW4:=n4_;have GE4:=n5_;have NB1_4:=n6_;have NB4_1:=n7_;have NB2_4:=n8_;have NB4_2:=n9_;clear n0_ n1_ n2_ n3_ n4_ n5_ n6_ n7_ n8_ n9_;clear hb hbox hg;have hnb27:=NB4_1.out;have hnc27:=NB1_4.out;have hnb28:=NB4_2.out;have hnc28:=NB2_4.out;have hcz29_0 : w26.cell? ⟨gb4,0,none⟩ = some (.int .i64 0):=(blk_cell BK4.out 0).trans rfl;have hcz29_1 : w26.cell? ⟨gb4,1,none⟩ = some (.int .i64 0):=(blk_cell BK4.out 1).trans rfl;have hcz29_2 : w26.cell? ⟨gb4,2,none⟩ = some (.int .i64 0):=(blk_cell BK4.out 2).trans rfl;have hcz29_3 : w26.cell? ⟨gb4,3,none⟩ = some (.int .i64 0):=(blk_cell BK4.out 3).trans rfl;have hcz29_4 : w26.cell? ⟨gb4,4,none⟩ = some (.bool false):=(blk_cell BK4.out 4).trans rfl;have hfz29_0:=blk_frozen BK4.out 0;have hfz29_1:=blk_frozen BK4.out 1;have hfz29_2:=blk_frozen BK4.out 2;have hfz29_3:=blk_frozen BK4.out 3;have hfz29_4:=blk_frozen BK4.out 4;have hcz30_0 : w26.cell? ⟨gb1,0,none⟩ = some (.slice A0_0 l0_0.length c0_0):=(blk_cell BK1.out 0).trans rfl;have hfz30_0:=blk_frozen BK1.out 0) | (go_at_call 70;(with_reducible refine (spec_hasClass.calls _ _ l0_0 ((rd_T43 l1_0 x5_1).f0) true _ ?side1 ?side2 A7.out).mono ?_);(case side1=>exact Kd.C_below HR0_0.out hb_);(case side2=>exact HC0_0.out);rintro e w31 ⟨rfl,hb⟩;replace BK1:=a0_ (blk_below (g:=gb1) (o:=.cells #[.slice A0_0 l0_0.length c0_0] 25 (0,0)) (bff_ BK1.out) hb);replace BK2:=a0_ (blk_below (g:=gb2) (o:=.cells #[.slice (some ad3) l1_0.length c1_0] 28 (0,0)) (bff_ BK2.out) hb);replace BK4:=a0_ (blk_below (g:=gb4) (o:=.cells #[.int .i64 ((rd_T43 l1_0 x5_1).f0),.int .i64 ((rd_T43 l1_0 x5_1).f1),.int .i64 ((rd_T43 l1_0 x5_1).f2),.int .i64 ((rd_T43 l1_0 x5_1).f3),.bool ((rd_T43 l1_0 x5_1).f4)] 43 (0,0)) (by (with_reducible repeat (first | refine blk_drewN ?_ _ | refine blk_drew ?_ | refine blk_alloc ?_ _));refine blk_put (cs:=#[.int .i64 ((rd_T43 l1_0 x5_1).f0),.int .i64 ((rd_T43 l1_0 x5_1).f1),.int .i64 ((rd_T43 l1_0 x5_1).f2),.int .i64 ((rd_T43 l1_0 x5_1).f3),.bool false]) ?_ 4 _ rfl;(with_reducible repeat (first | refine blk_drewN ?_ _ | refine blk_drew ?_ | refine blk_alloc ?_ _));refine blk_put (cs:=#[.int .i64 ((rd_T43 l1_0 x5_1).f0),.int .i64 ((rd_T43 l1_0 x5_1).f1),.int .i64 ((rd_T43 l1_0 x5_1).f2),.int .i64 0,.bool false]) ?_ 3 _ rfl;(with_reducible repeat (first | refine blk_drewN ?_ _ | refine blk_drew ?_ | refine blk_alloc ?_ _));refine blk_put (cs:=#[.int .i64 ((rd_T43 l1_0 x5_1).f0),.int .i64 ((rd_T43 l1_0 x5_1).f1),.int .i64 0,.int .i64 0,.bool false]) ?_ 2 _ rfl;(with_reducible repeat (first | refine blk_drewN ?_ _ | refine blk_drew ?_ | refine blk_alloc ?_ _));refine blk_put (cs:=#[.int .i64 ((rd_T43 l1_0 x5_1).f0),.int .i64 0,.int .i64 0,.int .i64 0,.bool false]) ?_ 1 _ rfl;(with_reducible repeat (first | refine blk_drewN ?_ _ | refine blk_drew ?_ | refine blk_alloc ?_ _));refine blk_put (cs:=#[.int .i64 0,.int .i64 0,.int .i64 0,.int .i64 0,.bool false]) ?_ 0 _ rfl;(with_reducible repeat (first | refine blk_drewN ?_ _ | refine blk_drew ?_ | refine blk_alloc ?_ _));exact BK4.out) hb);replace HB:=a0_ (below_step hb_ hb);(try clear hb);have hcz32_0 : w31.cell? ⟨gb4,0,none⟩ = some (.int .i64 ((rd_T43 l1_0 x5_1).f0)):=(blk_cell BK4.out 0).trans rfl;have hcz32_1 : w31.cell? ⟨gb4,1,none⟩ = some (.int .i64 ((rd_T43 l1_0 x5_1).f1)):=(blk_cell BK4.out 1).trans rfl;have hcz32_2 : w31.cell? ⟨gb4,2,none⟩ = some (.int .i64 ((rd_T43 l1_0 x5_1).f2)):=(blk_cell BK4.out 2).trans rfl;have hcz32_3 : w31.cell? ⟨gb4,3,none⟩ = some (.int .i64 ((rd_T43 l1_0 x5_1).f3)):=(blk_cell BK4.out 3).trans rfl;have hcz32_4 : w31.cell? ⟨gb4,4,none⟩ = some (.bool ((rd_T43 l1_0 x5_1).f4)):=(blk_cell BK4.out 4).trans rfl;have hfz32_0:=blk_frozen BK4.out 0;have hfz32_1:=blk_frozen BK4.out 1;have hfz32_2:=blk_frozen BK4.out 2;have hfz32_3:=blk_frozen BK4.out 3;have hfz32_4:=blk_frozen BK4.out 4) | (go_at_call 71;(with_reducible refine (spec_inRange.calls ((rd_T43 l1_0 x5_1).f1) 0 99 true _ A9.out).mono ?_);rintro e w' ⟨rfl,⟨nd,rfl⟩⟩;(try first | exact ⟨rfl,_,World.drewN_drewN _ _ _⟩ | exact ⟨rfl,_,Eq.trans (World.drewN_drewN _ _ _) (congrArg (World.drewN _) (Nat.add_assoc _ _ _))⟩);have hcz33_0 : w31.cell? ⟨gb2,0,none⟩ = some (.slice (some ad3) l1_0.length c1_0):=(blk_cell BK2.out 0).trans rfl;have hfz33_0:=blk_frozen BK2.out 0) | (go_at_call 72;(with_reducible refine (spec_validLinks.calls _ _ l1_0 x5_1 false _ ?side1 ?side2 A11.out).mono ?_);(case side1=>repeat (first | exact (Kd.C_below HR1_0.out hb_) | (with_reducible refine Kd.C_alloc ?_ _) | (with_reducible refine Kd.C_drewN ?_ _) | (with_reducible refine Kd.C_drew ?_)));(case side2=>exact HC1_0.out);rintro e w34 ⟨rfl,hb⟩;replace BK1:=kb_ BK1 hb;replace BK2:=kb_ BK2 hb;replace BK4:=kb_ BK4 hb;replace HB:=a0_ (below_step hb_ hb);(try clear hb);(try clear hb2);(try clear hk);(try clear hi)));try go_wp2_with (first | ((with_reducible refine gate_dst (N:=6) rfl ?_);(try (refine gate_guard (by rfl) ?_;dsimp only));refine box_event ?hg (N:=6) ?hd (cs:=#[.int .i64 0,.int .i64 0,.int .i64 0,.int .i64 0,.bool false]) (t:=43) ?hr ?_;(case hd=>rfl);(case hg=>rfl);(case hr=>first | (go_simp;done) | (go_simp;rfl));intro gb4 hg w26 hbox hb;have n0_:=kb_ BK1 hb;have n1_:=kb_ BK2 hb;have n2_:=a0_ (below_step hb_ hb);have n3_:=a0_ (hbox);have n4_:=a0_ ((by rw [hg];exact (below_size hb_) : w.heap.size ≤ gb4));have n5_:=a0_ ((by rw [hg];exact (below_size hb_) : w.heap.size ≤ gb4));have n6_:=a0_ ((by rw [hg];exact Nat.ne_of_lt (blk_lt (bb_ BK1.out)) : gb1 ≠ gb4));have n7_:=a0_ ((by rw [hg];exact Nat.ne_of_gt (blk_lt (bb_ BK1.out)) : gb4 ≠ gb1));have n8_:=a0_ ((by rw [hg];exact Nat.ne_of_lt (blk_lt (bb_ BK2.out)) : gb2 ≠ gb4));have n9_:=a0_ ((by rw [hg];exact Nat.ne_of_gt (blk_lt (bb_ BK2.out)) : gb4 ≠ gb2));clear BK1 BK2 HB;have BK1:=n0_;have BK2:=n1_;have HB:=n2_;have BK4:=n3_;have GW4:=n4_;have GE4:=n5_;have NB1_4:=n6_;have NB4_1:=n7_;have NB2_4:=n8_;have NB4_2:=n9_;clear n0_ n1_ n2_ n3_ n4_ n5_ n6_ n7_ n8_ n9_;clear hb hbox hg;have hnb27:=NB4_1.out;have hnc27:=NB1_4.out;have hnb28:=NB4_2.out;have hnc28:=NB2_4.out;have hcz29_0 : w26.cell? ⟨gb4,0,none⟩ = some (.int .i64 0):=(blk_cell BK4.out 0).trans rfl;have hcz29_1 : w26.cell? ⟨gb4,1,none⟩ = some (.int .i64 0):=(blk_cell BK4.out 1).trans rfl;have hcz29_2 : w26.cell? ⟨gb4,2,none⟩ = some (.int .i64 0):=(blk_cell BK4.out 2).trans rfl;have hcz29_3 : w26.cell? ⟨gb4,3,none⟩ = some (.int .i64 0):=(blk_cell BK4.out 3).trans rfl;have hcz29_4 : w26.cell? ⟨gb4,4,none⟩ = some (.bool false):=(blk_cell BK4.out 4).trans rfl;have hfz29_0:=blk_frozen BK4.out 0;have hfz29_1:=blk_frozen BK4.out 1;have hfz29_2:=blk_frozen BK4.out 2;have hfz29_3:=blk_frozen BK4.out 3;have hfz29_4:=blk_frozen BK4.out 4;have hcz30_0 : w26.cell? ⟨gb1,0,none⟩ = some (.slice A0_0 l0_0.length c0_0):=(blk_cell BK1.out 0).trans rfl;have hfz30_0:=blk_frozen BK1.out 0) | (go_at_call 70;(with_reducible refine (spec_hasClass.calls _ _ l0_0 ((rd_T43 l1_0 x5_1).f0) true _ ?side1 ?side2 A7.out).mono ?_);(case side1=>exact Kd.C_below HR0_0.out hb_);(case side2=>exact HC0_0.out);rintro e w31 ⟨rfl,hb⟩;replace BK1:=a0_ (blk_below (g:=gb1) (o:=.cells #[.slice A0_0 l0_0.length c0_0] 25 (0,0)) (bff_ BK1.out) hb);replace BK2:=a0_ (blk_below (g:=gb2) (o:=.cells #[.slice (some ad3) l1_0.length c1_0] 28 (0,0)) (bff_ BK2.out) hb);replace BK4:=a0_ (blk_below (g:=gb4) (o:=.cells #[.int .i64 ((rd_T43 l1_0 x5_1).f0),.int .i64 ((rd_T43 l1_0 x5_1).f1),.int .i64 ((rd_T43 l1_0 x5_1).f2),.int .i64 ((rd_T43 l1_0 x5_1).f3),.bool ((rd_T43 l1_0 x5_1).f4)] 43 (0,0)) (by (with_reducible repeat (first | refine blk_drewN ?_ _ | refine blk_drew ?_ | refine blk_alloc ?_ _));refine blk_put (cs:=#[.int .i64 ((rd_T43 l1_0 x5_1).f0),.int .i64 ((rd_T43 l1_0 x5_1).f1),.int .i64 ((rd_T43 l1_0 x5_1).f2),.int .i64 ((rd_T43 l1_0 x5_1).f3),.bool false]) ?_ 4 _ rfl;(with_reducible repeat (first | refine blk_drewN ?_ _ | refine blk_drew ?_ | refine blk_alloc ?_ _));refine blk_put (cs:=#[.int .i64 ((rd_T43 l1_0 x5_1).f0),.int .i64 ((rd_T43 l1_0 x5_1).f1),.int .i64 ((rd_T43 l1_0 x5_1).f2),.int .i64 0,.bool false]) ?_ 3 _ rfl;(with_reducible repeat (first | refine blk_drewN ?_ _ | refine blk_drew ?_ | refine blk_alloc ?_ _));refine blk_put (cs:=#[.int .i64 ((rd_T43 l1_0 x5_1).f0),.int .i64 ((rd_T43 l1_0 x5_1).f1),.int .i64 0,.int .i64 0,.bool false]) ?_ 2 _ rfl;(with_reducible repeat (first | refine blk_drewN ?_ _ | refine blk_drew ?_ | refine blk_alloc ?_ _));refine blk_put (cs:=#[.int .i64 ((rd_T43 l1_0 x5_1).f0),.int .i64 0,.int .i64 0,.int .i64 0,.bool false]) ?_ 1 _ rfl;(with_reducible repeat (first | refine blk_drewN ?_ _ | refine blk_drew ?_ | refine blk_alloc ?_ _));refine blk_put (cs:=#[.int .i64 0,.int .i64 0,.int .i64 0,.int .i64 0,.bool false]) ?_ 0 _ rfl;(with_reducible repeat (first | refine blk_drewN ?_ _ | refine blk_drew ?_ | refine blk_alloc ?_ _));exact BK4.out) hb);replace HB:=a0_ (below_step hb_ hb);(try clear hb);have hcz32_0 : w31.cell? ⟨gb4,0,none⟩ = some (.int .i64 ((rd_T43 l1_0 x5_1).f0)):=(blk_cell BK4.out 0).trans rfl;have hcz32_1 : w31.cell? ⟨gb4,1,none⟩ = some (.int .i64 ((rd_T43 l1_0 x5_1).f1)):=(blk_cell BK4.out 1).trans rfl;have hcz32_2 : w31.cell? ⟨gb4,2,none⟩ = some (.int .i64 ((rd_T43 l1_0 x5_1).f2)):=(blk_cell BK4.out 2).trans rfl;have hcz32_3 : w31.cell? ⟨gb4,3,none⟩ = some (.int .i64 ((rd_T43 l1_0 x5_1).f3)):=(blk_cell BK4.out 3).trans rfl;have hcz32_4 : w31.cell? ⟨gb4,4,none⟩ = some (.bool ((rd_T43 l1_0 x5_1).f4)):=(blk_cell BK4.out 4).trans rfl;have hfz32_0:=blk_frozen BK4.out 0;have hfz32_1:=blk_frozen BK4.out 1;have hfz32_2:=blk_frozen BK4.out 2;have hfz32_3:=blk_frozen BK4.out 3;have hfz32_4:=blk_frozen BK4.out 4) | (go_at_call 71;(with_reducible refine (spec_inRange.calls ((rd_T43 l1_0 x5_1).f1) 0 99 true _ A9.out).mono ?_);rintro e w' ⟨rfl,⟨nd,rfl⟩⟩;(try first | exact ⟨rfl,_,World.drewN_drewN _ _ _⟩ | exact ⟨rfl,_,Eq.trans (World.drewN_drewN _ _ _) (congrArg (World.drewN _) (Nat.add_assoc _ _ _))⟩);have hcz33_0 : w31.cell? ⟨gb2,0,none⟩ = some (.slice (some ad3) l1_0.length c1_0):=(blk_cell BK2.out 0).trans rfl;have hfz33_0:=blk_frozen BK2.out 0) | (go_at_call 72;(with_reducible refine (spec_validLinks.calls _ _ l1_0 x5_1 false _ ?side1 ?side2 A11.out).mono ?_);(case side1=>repeat (first | exact (Kd.C_below HR1_0.out hb_) | (with_reducible refine Kd.C_alloc ?_ _) | (with_reducible refine Kd.C_drewN ?_ _) | (with_reducible refine Kd.C_drew ?_)));(case side2=>exact HC1_0.out);rintro e w34 ⟨rfl,hb⟩;replace BK1:=kb_ BK1 hb;replace BK2:=kb_ BK2 hb;replace BK4:=kb_ BK4 hb;replace HB:=a0_ (below_step hb_ hb);(try clear hb);(try clear hb2);(try clear hk);(try clear hi))))
        go_ret
        exact ⟨by first | rfl | (simp [errW_none,errW_some] <;> rfl) | (simp [*,errW_none,errW_some] <;> rfl),hb_⟩
      ·replace c10:=Bool.eq_false_iff.mpr c10
       subst c10
       have H1 : (some false) = some r:=by rw [if_neg (show ¬ (false = true) by decide)] at H;exact H
       clear H
       have H:=H1
       clear H1
       obtain rfl:=Option.some.inj H
       have hnb35:=NB2_1.out
       have hnc35:=NB1_2.out
       have hcz36_0 : wr.cell? ⟨gb2,0,none⟩ = some (.slice A1_0 l1_0.length c1_0):=(blk_cell BK2.out 0).trans rfl
       have hfz36_0:=blk_frozen BK2.out 0
       have p3 : 0 ≤ (x5_1 : Int):=of_decide_eq_true (by first | (with_reducible assumption) | assumption)
       have q3 : x5_1 < (l1_0.length : Int):=of_decide_eq_true (by first | (with_reducible assumption) | assumption)
       obtain ⟨ad3,e3,hx3_0,hx3_1,hx3_2,hx3_3,hx3_4⟩:=at_T43 HR1_0.out x5_1 p3 q3
       cases e3
       replace hx3_0:=(HB.out.cell (World.block_lt_of_cell? w _ hx3_0)).trans hx3_0
       replace hx3_1:=(HB.out.cell (World.block_lt_of_cell? w _ hx3_1)).trans hx3_1
       replace hx3_2:=(HB.out.cell (World.block_lt_of_cell? w _ hx3_2)).trans hx3_2
       replace hx3_3:=(HB.out.cell (World.block_lt_of_cell? w _ hx3_3)).trans hx3_3
       replace hx3_4:=(HB.out.cell (World.block_lt_of_cell? w _ hx3_4)).trans hx3_4
       replace p3:=eq_true p3
       replace q3:=eq_true q3
       go_wp2_with (first | ((with_reducible refine gate_dst (N:=6) rfl ?_);(try (refine gate_guard (by rfl) ?_;dsimp only));refine box_event ?hg (N:=6) ?hd (cs:=#[.int .i64 0,.int .i64 0,.int .i64 0,.int .i64 0,.bool false]) (t:=43) ?hr ?_;(case hd=>rfl);(case hg=>rfl);(case hr=>first | (go_simp;done) | (go_simp;rfl));intro gb4 hg w37 hbox hb;have n0_:=kb_ BK1 hb;have n1_:=kb_ BK2 hb;have n2_:=a0_ (below_step hb_ hb);have n3_:=a0_ (hbox);have n4_:=a0_ ((by rw [hg];exact (below_size hb_) : w.heap.size ≤ gb4));have n5_:=a0_ ((by rw [hg];exact (below_size hb_) : w.heap.size ≤ gb4));have n6_:=a0_ ((by rw [hg];exact Nat.ne_of_lt (blk_lt (bb_ BK1.out)) : gb1 ≠ gb4));have n7_:=a0_ ((by rw [hg];exact Nat.ne_of_gt (blk_lt (bb_ BK1.out)) : gb4 ≠ gb1));have n8_:=a0_ ((by rw [hg];exact Nat.ne_of_lt (blk_lt (bb_ BK2.out)) : gb2 ≠ gb4));have n9_:=a0_ ((by rw [hg];exact Nat.ne_of_gt (blk_lt (bb_ BK2.out)) : gb4 ≠ gb2));clear BK1 BK2 HB;have BK1:=n0_;have BK2:=n1_;have HB:=n2_;have BK4:=n3_;have GW4:=n4_;have GE4:=n5_;have NB1_4:=n6_;have NB4_1:=n7_;have NB2_4:=n8_;have NB4_2:=n9_;clear n0_ n1_ n2_ n3_ n4_ n5_ n6_ n7_ n8_ n9_;clear hb hbox hg;have hnb38:=NB4_1.out;have hnc38:=NB1_4.out;have hnb39:=NB4_2.out;have hnc39:=NB2_4.out;have hcz40_0 : w37.cell? ⟨gb4,0,none⟩ = some (.int .i64 0):=(blk_cell BK4.out 0).trans rfl;have hcz40_1 : w37.cell? ⟨gb4,1,none⟩ = some (.int .i64 0):=(blk_cell BK4.out 1).trans rfl;have hcz40_2 : w37.cell? ⟨gb4,2,none⟩ = some (.int .i64 0):=(blk_cell BK4.out 2).trans rfl;have hcz40_3 : w37.cell? ⟨gb4,3,none⟩ = some (.int .i64 0):=(blk_cell BK4.out 3).trans rfl;have hcz40_4 : w37.cell? ⟨gb4,4,none⟩ = some (.bool false):=(blk_cell BK4.out 4).trans rfl;have hfz40_0:=blk_frozen BK4.out 0;have hfz40_1:=blk_frozen BK4.out 1;have hfz40_2:=blk_frozen BK4.out 2;have hfz40_3:=blk_frozen BK4.out 3;have hfz40_4:=blk_frozen BK4.out 4;have hcz41_0 : w37.cell? ⟨gb1,0,none⟩ = some (.slice A0_0 l0_0.length c0_0):=(blk_cell BK1.out 0).trans rfl;have hfz41_0:=blk_frozen BK1.out 0) | (go_at_call 70;(with_reducible refine (spec_hasClass.calls _ _ l0_0 ((rd_T43 l1_0 x5_1).f0) true _ ?side1 ?side2 A7.out).mono ?_);(case side1=>exact Kd.C_below HR0_0.out hb_);(case side2=>exact HC0_0.out);rintro e w42 ⟨rfl,hb⟩;replace BK1:=a0_ (blk_below (g:=gb1) (o:=.cells #[.slice A0_0 l0_0.length c0_0] 25 (0,0)) (bff_ BK1.out) hb);replace BK2:=a0_ (blk_below (g:=gb2) (o:=.cells #[.slice (some ad3) l1_0.length c1_0] 28 (0,0)) (bff_ BK2.out) hb);replace BK4:=a0_ (blk_below (g:=gb4) (o:=.cells #[.int .i64 ((rd_T43 l1_0 x5_1).f0),.int .i64 ((rd_T43 l1_0 x5_1).f1),.int .i64 ((rd_T43 l1_0 x5_1).f2),.int .i64 ((rd_T43 l1_0 x5_1).f3),.bool ((rd_T43 l1_0 x5_1).f4)] 43 (0,0)) (by (with_reducible repeat (first | refine blk_drewN ?_ _ | refine blk_drew ?_ | refine blk_alloc ?_ _));refine blk_put (cs:=#[.int .i64 ((rd_T43 l1_0 x5_1).f0),.int .i64 ((rd_T43 l1_0 x5_1).f1),.int .i64 ((rd_T43 l1_0 x5_1).f2),.int .i64 ((rd_T43 l1_0 x5_1).f3),.bool false]) ?_ 4 _ rfl;(with_reducible repeat (first | refine blk_drewN ?_ _ | refine blk_drew ?_ | refine blk_alloc ?_ _));refine blk_put (cs:=#[.int .i64 ((rd_T43 l1_0 x5_1).f0),.int .i64 ((rd_T43 l1_0 x5_1).f1),.int .i64 ((rd_T43 l1_0 x5_1).f2),.int .i64 0,.bool false]) ?_ 3 _ rfl;(with_reducible repeat (first | refine blk_drewN ?_ _ | refine blk_drew ?_ | refine blk_alloc ?_ _));refine blk_put (cs:=#[.int .i64 ((rd_T43 l1_0 x5_1).f0),.int .i64 ((rd_T43 l1_0 x5_1).f1),.int .i64 0,.int .i64 0,.bool false]) ?_ 2 _ rfl;(with_reducible repeat (first | refine blk_drewN ?_ _ | refine blk_drew ?_ | refine blk_alloc ?_ _));refine blk_put (cs:=#[.int .i64 ((rd_T43 l1_0 x5_1).f0),.int .i64 0,.int .i64 0,.int .i64 0,.bool false]) ?_ 1 _ rfl;(with_reducible repeat (first | refine blk_drewN ?_ _ | refine blk_drew ?_ | refine blk_alloc ?_ _));refine blk_put (cs:=#[.int .i64 0,.int .i64 0,.int .i64 0,.int .i64 0,.bool false]) ?_ 0 _ rfl;(with_reducible repeat (first | refine blk_drewN ?_ _ | refine blk_drew ?_ | refine blk_alloc ?_ _));exact BK4.out) hb);replace HB:=a0_ (below_step hb_ hb);(try clear hb);have hcz43_0 : w42.cell? ⟨gb4,0,none⟩ = some (.int .i64 ((rd_T43 l1_0 x5_1).f0)):=(blk_cell BK4.out 0).trans rfl;have hcz43_1 : w42.cell? ⟨gb4,1,none⟩ = some (.int .i64 ((rd_T43 l1_0 x5_1).f1)):=(blk_cell BK4.out 1).trans rfl;have hcz43_2 : w42.cell? ⟨gb4,2,none⟩ = some (.int .i64 ((rd_T43 l1_0 x5_1).f2)):=(blk_cell BK4.out 2).trans rfl;have hcz43_3 : w42.cell? ⟨gb4,3,none⟩ = some (.int .i64 ((rd_T43 l1_0 x5_1).f3)):=(blk_cell BK4.out 3).trans rfl;have hcz43_4 : w42.cell? ⟨gb4,4,none⟩ = some (.bool ((rd_T43 l1_0 x5_1).f4)):=(blk_cell BK4.out 4).trans rfl;have hfz43_0:=blk_frozen BK4.out 0;have hfz43_1:=blk_frozen BK4.out 1;have hfz43_2:=blk_frozen BK4.out 2;have hfz43_3:=blk_frozen BK4.out 3;have hfz43_4:=blk_frozen BK4.out 4) | (go_at_call 71;(with_reducible refine (spec_inRange.calls ((rd_T43 l1_0 x5_1).f1) 0 99 false _ A9.out).mono ?_);rintro e w' ⟨rfl,⟨nd,rfl⟩⟩;(try first | exact ⟨rfl,_,World.drewN_drewN _ _ _⟩ | exact ⟨rfl,_,Eq.trans (World.drewN_drewN _ _ _) (congrArg (World.drewN _) (Nat.add_assoc _ _ _))⟩)))
       repeat (go_quiet (first | ((with_reducible refine gate_dst (N:=6) rfl ?_);(try (refine gate_guard (by rfl) ?_;dsimp only));refine box_event ?hg (N:=6) ?hd (cs:=#[.int .i64 0,.int .i64 0,.int .i64 0,.int .i64 0,.bool false]) (t:=43) ?hr ?_;(case hd=>rfl);(case hg=>rfl);(case hr=>first | (go_simp;done) | (go_simp;rfl));intro gb4 hg w37 hbox hb;have n0_:=kb_ BK1 hb;have n1_:=kb_ BK2 hb;have n2_:=a0_ (below_step hb_ hb);have n3_:=a0_ (hbox);have n4_:=a0_ ((by rw [hg];exact (below_size hb_) : w.heap.size ≤ gb4));have n5_:=a0_ ((by rw [hg];exact (below_size hb_) : w.heap.size ≤ gb4));have n6_:=a0_ ((by rw [hg];exact Nat.ne_of_lt (blk_lt (bb_ BK1.out)) : gb1 ≠ gb4));have n7_:=a0_ ((by rw [hg];exact Nat.ne_of_gt (blk_lt (bb_ BK1.out)) : gb4 ≠ gb1));have n8_:=a0_ ((by rw [hg];exact Nat.ne_of_lt (blk_lt (bb_ BK2.out)) : gb2 ≠ gb4));have n9_:=a0_ ((by rw [hg];exact Nat.ne_of_gt (blk_lt (bb_ BK2.out)) : gb4 ≠ gb2));clear BK1 BK2 HB;have BK1:=n0_;have BK2:=n1_;have HB:=n2_;have BK4:=n3_;have GW4:=n4_;have GE4:=n5_;have NB1_4:=n6_;have NB4_1:=n7_;have NB2_4:=n8_;have NB4_2:=n9_;clear n0_ n1_ n2_ n3_ n4_ n5_ n6_ n7_ n8_ n9_;clear hb hbox hg;have hnb38:=NB4_1.out;have hnc38:=NB1_4.out;have hnb39:=NB4_2.out;have hnc39:=NB2_4.out;have hcz40_0 : w37.cell? ⟨gb4,0,none⟩ = some (.int .i64 0):=(blk_cell BK4.out 0).trans rfl;have hcz40_1 : w37.cell? ⟨gb4,1,none⟩ = some (.int .i64 0):=(blk_cell BK4.out 1).trans rfl;have hcz40_2 : w37.cell? ⟨gb4,2,none⟩ = some (.int .i64 0):=(blk_cell BK4.out 2).trans rfl;have hcz40_3 : w37.cell? ⟨gb4,3,none⟩ = some (.int .i64 0):=(blk_cell BK4.out 3).trans rfl;have hcz40_4 : w37.cell? ⟨gb4,4,none⟩ = some (.bool false):=(blk_cell BK4.out 4).trans rfl;have hfz40_0:=blk_frozen BK4.out 0;have hfz40_1:=blk_frozen BK4.out 1;have hfz40_2:=blk_frozen BK4.out 2;have hfz40_3:=blk_frozen BK4.out 3;have hfz40_4:=blk_frozen BK4.out 4;have hcz41_0 : w37.cell? ⟨gb1,0,none⟩ = some (.slice A0_0 l0_0.length c0_0):=(blk_cell BK1.out 0).trans rfl;have hfz41_0:=blk_frozen BK1.out 0) | (go_at_call 70;(with_reducible refine (spec_hasClass.calls _ _ l0_0 ((rd_T43 l1_0 x5_1).f0) true _ ?side1 ?side2 A7.out).mono ?_);(case side1=>exact Kd.C_below HR0_0.out hb_);(case side2=>exact HC0_0.out);rintro e w42 ⟨rfl,hb⟩;replace BK1:=a0_ (blk_below (g:=gb1) (o:=.cells #[.slice A0_0 l0_0.length c0_0] 25 (0,0)) (bff_ BK1.out) hb);replace BK2:=a0_ (blk_below (g:=gb2) (o:=.cells #[.slice (some ad3) l1_0.length c1_0] 28 (0,0)) (bff_ BK2.out) hb);replace BK4:=a0_ (blk_below (g:=gb4) (o:=.cells #[.int .i64 ((rd_T43 l1_0 x5_1).f0),.int .i64 ((rd_T43 l1_0 x5_1).f1),.int .i64 ((rd_T43 l1_0 x5_1).f2),.int .i64 ((rd_T43 l1_0 x5_1).f3),.bool ((rd_T43 l1_0 x5_1).f4)] 43 (0,0)) (by (with_reducible repeat (first | refine blk_drewN ?_ _ | refine blk_drew ?_ | refine blk_alloc ?_ _));refine blk_put (cs:=#[.int .i64 ((rd_T43 l1_0 x5_1).f0),.int .i64 ((rd_T43 l1_0 x5_1).f1),.int .i64 ((rd_T43 l1_0 x5_1).f2),.int .i64 ((rd_T43 l1_0 x5_1).f3),.bool false]) ?_ 4 _ rfl;(with_reducible repeat (first | refine blk_drewN ?_ _ | refine blk_drew ?_ | refine blk_alloc ?_ _));refine blk_put (cs:=#[.int .i64 ((rd_T43 l1_0 x5_1).f0),.int .i64 ((rd_T43 l1_0 x5_1).f1),.int .i64 ((rd_T43 l1_0 x5_1).f2),.int .i64 0,.bool false]) ?_ 3 _ rfl;(with_reducible repeat (first | refine blk_drewN ?_ _ | refine blk_drew ?_ | refine blk_alloc ?_ _));refine blk_put (cs:=#[.int .i64 ((rd_T43 l1_0 x5_1).f0),.int .i64 ((rd_T43 l1_0 x5_1).f1),.int .i64 0,.int .i64 0,.bool false]) ?_ 2 _ rfl;(with_reducible repeat (first | refine blk_drewN ?_ _ | refine blk_drew ?_ | refine blk_alloc ?_ _));refine blk_put (cs:=#[.int .i64 ((rd_T43 l1_0 x5_1).f0),.int .i64 0,.int .i64 0,.int .i64 0,.bool false]) ?_ 1 _ rfl;(with_reducible repeat (first | refine blk_drewN ?_ _ | refine blk_drew ?_ | refine blk_alloc ?_ _));refine blk_put (cs:=#[.int .i64 0,.int .i64 0,.int .i64 0,.int .i64 0,.bool false]) ?_ 0 _ rfl;(with_reducible repeat (first | refine blk_drewN ?_ _ | refine blk_drew ?_ | refine blk_alloc ?_ _));exact BK4.out) hb);replace HB:=a0_ (below_step hb_ hb);(try clear hb);have hcz43_0 : w42.cell? ⟨gb4,0,none⟩ = some (.int .i64 ((rd_T43 l1_0 x5_1).f0)):=(blk_cell BK4.out 0).trans rfl;have hcz43_1 : w42.cell? ⟨gb4,1,none⟩ = some (.int .i64 ((rd_T43 l1_0 x5_1).f1)):=(blk_cell BK4.out 1).trans rfl;have hcz43_2 : w42.cell? ⟨gb4,2,none⟩ = some (.int .i64 ((rd_T43 l1_0 x5_1).f2)):=(blk_cell BK4.out 2).trans rfl;have hcz43_3 : w42.cell? ⟨gb4,3,none⟩ = some (.int .i64 ((rd_T43 l1_0 x5_1).f3)):=(blk_cell BK4.out 3).trans rfl;have hcz43_4 : w42.cell? ⟨gb4,4,none⟩ = some (.bool ((rd_T43 l1_0 x5_1).f4)):=(blk_cell BK4.out 4).trans rfl;have hfz43_0:=blk_frozen BK4.out 0;have hfz43_1:=blk_frozen BK4.out 1;have hfz43_2:=blk_frozen BK4.out 2;have hfz43_3:=blk_frozen BK4.out 3;have hfz43_4:=blk_frozen BK4.out 4) | (go_at_call 71;(with_reducible refine (spec_inRange.calls ((rd_T43 l1_0 x5_1).f1) 0 99 false _ A9.out).mono ?_);rintro e w' ⟨rfl,⟨nd,rfl⟩⟩;(try first | exact ⟨rfl,_,World.drewN_drewN _ _ _⟩ | exact ⟨rfl,_,Eq.trans (World.drewN_drewN _ _ _) (congrArg (World.drewN _) (Nat.add_assoc _ _ _))⟩)));try go_wp2_with (first | ((with_reducible refine gate_dst (N:=6) rfl ?_);(try (refine gate_guard (by rfl) ?_;dsimp only));refine box_event ?hg (N:=6) ?hd (cs:=#[.int .i64 0,.int .i64 0,.int .i64 0,.int .i64 0,.bool false]) (t:=43) ?hr ?_;(case hd=>rfl);(case hg=>rfl);(case hr=>first | (go_simp;done) | (go_simp;rfl));intro gb4 hg w37 hbox hb;have n0_:=kb_ BK1 hb;have n1_:=kb_ BK2 hb;have n2_:=a0_ (below_step hb_ hb);have n3_:=a0_ (hbox);have n4_:=a0_ ((by rw [hg];exact (below_size hb_) : w.heap.size ≤ gb4));have n5_:=a0_ ((by rw [hg];exact (below_size hb_) : w.heap.size ≤ gb4));have n6_:=a0_ ((by rw [hg];exact Nat.ne_of_lt (blk_lt (bb_ BK1.out)) : gb1 ≠ gb4));have n7_:=a0_ ((by rw [hg];exact Nat.ne_of_gt (blk_lt (bb_ BK1.out)) : gb4 ≠ gb1));have n8_:=a0_ ((by rw [hg];exact Nat.ne_of_lt (blk_lt (bb_ BK2.out)) : gb2 ≠ gb4));have n9_:=a0_ ((by rw [hg];exact Nat.ne_of_gt (blk_lt (bb_ BK2.out)) : gb4 ≠ gb2));clear BK1 BK2 HB;have BK1:=n0_;have BK2:=n1_;have HB:=n2_;have BK4:=n3_;have GW4:=n4_;have GE4:=n5_;have NB1_4:=n6_;have NB4_1:=n7_;have NB2_4:=n8_;have NB4_2:=n9_;clear n0_ n1_ n2_ n3_ n4_ n5_ n6_ n7_ n8_ n9_;clear hb hbox hg;have hnb38:=NB4_1.out;have hnc38:=NB1_4.out;have hnb39:=NB4_2.out;have hnc39:=NB2_4.out;have hcz40_0 : w37.cell? ⟨gb4,0,none⟩ = some (.int .i64 0):=(blk_cell BK4.out 0).trans rfl;have hcz40_1 : w37.cell? ⟨gb4,1,none⟩ = some (.int .i64 0):=(blk_cell BK4.out 1).trans rfl;have hcz40_2 : w37.cell? ⟨gb4,2,none⟩ = some (.int .i64 0):=(blk_cell BK4.out 2).trans rfl;have hcz40_3 : w37.cell? ⟨gb4,3,none⟩ = some (.int .i64 0):=(blk_cell BK4.out 3).trans rfl;have hcz40_4 : w37.cell? ⟨gb4,4,none⟩ = some (.bool false):=(blk_cell BK4.out 4).trans rfl;have hfz40_0:=blk_frozen BK4.out 0;have hfz40_1:=blk_frozen BK4.out 1;have hfz40_2:=blk_frozen BK4.out 2;have hfz40_3:=blk_frozen BK4.out 3;have hfz40_4:=blk_frozen BK4.out 4;have hcz41_0 : w37.cell? ⟨gb1,0,none⟩ = some (.slice A0_0 l0_0.length c0_0):=(blk_cell BK1.out 0).trans rfl;have hfz41_0:=blk_frozen BK1.out 0) | (go_at_call 70;(with_reducible refine (spec_hasClass.calls _ _ l0_0 ((rd_T43 l1_0 x5_1).f0) true _ ?side1 ?side2 A7.out).mono ?_);(case side1=>exact Kd.C_below HR0_0.out hb_);(case side2=>exact HC0_0.out);rintro e w42 ⟨rfl,hb⟩;replace BK1:=a0_ (blk_below (g:=gb1) (o:=.cells #[.slice A0_0 l0_0.length c0_0] 25 (0,0)) (bff_ BK1.out) hb);replace BK2:=a0_ (blk_below (g:=gb2) (o:=.cells #[.slice (some ad3) l1_0.length c1_0] 28 (0,0)) (bff_ BK2.out) hb);replace BK4:=a0_ (blk_below (g:=gb4) (o:=.cells #[.int .i64 ((rd_T43 l1_0 x5_1).f0),.int .i64 ((rd_T43 l1_0 x5_1).f1),.int .i64 ((rd_T43 l1_0 x5_1).f2),.int .i64 ((rd_T43 l1_0 x5_1).f3),.bool ((rd_T43 l1_0 x5_1).f4)] 43 (0,0)) (by (with_reducible repeat (first | refine blk_drewN ?_ _ | refine blk_drew ?_ | refine blk_alloc ?_ _));refine blk_put (cs:=#[.int .i64 ((rd_T43 l1_0 x5_1).f0),.int .i64 ((rd_T43 l1_0 x5_1).f1),.int .i64 ((rd_T43 l1_0 x5_1).f2),.int .i64 ((rd_T43 l1_0 x5_1).f3),.bool false]) ?_ 4 _ rfl;(with_reducible repeat (first | refine blk_drewN ?_ _ | refine blk_drew ?_ | refine blk_alloc ?_ _));refine blk_put (cs:=#[.int .i64 ((rd_T43 l1_0 x5_1).f0),.int .i64 ((rd_T43 l1_0 x5_1).f1),.int .i64 ((rd_T43 l1_0 x5_1).f2),.int .i64 0,.bool false]) ?_ 3 _ rfl;(with_reducible repeat (first | refine blk_drewN ?_ _ | refine blk_drew ?_ | refine blk_alloc ?_ _));refine blk_put (cs:=#[.int .i64 ((rd_T43 l1_0 x5_1).f0),.int .i64 ((rd_T43 l1_0 x5_1).f1),.int .i64 0,.int .i64 0,.bool false]) ?_ 2 _ rfl;(with_reducible repeat (first | refine blk_drewN ?_ _ | refine blk_drew ?_ | refine blk_alloc ?_ _));refine blk_put (cs:=#[.int .i64 ((rd_T43 l1_0 x5_1).f0),.int .i64 0,.int .i64 0,.int .i64 0,.bool false]) ?_ 1 _ rfl;(with_reducible repeat (first | refine blk_drewN ?_ _ | refine blk_drew ?_ | refine blk_alloc ?_ _));refine blk_put (cs:=#[.int .i64 0,.int .i64 0,.int .i64 0,.int .i64 0,.bool false]) ?_ 0 _ rfl;(with_reducible repeat (first | refine blk_drewN ?_ _ | refine blk_drew ?_ | refine blk_alloc ?_ _));exact BK4.out) hb);replace HB:=a0_ (below_step hb_ hb);(try clear hb);have hcz43_0 : w42.cell? ⟨gb4,0,none⟩ = some (.int .i64 ((rd_T43 l1_0 x5_1).f0)):=(blk_cell BK4.out 0).trans rfl;have hcz43_1 : w42.cell? ⟨gb4,1,none⟩ = some (.int .i64 ((rd_T43 l1_0 x5_1).f1)):=(blk_cell BK4.out 1).trans rfl;have hcz43_2 : w42.cell? ⟨gb4,2,none⟩ = some (.int .i64 ((rd_T43 l1_0 x5_1).f2)):=(blk_cell BK4.out 2).trans rfl;have hcz43_3 : w42.cell? ⟨gb4,3,none⟩ = some (.int .i64 ((rd_T43 l1_0 x5_1).f3)):=(blk_cell BK4.out 3).trans rfl;have hcz43_4 : w42.cell? ⟨gb4,4,none⟩ = some (.bool ((rd_T43 l1_0 x5_1).f4)):=(blk_cell BK4.out 4).trans rfl;have hfz43_0:=blk_frozen BK4.out 0;have hfz43_1:=blk_frozen BK4.out 1;have hfz43_2:=blk_frozen BK4.out 2;have hfz43_3:=blk_frozen BK4.out 3;have hfz43_4:=blk_frozen BK4.out 4) | (go_at_call 71;(with_reducible refine (spec_inRange.calls ((rd_T43 l1_0 x5_1).f1) 0 99 false _ A9.out).mono ?_);rintro e w' ⟨rfl,⟨nd,rfl⟩⟩;(try first | exact ⟨rfl,_,World.drewN_drewN _ _ _⟩ | exact ⟨rfl,_,Eq.trans (World.drewN_drewN _ _ _) (congrArg (World.drewN _) (Nat.add_assoc _ _ _))⟩))))
       go_ret
       exact ⟨by first | rfl | (simp [errW_none,errW_some] <;> rfl) | (simp [*,errW_none,errW_some] <;> rfl),hb_⟩
     ·replace c8:=Bool.eq_false_iff.mpr c8
      subst c8
      have H1 : (some false) = some r:=by rw [if_neg (show ¬ (false = true) by decide)] at H;exact H
      clear H
      have H:=H1
      clear H1
      obtain rfl:=Option.some.inj H
      have hnb44:=NB2_1.out
      have hnc44:=NB1_2.out
      have hcz45_0 : wr.cell? ⟨gb2,0,none⟩ = some (.slice A1_0 l1_0.length c1_0):=(blk_cell BK2.out 0).trans rfl
      have hfz45_0:=blk_frozen BK2.out 0
      have p3 : 0 ≤ (x5_1 : Int):=of_decide_eq_true (by first | (with_reducible assumption) | assumption)
      have q3 : x5_1 < (l1_0.length : Int):=of_decide_eq_true (by first | (with_reducible assumption) | assumption)
      obtain ⟨ad3,e3,hx3_0,hx3_1,hx3_2,hx3_3,hx3_4⟩:=at_T43 HR1_0.out x5_1 p3 q3
      cases e3
      replace hx3_0:=(HB.out.cell (World.block_lt_of_cell? w _ hx3_0)).trans hx3_0
      replace hx3_1:=(HB.out.cell (World.block_lt_of_cell? w _ hx3_1)).trans hx3_1
      replace hx3_2:=(HB.out.cell (World.block_lt_of_cell? w _ hx3_2)).trans hx3_2
      replace hx3_3:=(HB.out.cell (World.block_lt_of_cell? w _ hx3_3)).trans hx3_3
      replace hx3_4:=(HB.out.cell (World.block_lt_of_cell? w _ hx3_4)).trans hx3_4
      replace p3:=eq_true p3
      replace q3:=eq_true q3
      go_wp2_with (first | ((with_reducible refine gate_dst (N:=6) rfl ?_);(try (refine gate_guard (by rfl) ?_;dsimp only));refine box_event ?hg (N:=6) ?hd (cs:=#[.int .i64 0,.int .i64 0,.int .i64 0,.int .i64 0,.bool false]) (t:=43) ?hr ?_;(case hd=>rfl);(case hg=>rfl);(case hr=>first | (go_simp;done) | (go_simp;rfl));intro gb4 hg w46 hbox hb;have n0_:=kb_ BK1 hb;have n1_:=kb_ BK2 hb;have n2_:=a0_ (below_step hb_ hb);have n3_:=a0_ (hbox);have n4_:=a0_ ((by rw [hg];exact (below_size hb_) : w.heap.size ≤ gb4));have n5_:=a0_ ((by rw [hg];exact (below_size hb_) : w.heap.size ≤ gb4));have n6_:=a0_ ((by rw [hg];exact Nat.ne_of_lt (blk_lt (bb_ BK1.out)) : gb1 ≠ gb4));have n7_:=a0_ ((by rw [hg];exact Nat.ne_of_gt (blk_lt (bb_ BK1.out)) : gb4 ≠ gb1));have n8_:=a0_ ((by rw [hg];exact Nat.ne_of_lt (blk_lt (bb_ BK2.out)) : gb2 ≠ gb4));have n9_:=a0_ ((by rw [hg];exact Nat.ne_of_gt (blk_lt (bb_ BK2.out)) : gb4 ≠ gb2));clear BK1 BK2 HB;have BK1:=n0_;have BK2:=n1_;have HB:=n2_;have BK4:=n3_;have GW4:=n4_;have GE4:=n5_;have NB1_4:=n6_;have NB4_1:=n7_;have NB2_4:=n8_;have NB4_2:=n9_;clear n0_ n1_ n2_ n3_ n4_ n5_ n6_ n7_ n8_ n9_;clear hb hbox hg;have hnb47:=NB4_1.out;have hnc47:=NB1_4.out;have hnb48:=NB4_2.out;have hnc48:=NB2_4.out;have hcz49_0 : w46.cell? ⟨gb4,0,none⟩ = some (.int .i64 0):=(blk_cell BK4.out 0).trans rfl;have hcz49_1 : w46.cell? ⟨gb4,1,none⟩ = some (.int .i64 0):=(blk_cell BK4.out 1).trans rfl;have hcz49_2 : w46.cell? ⟨gb4,2,none⟩ = some (.int .i64 0):=(blk_cell BK4.out 2).trans rfl;have hcz49_3 : w46.cell? ⟨gb4,3,none⟩ = some (.int .i64 0):=(blk_cell BK4.out 3).trans rfl;have hcz49_4 : w46.cell? ⟨gb4,4,none⟩ = some (.bool false):=(blk_cell BK4.out 4).trans rfl;have hfz49_0:=blk_frozen BK4.out 0;have hfz49_1:=blk_frozen BK4.out 1;have hfz49_2:=blk_frozen BK4.out 2;have hfz49_3:=blk_frozen BK4.out 3;have hfz49_4:=blk_frozen BK4.out 4;have hcz50_0 : w46.cell? ⟨gb1,0,none⟩ = some (.slice A0_0 l0_0.length c0_0):=(blk_cell BK1.out 0).trans rfl;have hfz50_0:=blk_frozen BK1.out 0) | (go_at_call 70;(with_reducible refine (spec_hasClass.calls _ _ l0_0 ((rd_T43 l1_0 x5_1).f0) false _ ?side1 ?side2 A7.out).mono ?_);(case side1=>exact Kd.C_below HR0_0.out hb_);(case side2=>exact HC0_0.out);rintro e w51 ⟨rfl,hb⟩;replace BK1:=a0_ (blk_below (g:=gb1) (o:=.cells #[.slice A0_0 l0_0.length c0_0] 25 (0,0)) (bff_ BK1.out) hb);replace BK2:=a0_ (blk_below (g:=gb2) (o:=.cells #[.slice (some ad3) l1_0.length c1_0] 28 (0,0)) (bff_ BK2.out) hb);replace BK4:=a0_ (blk_below (g:=gb4) (o:=.cells #[.int .i64 ((rd_T43 l1_0 x5_1).f0),.int .i64 ((rd_T43 l1_0 x5_1).f1),.int .i64 ((rd_T43 l1_0 x5_1).f2),.int .i64 ((rd_T43 l1_0 x5_1).f3),.bool ((rd_T43 l1_0 x5_1).f4)] 43 (0,0)) (by (with_reducible repeat (first | refine blk_drewN ?_ _ | refine blk_drew ?_ | refine blk_alloc ?_ _));refine blk_put (cs:=#[.int .i64 ((rd_T43 l1_0 x5_1).f0),.int .i64 ((rd_T43 l1_0 x5_1).f1),.int .i64 ((rd_T43 l1_0 x5_1).f2),.int .i64 ((rd_T43 l1_0 x5_1).f3),.bool false]) ?_ 4 _ rfl;(with_reducible repeat (first | refine blk_drewN ?_ _ | refine blk_drew ?_ | refine blk_alloc ?_ _));refine blk_put (cs:=#[.int .i64 ((rd_T43 l1_0 x5_1).f0),.int .i64 ((rd_T43 l1_0 x5_1).f1),.int .i64 ((rd_T43 l1_0 x5_1).f2),.int .i64 0,.bool false]) ?_ 3 _ rfl;(with_reducible repeat (first | refine blk_drewN ?_ _ | refine blk_drew ?_ | refine blk_alloc ?_ _));refine blk_put (cs:=#[.int .i64 ((rd_T43 l1_0 x5_1).f0),.int .i64 ((rd_T43 l1_0 x5_1).f1),.int .i64 0,.int .i64 0,.bool false]) ?_ 2 _ rfl;(with_reducible repeat (first | refine blk_drewN ?_ _ | refine blk_drew ?_ | refine blk_alloc ?_ _));refine blk_put (cs:=#[.int .i64 ((rd_T43 l1_0 x5_1).f0),.int .i64 0,.int .i64 0,.int .i64 0,.bool false]) ?_ 1 _ rfl;(with_reducible repeat (first | refine blk_drewN ?_ _ | refine blk_drew ?_ | refine blk_alloc ?_ _));refine blk_put (cs:=#[.int .i64 0,.int .i64 0,.int .i64 0,.int .i64 0,.bool false]) ?_ 0 _ rfl;(with_reducible repeat (first | refine blk_drewN ?_ _ | refine blk_drew ?_ | refine blk_alloc ?_ _));exact BK4.out) hb);replace HB:=a0_ (below_step hb_ hb);(try clear hb);(try clear hb2);(try clear hk);(try clear hi)))
      repeat (go_quiet (first | ((with_reducible refine gate_dst (N:=6) rfl ?_);(try (refine gate_guard (by rfl) ?_;dsimp only));refine box_event ?hg (N:=6) ?hd (cs:=#[.int .i64 0,.int .i64 0,.int .i64 0,.int .i64 0,.bool false]) (t:=43) ?hr ?_;(case hd=>rfl);(case hg=>rfl);(case hr=>first | (go_simp;done) | (go_simp;rfl));intro gb4 hg w46 hbox hb;have n0_:=kb_ BK1 hb;have n1_:=kb_ BK2 hb;have n2_:=a0_ (below_step hb_ hb);have n3_:=a0_ (hbox);have n4_:=a0_ ((by rw [hg];exact (below_size hb_) : w.heap.size ≤ gb4));have n5_:=a0_ ((by rw [hg];exact (below_size hb_) : w.heap.size ≤ gb4));have n6_:=a0_ ((by rw [hg];exact Nat.ne_of_lt (blk_lt (bb_ BK1.out)) : gb1 ≠ gb4));have n7_:=a0_ ((by rw [hg];exact Nat.ne_of_gt (blk_lt (bb_ BK1.out)) : gb4 ≠ gb1));have n8_:=a0_ ((by rw [hg];exact Nat.ne_of_lt (blk_lt (bb_ BK2.out)) : gb2 ≠ gb4));have n9_:=a0_ ((by rw [hg];exact Nat.ne_of_gt (blk_lt (bb_ BK2.out)) : gb4 ≠ gb2));clear BK1 BK2 HB;have BK1:=n0_;have BK2:=n1_;have HB:=n2_;have BK4:=n3_;have GW4:=n4_;have GE4:=n5_;have NB1_4:=n6_;have NB4_1:=n7_;have NB2_4:=n8_;have NB4_2:=n9_;clear n0_ n1_ n2_ n3_ n4_ n5_ n6_ n7_ n8_ n9_;clear hb hbox hg;have hnb47:=NB4_1.out;have hnc47:=NB1_4.out;have hnb48:=NB4_2.out;have hnc48:=NB2_4.out;have hcz49_0 : w46.cell? ⟨gb4,0,none⟩ = some (.int .i64 0):=(blk_cell BK4.out 0).trans rfl;have hcz49_1 : w46.cell? ⟨gb4,1,none⟩ = some (.int .i64 0):=(blk_cell BK4.out 1).trans rfl;have hcz49_2 : w46.cell? ⟨gb4,2,none⟩ = some (.int .i64 0):=(blk_cell BK4.out 2).trans rfl;have hcz49_3 : w46.cell? ⟨gb4,3,none⟩ = some (.int .i64 0):=(blk_cell BK4.out 3).trans rfl;have hcz49_4 : w46.cell? ⟨gb4,4,none⟩ = some (.bool false):=(blk_cell BK4.out 4).trans rfl;have hfz49_0:=blk_frozen BK4.out 0;have hfz49_1:=blk_frozen BK4.out 1;have hfz49_2:=blk_frozen BK4.out 2;have hfz49_3:=blk_frozen BK4.out 3;have hfz49_4:=blk_frozen BK4.out 4;have hcz50_0 : w46.cell? ⟨gb1,0,none⟩ = some (.slice A0_0 l0_0.length c0_0):=(blk_cell BK1.out 0).trans rfl;have hfz50_0:=blk_frozen BK1.out 0) | (go_at_call 70;(with_reducible refine (spec_hasClass.calls _ _ l0_0 ((rd_T43 l1_0 x5_1).f0) false _ ?side1 ?side2 A7.out).mono ?_);(case side1=>exact Kd.C_below HR0_0.out hb_);(case side2=>exact HC0_0.out);rintro e w51 ⟨rfl,hb⟩;replace BK1:=a0_ (blk_below (g:=gb1) (o:=.cells #[.slice A0_0 l0_0.length c0_0] 25 (0,0)) (bff_ BK1.out) hb);replace BK2:=a0_ (blk_below (g:=gb2) (o:=.cells #[.slice (some ad3) l1_0.length c1_0] 28 (0,0)) (bff_ BK2.out) hb);replace BK4:=a0_ (blk_below (g:=gb4) (o:=.cells #[.int .i64 ((rd_T43 l1_0 x5_1).f0),.int .i64 ((rd_T43 l1_0 x5_1).f1),.int .i64 ((rd_T43 l1_0 x5_1).f2),.int .i64 ((rd_T43 l1_0 x5_1).f3),.bool ((rd_T43 l1_0 x5_1).f4)] 43 (0,0)) (by (with_reducible repeat (first | refine blk_drewN ?_ _ | refine blk_drew ?_ | refine blk_alloc ?_ _));refine blk_put (cs:=#[.int .i64 ((rd_T43 l1_0 x5_1).f0),.int .i64 ((rd_T43 l1_0 x5_1).f1),.int .i64 ((rd_T43 l1_0 x5_1).f2),.int .i64 ((rd_T43 l1_0 x5_1).f3),.bool false]) ?_ 4 _ rfl;(with_reducible repeat (first | refine blk_drewN ?_ _ | refine blk_drew ?_ | refine blk_alloc ?_ _));refine blk_put (cs:=#[.int .i64 ((rd_T43 l1_0 x5_1).f0),.int .i64 ((rd_T43 l1_0 x5_1).f1),.int .i64 ((rd_T43 l1_0 x5_1).f2),.int .i64 0,.bool false]) ?_ 3 _ rfl;(with_reducible repeat (first | refine blk_drewN ?_ _ | refine blk_drew ?_ | refine blk_alloc ?_ _));refine blk_put (cs:=#[.int .i64 ((rd_T43 l1_0 x5_1).f0),.int .i64 ((rd_T43 l1_0 x5_1).f1),.int .i64 0,.int .i64 0,.bool false]) ?_ 2 _ rfl;(with_reducible repeat (first | refine blk_drewN ?_ _ | refine blk_drew ?_ | refine blk_alloc ?_ _));refine blk_put (cs:=#[.int .i64 ((rd_T43 l1_0 x5_1).f0),.int .i64 0,.int .i64 0,.int .i64 0,.bool false]) ?_ 1 _ rfl;(with_reducible repeat (first | refine blk_drewN ?_ _ | refine blk_drew ?_ | refine blk_alloc ?_ _));refine blk_put (cs:=#[.int .i64 0,.int .i64 0,.int .i64 0,.int .i64 0,.bool false]) ?_ 0 _ rfl;(with_reducible repeat (first | refine blk_drewN ?_ _ | refine blk_drew ?_ | refine blk_alloc ?_ _));exact BK4.out) hb);replace HB:=a0_ (below_step hb_ hb);(try clear hb);(try clear hb2);(try clear hk);(try clear hi)));try go_wp2_with (first | ((with_reducible refine gate_dst (N:=6) rfl ?_);(try (refine gate_guard (by rfl) ?_;dsimp only));refine box_event ?hg (N:=6) ?hd (cs:=#[.int .i64 0,.int .i64 0,.int .i64 0,.int .i64 0,.bool false]) (t:=43) ?hr ?_;(case hd=>rfl);(case hg=>rfl);(case hr=>first | (go_simp;done) | (go_simp;rfl));intro gb4 hg w46 hbox hb;have n0_:=kb_ BK1 hb;have n1_:=kb_ BK2 hb;have n2_:=a0_ (below_step hb_ hb);have n3_:=a0_ (hbox);have n4_:=a0_ ((by rw [hg];exact (below_size hb_) : w.heap.size ≤ gb4));have n5_:=a0_ ((by rw [hg];exact (below_size hb_) : w.heap.size ≤ gb4));have n6_:=a0_ ((by rw [hg];exact Nat.ne_of_lt (blk_lt (bb_ BK1.out)) : gb1 ≠ gb4));have n7_:=a0_ ((by rw [hg];exact Nat.ne_of_gt (blk_lt (bb_ BK1.out)) : gb4 ≠ gb1));have n8_:=a0_ ((by rw [hg];exact Nat.ne_of_lt (blk_lt (bb_ BK2.out)) : gb2 ≠ gb4));have n9_:=a0_ ((by rw [hg];exact Nat.ne_of_gt (blk_lt (bb_ BK2.out)) : gb4 ≠ gb2));clear BK1 BK2 HB;have BK1:=n0_;have BK2:=n1_;have HB:=n2_;have BK4:=n3_;have GW4:=n4_;have GE4:=n5_;have NB1_4:=n6_;have NB4_1:=n7_;have NB2_4:=n8_;have NB4_2:=n9_;clear n0_ n1_ n2_ n3_ n4_ n5_ n6_ n7_ n8_ n9_;clear hb hbox hg;have hnb47:=NB4_1.out;have hnc47:=NB1_4.out;have hnb48:=NB4_2.out;have hnc48:=NB2_4.out;have hcz49_0 : w46.cell? ⟨gb4,0,none⟩ = some (.int .i64 0):=(blk_cell BK4.out 0).trans rfl;have hcz49_1 : w46.cell? ⟨gb4,1,none⟩ = some (.int .i64 0):=(blk_cell BK4.out 1).trans rfl;have hcz49_2 : w46.cell? ⟨gb4,2,none⟩ = some (.int .i64 0):=(blk_cell BK4.out 2).trans rfl;have hcz49_3 : w46.cell? ⟨gb4,3,none⟩ = some (.int .i64 0):=(blk_cell BK4.out 3).trans rfl;have hcz49_4 : w46.cell? ⟨gb4,4,none⟩ = some (.bool false):=(blk_cell BK4.out 4).trans rfl;have hfz49_0:=blk_frozen BK4.out 0;have hfz49_1:=blk_frozen BK4.out 1;have hfz49_2:=blk_frozen BK4.out 2;have hfz49_3:=blk_frozen BK4.out 3;have hfz49_4:=blk_frozen BK4.out 4;have hcz50_0 : w46.cell? ⟨gb1,0,none⟩ = some (.slice A0_0 l0_0.length c0_0):=(blk_cell BK1.out 0).trans rfl;have hfz50_0:=blk_frozen BK1.out 0) | (go_at_call 70;(with_reducible refine (spec_hasClass.calls _ _ l0_0 ((rd_T43 l1_0 x5_1).f0) false _ ?side1 ?side2 A7.out).mono ?_);(case side1=>exact Kd.C_below HR0_0.out hb_);(case side2=>exact HC0_0.out);rintro e w51 ⟨rfl,hb⟩;replace BK1:=a0_ (blk_below (g:=gb1) (o:=.cells #[.slice A0_0 l0_0.length c0_0] 25 (0,0)) (bff_ BK1.out) hb);replace BK2:=a0_ (blk_below (g:=gb2) (o:=.cells #[.slice (some ad3) l1_0.length c1_0] 28 (0,0)) (bff_ BK2.out) hb);replace BK4:=a0_ (blk_below (g:=gb4) (o:=.cells #[.int .i64 ((rd_T43 l1_0 x5_1).f0),.int .i64 ((rd_T43 l1_0 x5_1).f1),.int .i64 ((rd_T43 l1_0 x5_1).f2),.int .i64 ((rd_T43 l1_0 x5_1).f3),.bool ((rd_T43 l1_0 x5_1).f4)] 43 (0,0)) (by (with_reducible repeat (first | refine blk_drewN ?_ _ | refine blk_drew ?_ | refine blk_alloc ?_ _));refine blk_put (cs:=#[.int .i64 ((rd_T43 l1_0 x5_1).f0),.int .i64 ((rd_T43 l1_0 x5_1).f1),.int .i64 ((rd_T43 l1_0 x5_1).f2),.int .i64 ((rd_T43 l1_0 x5_1).f3),.bool false]) ?_ 4 _ rfl;(with_reducible repeat (first | refine blk_drewN ?_ _ | refine blk_drew ?_ | refine blk_alloc ?_ _));refine blk_put (cs:=#[.int .i64 ((rd_T43 l1_0 x5_1).f0),.int .i64 ((rd_T43 l1_0 x5_1).f1),.int .i64 ((rd_T43 l1_0 x5_1).f2),.int .i64 0,.bool false]) ?_ 3 _ rfl;(with_reducible repeat (first | refine blk_drewN ?_ _ | refine blk_drew ?_ | refine blk_alloc ?_ _));refine blk_put (cs:=#[.int .i64 ((rd_T43 l1_0 x5_1).f0),.int .i64 ((rd_T43 l1_0 x5_1).f1),.int .i64 0,.int .i64 0,.bool false]) ?_ 2 _ rfl;(with_reducible repeat (first | refine blk_drewN ?_ _ | refine blk_drew ?_ | refine blk_alloc ?_ _));refine blk_put (cs:=#[.int .i64 ((rd_T43 l1_0 x5_1).f0),.int .i64 0,.int .i64 0,.int .i64 0,.bool false]) ?_ 1 _ rfl;(with_reducible repeat (first | refine blk_drewN ?_ _ | refine blk_drew ?_ | refine blk_alloc ?_ _));refine blk_put (cs:=#[.int .i64 0,.int .i64 0,.int .i64 0,.int .i64 0,.bool false]) ?_ 0 _ rfl;(with_reducible repeat (first | refine blk_drewN ?_ _ | refine blk_drew ?_ | refine blk_alloc ?_ _));exact BK4.out) hb);replace HB:=a0_ (below_step hb_ hb);(try clear hb);(try clear hb2);(try clear hk);(try clear hi))))
      go_ret
      exact ⟨by first | rfl | (simp [errW_none,errW_some] <;> rfl) | (simp [*,errW_none,errW_some] <;> rfl),hb_⟩
    ·rw [if_neg c6] at H
     exact absurd H (by simp)
   ·rw [if_neg c5] at H
    have c5b0 : decide (x5_1 < (l1_0.length : Int)) = false:=decide_eq_false c5
    clear c5
    have H':=a0_ H
    clear H
    have hnb52:=NB2_1.out
    have hnc52:=NB1_2.out
    have hcz53_0 : wr.cell? ⟨gb2,0,none⟩ = some (.slice A1_0 l1_0.length c1_0):=(blk_cell BK2.out 0).trans rfl
    have hfz53_0:=blk_frozen BK2.out 0
    go_wp2
    repeat (go_quiet (fail);try go_wp2)
    go_loopg [7] k1 (fun kq v7 w'=>∃ (x7_2 : Int),v7 = .int .i64 x7_2 ∧ Aside0 (spec_validHeap.l1 kq x7_2 l0_0 l1_0 = some r) ∧ Aside0 (kq ≤ k1) ∧ Aside0 (w'.heap[gb1]? = some (.cells #[(.slice A0_0 l0_0.length c0_0)] 25 (0,0))) ∧ Aside0 (w'.heap[gb2]? = some (.cells #[(.slice A1_0 l1_0.length c1_0)] 28 (0,0))) ∧ Aside0 (Below w.heap.size w w'))
    case atStart=>exact ⟨(0),(by first | rfl | (simp;done) | (simp [*];done)),H',⟨Nat.le_refl _⟩,⟨by (with_reducible repeat (first | refine blk_drewN ?_ _ | refine blk_drew ?_ | refine blk_alloc ?_ _));exact BK1.out⟩,⟨by (with_reducible repeat (first | refine blk_drewN ?_ _ | refine blk_drew ?_ | refine blk_alloc ?_ _));exact BK2.out⟩,⟨hb_⟩⟩
    case round =>
     clear H'
     try clear c1
     try clear c2
     try clear p2
     try clear c3
     try clear p3
     try clear q3
     try clear hx3
     try clear c4
     try clear c5
     try clear c5b0
     try clear c6
     try clear c6b0
     try clear p6
     try clear c8
     try clear c10
     try clear c12
     try clear c13
     try clear c16
     try clear c17
     try clear c24
     try clear c27
     try clear c28
     try clear c35
     try clear c38
     try clear c39
     try clear c44
     try clear c46
     try clear c47
     try clear c48
     try clear c52
     try clear hcz14_0
     try clear hcz18_0
     try clear hcz18_1
     try clear hcz18_2
     try clear hcz18_3
     try clear hcz18_4
     try clear hcz19_0
     try clear hcz21_0
     try clear hcz21_1
     try clear hcz21_2
     try clear hcz21_3
     try clear hcz21_4
     try clear hcz22_0
     try clear hcz25_0
     try clear hcz29_0
     try clear hcz29_1
     try clear hcz29_2
     try clear hcz29_3
     try clear hcz29_4
     try clear hcz30_0
     try clear hcz32_0
     try clear hcz32_1
     try clear hcz32_2
     try clear hcz32_3
     try clear hcz32_4
     try clear hcz33_0
     try clear hcz36_0
     try clear hcz40_0
     try clear hcz40_1
     try clear hcz40_2
     try clear hcz40_3
     try clear hcz40_4
     try clear hcz41_0
     try clear hcz43_0
     try clear hcz43_1
     try clear hcz43_2
     try clear hcz43_3
     try clear hcz43_4
     try clear hcz45_0
     try clear hcz49_0
     try clear hcz49_1
     try clear hcz49_2
     try clear hcz49_3
     try clear hcz49_4
     try clear hcz50_0
     try clear hcz53_0
     try clear hfz14_0
     try clear hfz18_0
     try clear hfz18_1
     try clear hfz18_2
     try clear hfz18_3
     try clear hfz18_4
     try clear hfz19_0
     try clear hfz21_0
     try clear hfz21_1
     try clear hfz21_2
     try clear hfz21_3
     try clear hfz21_4
     try clear hfz22_0
     try clear hfz25_0
     try clear hfz29_0
     try clear hfz29_1
     try clear hfz29_2
     try clear hfz29_3
     try clear hfz29_4
     try clear hfz30_0
     try clear hfz32_0
     try clear hfz32_1
     try clear hfz32_2
     try clear hfz32_3
     try clear hfz32_4
     try clear hfz33_0
     try clear hfz36_0
     try clear hfz40_0
     try clear hfz40_1
     try clear hfz40_2
     try clear hfz40_3
     try clear hfz40_4
     try clear hfz41_0
     try clear hfz43_0
     try clear hfz43_1
     try clear hfz43_2
     try clear hfz43_3
     try clear hfz43_4
     try clear hfz45_0
     try clear hfz49_0
     try clear hfz49_1
     try clear hfz49_2
     try clear hfz49_3
     try clear hfz49_4
     try clear hfz50_0
     try clear hfz53_0
     try clear hx3_0
     try clear hx3_1
     try clear hx3_2
     try clear hx3_3
     try clear hx3_4
     try clear p2
     try clear p3
     try clear q3
     obtain ⟨x7_2,rfl,HA,HK2,BK1,BK2,HB⟩:=hrel
     cases gk with
     | zero=>exact absurd HA.out (by simp [spec_validHeap.l1])
     | succ k2 =>
      have H:=HA.out
      clear HA
      simp only [spec_validHeap.l1] at H
      by_cases c54 : x7_2 < (l1_0.length : Int)
      ·rw [if_pos c54] at H
       have c54b0 : decide (x7_2 < (l1_0.length : Int)) = true:=decide_eq_true c54
       clear c54
       replace H:=Option.bind_eq_some_iff.mp H
       obtain ⟨t8,A550,H⟩:=H
       try dsimp only at H
       have A55:=a0_ A550
       clear A550
       obtain ⟨ji56,hji56⟩ : ∃ j_ : Int,(wrap64 ((t8.length : Int) - 1)) = j_:=⟨_,rfl⟩
       replace H : (if 0 ≤ (ji56) then (if (ji56) < (t8.length : Int) then (if 0 ≤ (rd t8 (ji56)) then (if (rd t8 (ji56)) < (l1_0.length : Int) then (if ((rd_T43 l1_0 (rd t8 (ji56))).f3) ≥ 0 then (some false) else (spec_validHeap.l1 k2 (wrap64 (x7_2 + 1)) l0_0 l1_0)) else (none)) else (none)) else (none)) else (none)) = some r:=by first | (rw [hji56] at H;exact H) | (simp only [hji56] at H ⊢;exact H)
       (try rw [hji56] at A55)
       have hji56w : (IntKind.i64.wrap ((t8.length : Int) - 1)) = ji56:=(i64_w _).trans hji56
       by_cases c57 : 0 ≤ (ji56)
       ·rw [if_pos c57] at H
        have c57b0 : decide (0 ≤ (ji56)) = true:=decide_eq_true c57
        clear c57
        by_cases c58 : (ji56) < (t8.length : Int)
        ·rw [if_pos c58] at H
         have c58b0 : decide ((ji56) < (t8.length : Int)) = true:=decide_eq_true c58
         clear c58
         by_cases c59 : 0 ≤ (rd t8 (ji56))
         ·rw [if_pos c59] at H
          have c59b0 : decide (0 ≤ (rd t8 (ji56))) = true:=decide_eq_true c59
          clear c59
          by_cases c60 : (rd t8 (ji56)) < (l1_0.length : Int)
          ·rw [if_pos c60] at H
           have c60b0 : decide ((rd t8 (ji56)) < (l1_0.length : Int)) = true:=decide_eq_true c60
           clear c60
           by_cases c61 : ((rd_T43 l1_0 (rd t8 (ji56))).f3) ≥ 0
           ·rw [if_pos c61] at H
            have c61b0 : decide (0 ≤ ((rd_T43 l1_0 (rd t8 (ji56))).f3)) = true:=decide_eq_true c61
            clear c61
            obtain rfl:=Option.some.inj H
            have hnb62:=NB2_1.out
            have hnc62:=NB1_2.out
            have hcz63_0 : wr.cell? ⟨gb2,0,none⟩ = some (.slice A1_0 l1_0.length c1_0):=(blk_cell BK2.out 0).trans rfl
            have hfz63_0:=blk_frozen BK2.out 0
            go_wp2_with (first | (go_at_call 73;(with_reducible refine (spec_contexts.calls k2 _ _ l1_0 x7_2 t8 _ ?side1 ?side2 A55.out).mono ?_);(case side1=>exact cc_ (Kd.C_below HR1_0.out HB.out));(case side2=>exact HC1_0.out);rintro e w64 ⟨v9,rfl,ho0,hb⟩;have HO10:=a0_ (Kd.R_lower ho0 (below_size hb_));replace BK1:=kb_ BK1 hb;replace BK2:=kb_ BK2 hb;replace HB:=a0_ (below_step hb_ hb);(try clear hb);(try clear ho0);have hcz65_0 : w64.cell? ⟨gb2,0,none⟩ = some (.slice A1_0 l1_0.length c1_0):=(blk_cell BK2.out 0).trans rfl;have hfz65_0:=blk_frozen BK2.out 0;obtain ⟨Ao66,co66,eo66⟩:=Kd.R_slice HO10.out;subst eo66;have p11 : 0 ≤ ((ji56) : Int):=of_decide_eq_true (by first | (with_reducible assumption) | assumption);have q11 : (ji56) < (t8.length : Int):=of_decide_eq_true (by first | (with_reducible assumption) | assumption);obtain ⟨ad11,e11,hx11_0⟩:=Kd.at_int (Kd.R_reads' HO10.out).2.2 (ji56) p11 q11;cases e11;replace p11:=eq_true p11;replace q11:=eq_true q11;have p12 : 0 ≤ ((rd t8 (ji56)) : Int):=of_decide_eq_true (by first | (with_reducible assumption) | assumption);have q12 : (rd t8 (ji56)) < (l1_0.length : Int):=of_decide_eq_true (by first | (with_reducible assumption) | assumption);obtain ⟨ad12,e12,hx12_0,hx12_1,hx12_2,hx12_3,hx12_4⟩:=at_T43 HR1_0.out (rd t8 (ji56)) p12 q12;cases e12;replace hx12_0:=(HB.out.cell (World.block_lt_of_cell? w _ hx12_0)).trans hx12_0;replace hx12_1:=(HB.out.cell (World.block_lt_of_cell? w _ hx12_1)).trans hx12_1;replace hx12_2:=(HB.out.cell (World.block_lt_of_cell? w _ hx12_2)).trans hx12_2;replace hx12_3:=(HB.out.cell (World.block_lt_of_cell? w _ hx12_3)).trans hx12_3;replace hx12_4:=(HB.out.cell (World.block_lt_of_cell? w _ hx12_4)).trans hx12_4;replace p12:=eq_true p12;replace q12:=eq_true q12))
            repeat (go_quiet (first | (go_at_call 73;(with_reducible refine (spec_contexts.calls k2 _ _ l1_0 x7_2 t8 _ ?side1 ?side2 A55.out).mono ?_);(case side1=>exact cc_ (Kd.C_below HR1_0.out HB.out));(case side2=>exact HC1_0.out);rintro e w64 ⟨v9,rfl,ho0,hb⟩;have HO10:=a0_ (Kd.R_lower ho0 (below_size hb_));replace BK1:=kb_ BK1 hb;replace BK2:=kb_ BK2 hb;replace HB:=a0_ (below_step hb_ hb);(try clear hb);(try clear ho0);have hcz65_0 : w64.cell? ⟨gb2,0,none⟩ = some (.slice A1_0 l1_0.length c1_0):=(blk_cell BK2.out 0).trans rfl;have hfz65_0:=blk_frozen BK2.out 0;obtain ⟨Ao66,co66,eo66⟩:=Kd.R_slice HO10.out;subst eo66;have p11 : 0 ≤ ((ji56) : Int):=of_decide_eq_true (by first | (with_reducible assumption) | assumption);have q11 : (ji56) < (t8.length : Int):=of_decide_eq_true (by first | (with_reducible assumption) | assumption);obtain ⟨ad11,e11,hx11_0⟩:=Kd.at_int (Kd.R_reads' HO10.out).2.2 (ji56) p11 q11;cases e11;replace p11:=eq_true p11;replace q11:=eq_true q11;have p12 : 0 ≤ ((rd t8 (ji56)) : Int):=of_decide_eq_true (by first | (with_reducible assumption) | assumption);have q12 : (rd t8 (ji56)) < (l1_0.length : Int):=of_decide_eq_true (by first | (with_reducible assumption) | assumption);obtain ⟨ad12,e12,hx12_0,hx12_1,hx12_2,hx12_3,hx12_4⟩:=at_T43 HR1_0.out (rd t8 (ji56)) p12 q12;cases e12;replace hx12_0:=(HB.out.cell (World.block_lt_of_cell? w _ hx12_0)).trans hx12_0;replace hx12_1:=(HB.out.cell (World.block_lt_of_cell? w _ hx12_1)).trans hx12_1;replace hx12_2:=(HB.out.cell (World.block_lt_of_cell? w _ hx12_2)).trans hx12_2;replace hx12_3:=(HB.out.cell (World.block_lt_of_cell? w _ hx12_3)).trans hx12_3;replace hx12_4:=(HB.out.cell (World.block_lt_of_cell? w _ hx12_4)).trans hx12_4;replace p12:=eq_true p12;replace q12:=eq_true q12));try go_wp2_with (first | (go_at_call 73;(with_reducible refine (spec_contexts.calls k2 _ _ l1_0 x7_2 t8 _ ?side1 ?side2 A55.out).mono ?_);(case side1=>exact cc_ (Kd.C_below HR1_0.out HB.out));(case side2=>exact HC1_0.out);rintro e w64 ⟨v9,rfl,ho0,hb⟩;have HO10:=a0_ (Kd.R_lower ho0 (below_size hb_));replace BK1:=kb_ BK1 hb;replace BK2:=kb_ BK2 hb;replace HB:=a0_ (below_step hb_ hb);(try clear hb);(try clear ho0);have hcz65_0 : w64.cell? ⟨gb2,0,none⟩ = some (.slice A1_0 l1_0.length c1_0):=(blk_cell BK2.out 0).trans rfl;have hfz65_0:=blk_frozen BK2.out 0;obtain ⟨Ao66,co66,eo66⟩:=Kd.R_slice HO10.out;subst eo66;have p11 : 0 ≤ ((ji56) : Int):=of_decide_eq_true (by first | (with_reducible assumption) | assumption);have q11 : (ji56) < (t8.length : Int):=of_decide_eq_true (by first | (with_reducible assumption) | assumption);obtain ⟨ad11,e11,hx11_0⟩:=Kd.at_int (Kd.R_reads' HO10.out).2.2 (ji56) p11 q11;cases e11;replace p11:=eq_true p11;replace q11:=eq_true q11;have p12 : 0 ≤ ((rd t8 (ji56)) : Int):=of_decide_eq_true (by first | (with_reducible assumption) | assumption);have q12 : (rd t8 (ji56)) < (l1_0.length : Int):=of_decide_eq_true (by first | (with_reducible assumption) | assumption);obtain ⟨ad12,e12,hx12_0,hx12_1,hx12_2,hx12_3,hx12_4⟩:=at_T43 HR1_0.out (rd t8 (ji56)) p12 q12;cases e12;replace hx12_0:=(HB.out.cell (World.block_lt_of_cell? w _ hx12_0)).trans hx12_0;replace hx12_1:=(HB.out.cell (World.block_lt_of_cell? w _ hx12_1)).trans hx12_1;replace hx12_2:=(HB.out.cell (World.block_lt_of_cell? w _ hx12_2)).trans hx12_2;replace hx12_3:=(HB.out.cell (World.block_lt_of_cell? w _ hx12_3)).trans hx12_3;replace hx12_4:=(HB.out.cell (World.block_lt_of_cell? w _ hx12_4)).trans hx12_4;replace p12:=eq_true p12;replace q12:=eq_true q12)))
            go_ret
            exact ⟨by first | rfl | (simp [errW_none,errW_some] <;> rfl) | (simp only [← hji56];first | rfl | (simp [errW_none,errW_some] <;> rfl)) | (simp [*,errW_none,errW_some] <;> rfl),hb_⟩
           ·rw [if_neg c61] at H
            have c61b0 : decide (0 ≤ ((rd_T43 l1_0 (rd t8 (ji56))).f3)) = false:=decide_eq_false c61
            clear c61
            have H':=a0_ H
            clear H
            have hnb67:=NB2_1.out
            have hnc67:=NB1_2.out
            have hcz68_0 : wr.cell? ⟨gb2,0,none⟩ = some (.slice A1_0 l1_0.length c1_0):=(blk_cell BK2.out 0).trans rfl
            have hfz68_0:=blk_frozen BK2.out 0
            go_wp2_with (first | (go_at_call 73;(with_reducible refine (spec_contexts.calls k2 _ _ l1_0 x7_2 t8 _ ?side1 ?side2 A55.out).mono ?_);(case side1=>exact cc_ (Kd.C_below HR1_0.out HB.out));(case side2=>exact HC1_0.out);rintro e w69 ⟨v9,rfl,ho0,hb⟩;have HO10:=a0_ (Kd.R_lower ho0 (below_size hb_));replace BK1:=kb_ BK1 hb;replace BK2:=kb_ BK2 hb;replace HB:=a0_ (below_step hb_ hb);(try clear hb);(try clear ho0);have hcz70_0 : w69.cell? ⟨gb2,0,none⟩ = some (.slice A1_0 l1_0.length c1_0):=(blk_cell BK2.out 0).trans rfl;have hfz70_0:=blk_frozen BK2.out 0;obtain ⟨Ao71,co71,eo71⟩:=Kd.R_slice HO10.out;subst eo71;have p11 : 0 ≤ ((ji56) : Int):=of_decide_eq_true (by first | (with_reducible assumption) | assumption);have q11 : (ji56) < (t8.length : Int):=of_decide_eq_true (by first | (with_reducible assumption) | assumption);obtain ⟨ad11,e11,hx11_0⟩:=Kd.at_int (Kd.R_reads' HO10.out).2.2 (ji56) p11 q11;cases e11;replace p11:=eq_true p11;replace q11:=eq_true q11;have p12 : 0 ≤ ((rd t8 (ji56)) : Int):=of_decide_eq_true (by first | (with_reducible assumption) | assumption);have q12 : (rd t8 (ji56)) < (l1_0.length : Int):=of_decide_eq_true (by first | (with_reducible assumption) | assumption);obtain ⟨ad12,e12,hx12_0,hx12_1,hx12_2,hx12_3,hx12_4⟩:=at_T43 HR1_0.out (rd t8 (ji56)) p12 q12;cases e12;replace hx12_0:=(HB.out.cell (World.block_lt_of_cell? w _ hx12_0)).trans hx12_0;replace hx12_1:=(HB.out.cell (World.block_lt_of_cell? w _ hx12_1)).trans hx12_1;replace hx12_2:=(HB.out.cell (World.block_lt_of_cell? w _ hx12_2)).trans hx12_2;replace hx12_3:=(HB.out.cell (World.block_lt_of_cell? w _ hx12_3)).trans hx12_3;replace hx12_4:=(HB.out.cell (World.block_lt_of_cell? w _ hx12_4)).trans hx12_4;replace p12:=eq_true p12;replace q12:=eq_true q12))
            repeat (go_quiet (first | (go_at_call 73;(with_reducible refine (spec_contexts.calls k2 _ _ l1_0 x7_2 t8 _ ?side1 ?side2 A55.out).mono ?_);(case side1=>exact cc_ (Kd.C_below HR1_0.out HB.out));(case side2=>exact HC1_0.out);rintro e w69 ⟨v9,rfl,ho0,hb⟩;have HO10:=a0_ (Kd.R_lower ho0 (below_size hb_));replace BK1:=kb_ BK1 hb;replace BK2:=kb_ BK2 hb;replace HB:=a0_ (below_step hb_ hb);(try clear hb);(try clear ho0);have hcz70_0 : w69.cell? ⟨gb2,0,none⟩ = some (.slice A1_0 l1_0.length c1_0):=(blk_cell BK2.out 0).trans rfl;have hfz70_0:=blk_frozen BK2.out 0;obtain ⟨Ao71,co71,eo71⟩:=Kd.R_slice HO10.out;subst eo71;have p11 : 0 ≤ ((ji56) : Int):=of_decide_eq_true (by first | (with_reducible assumption) | assumption);have q11 : (ji56) < (t8.length : Int):=of_decide_eq_true (by first | (with_reducible assumption) | assumption);obtain ⟨ad11,e11,hx11_0⟩:=Kd.at_int (Kd.R_reads' HO10.out).2.2 (ji56) p11 q11;cases e11;replace p11:=eq_true p11;replace q11:=eq_true q11;have p12 : 0 ≤ ((rd t8 (ji56)) : Int):=of_decide_eq_true (by first | (with_reducible assumption) | assumption);have q12 : (rd t8 (ji56)) < (l1_0.length : Int):=of_decide_eq_true (by first | (with_reducible assumption) | assumption);obtain ⟨ad12,e12,hx12_0,hx12_1,hx12_2,hx12_3,hx12_4⟩:=at_T43 HR1_0.out (rd t8 (ji56)) p12 q12;cases e12;replace hx12_0:=(HB.out.cell (World.block_lt_of_cell? w _ hx12_0)).trans hx12_0;replace hx12_1:=(HB.out.cell (World.block_lt_of_cell? w _ hx12_1)).trans hx12_1;replace hx12_2:=(HB.out.cell (World.block_lt_of_cell? w _ hx12_2)).trans hx12_2;replace hx12_3:=(HB.out.cell (World.block_lt_of_cell? w _ hx12_3)).trans hx12_3;replace hx12_4:=(HB.out.cell (World.block_lt_of_cell? w _ hx12_4)).trans hx12_4;replace p12:=eq_true p12;replace q12:=eq_true q12));try go_wp2_with (first | (go_at_call 73;(with_reducible refine (spec_contexts.calls k2 _ _ l1_0 x7_2 t8 _ ?side1 ?side2 A55.out).mono ?_);(case side1=>exact cc_ (Kd.C_below HR1_0.out HB.out));(case side2=>exact HC1_0.out);rintro e w69 ⟨v9,rfl,ho0,hb⟩;have HO10:=a0_ (Kd.R_lower ho0 (below_size hb_));replace BK1:=kb_ BK1 hb;replace BK2:=kb_ BK2 hb;replace HB:=a0_ (below_step hb_ hb);(try clear hb);(try clear ho0);have hcz70_0 : w69.cell? ⟨gb2,0,none⟩ = some (.slice A1_0 l1_0.length c1_0):=(blk_cell BK2.out 0).trans rfl;have hfz70_0:=blk_frozen BK2.out 0;obtain ⟨Ao71,co71,eo71⟩:=Kd.R_slice HO10.out;subst eo71;have p11 : 0 ≤ ((ji56) : Int):=of_decide_eq_true (by first | (with_reducible assumption) | assumption);have q11 : (ji56) < (t8.length : Int):=of_decide_eq_true (by first | (with_reducible assumption) | assumption);obtain ⟨ad11,e11,hx11_0⟩:=Kd.at_int (Kd.R_reads' HO10.out).2.2 (ji56) p11 q11;cases e11;replace p11:=eq_true p11;replace q11:=eq_true q11;have p12 : 0 ≤ ((rd t8 (ji56)) : Int):=of_decide_eq_true (by first | (with_reducible assumption) | assumption);have q12 : (rd t8 (ji56)) < (l1_0.length : Int):=of_decide_eq_true (by first | (with_reducible assumption) | assumption);obtain ⟨ad12,e12,hx12_0,hx12_1,hx12_2,hx12_3,hx12_4⟩:=at_T43 HR1_0.out (rd t8 (ji56)) p12 q12;cases e12;replace hx12_0:=(HB.out.cell (World.block_lt_of_cell? w _ hx12_0)).trans hx12_0;replace hx12_1:=(HB.out.cell (World.block_lt_of_cell? w _ hx12_1)).trans hx12_1;replace hx12_2:=(HB.out.cell (World.block_lt_of_cell? w _ hx12_2)).trans hx12_2;replace hx12_3:=(HB.out.cell (World.block_lt_of_cell? w _ hx12_3)).trans hx12_3;replace hx12_4:=(HB.out.cell (World.block_lt_of_cell? w _ hx12_4)).trans hx12_4;replace p12:=eq_true p12;replace q12:=eq_true q12)))
            go_roundg k2
            case measure=>have:=HK1.out;have:=HK2.out;omega
            case rel=>exact ⟨(wrap64 (x7_2 + 1)),(by first | rfl | (simp;done) | (simp [*];done)),H',⟨by have:=HK1.out;have:=HK2.out;omega⟩,⟨by (with_reducible repeat (first | refine blk_drewN ?_ _ | refine blk_drew ?_ | refine blk_alloc ?_ _));exact BK1.out⟩,⟨by (with_reducible repeat (first | refine blk_drewN ?_ _ | refine blk_drew ?_ | refine blk_alloc ?_ _));exact BK2.out⟩,⟨hb_⟩⟩
          ·rw [if_neg c60] at H
           exact absurd H (by simp)
         ·rw [if_neg c59] at H
          exact absurd H (by simp)
        ·rw [if_neg c58] at H
         exact absurd H (by simp)
       ·rw [if_neg c57] at H
        exact absurd H (by simp)
      ·rw [if_neg c54] at H
       have c54b0 : decide (x7_2 < (l1_0.length : Int)) = false:=decide_eq_false c54
       clear c54
       replace H:=Option.bind_eq_some_iff.mp H
       obtain ⟨t13,A720,H⟩:=H
       try dsimp only at H
       have A72:=a0_ A720
       clear A720
       by_cases c73 : t13 = true
       ·subst c73
        have H1 : (some (decide ((l1_0.length : Int) ≤ 24))) = some r:=by rw [if_pos rfl] at H;exact H
        clear H
        have H:=H1
        clear H1
        obtain rfl:=Option.some.inj H
        have hnb74:=NB2_1.out
        have hnc74:=NB1_2.out
        have hcz75_0 : wr.cell? ⟨gb2,0,none⟩ = some (.slice A1_0 l1_0.length c1_0):=(blk_cell BK2.out 0).trans rfl
        have hfz75_0:=blk_frozen BK2.out 0
        have hcz76_0 : wr.cell? ⟨gb1,0,none⟩ = some (.slice A0_0 l0_0.length c0_0):=(blk_cell BK1.out 0).trans rfl
        have hfz76_0:=blk_frozen BK1.out 0
        go_wp2_with (first | (go_at_call 74;(with_reducible refine (spec_validTree.calls _ _ l0_0 true _ ?side1 ?side2 A72.out).mono ?_);(case side1=>exact cc_ (Kd.C_below HR0_0.out HB.out));(case side2=>exact HC0_0.out);rintro e w77 ⟨rfl,hb⟩;replace BK1:=kb_ BK1 hb;replace BK2:=kb_ BK2 hb;replace HB:=a0_ (below_step hb_ hb);(try clear hb);have hcz78_0 : w77.cell? ⟨gb2,0,none⟩ = some (.slice A1_0 l1_0.length c1_0):=(blk_cell BK2.out 0).trans rfl;have hfz78_0:=blk_frozen BK2.out 0))
        repeat (go_quiet (first | (go_at_call 74;(with_reducible refine (spec_validTree.calls _ _ l0_0 true _ ?side1 ?side2 A72.out).mono ?_);(case side1=>exact cc_ (Kd.C_below HR0_0.out HB.out));(case side2=>exact HC0_0.out);rintro e w77 ⟨rfl,hb⟩;replace BK1:=kb_ BK1 hb;replace BK2:=kb_ BK2 hb;replace HB:=a0_ (below_step hb_ hb);(try clear hb);have hcz78_0 : w77.cell? ⟨gb2,0,none⟩ = some (.slice A1_0 l1_0.length c1_0):=(blk_cell BK2.out 0).trans rfl;have hfz78_0:=blk_frozen BK2.out 0));try go_wp2_with (first | (go_at_call 74;(with_reducible refine (spec_validTree.calls _ _ l0_0 true _ ?side1 ?side2 A72.out).mono ?_);(case side1=>exact cc_ (Kd.C_below HR0_0.out HB.out));(case side2=>exact HC0_0.out);rintro e w77 ⟨rfl,hb⟩;replace BK1:=kb_ BK1 hb;replace BK2:=kb_ BK2 hb;replace HB:=a0_ (below_step hb_ hb);(try clear hb);have hcz78_0 : w77.cell? ⟨gb2,0,none⟩ = some (.slice A1_0 l1_0.length c1_0):=(blk_cell BK2.out 0).trans rfl;have hfz78_0:=blk_frozen BK2.out 0)))
        go_ret
        exact ⟨by first | rfl | (simp [errW_none,errW_some] <;> rfl) | (simp [*,errW_none,errW_some] <;> rfl),hb_⟩
       ·replace c73:=Bool.eq_false_iff.mpr c73
        subst c73
        have H1 : (some false) = some r:=by rw [if_neg (show ¬ (false = true) by decide)] at H;exact H
        clear H
        have H:=H1
        clear H1
        obtain rfl:=Option.some.inj H
        have hnb79:=NB2_1.out
        have hnc79:=NB1_2.out
        have hcz80_0 : wr.cell? ⟨gb2,0,none⟩ = some (.slice A1_0 l1_0.length c1_0):=(blk_cell BK2.out 0).trans rfl
        have hfz80_0:=blk_frozen BK2.out 0
        have hcz81_0 : wr.cell? ⟨gb1,0,none⟩ = some (.slice A0_0 l0_0.length c0_0):=(blk_cell BK1.out 0).trans rfl
        have hfz81_0:=blk_frozen BK1.out 0
        go_wp2_with (first | (go_at_call 74;(with_reducible refine (spec_validTree.calls _ _ l0_0 false _ ?side1 ?side2 A72.out).mono ?_);(case side1=>exact cc_ (Kd.C_below HR0_0.out HB.out));(case side2=>exact HC0_0.out);rintro e w82 ⟨rfl,hb⟩;replace BK1:=kb_ BK1 hb;replace BK2:=kb_ BK2 hb;replace HB:=a0_ (below_step hb_ hb);(try clear hb);(try clear hb2);(try clear hk);(try clear hi)))
        repeat (go_quiet (first | (go_at_call 74;(with_reducible refine (spec_validTree.calls _ _ l0_0 false _ ?side1 ?side2 A72.out).mono ?_);(case side1=>exact cc_ (Kd.C_below HR0_0.out HB.out));(case side2=>exact HC0_0.out);rintro e w82 ⟨rfl,hb⟩;replace BK1:=kb_ BK1 hb;replace BK2:=kb_ BK2 hb;replace HB:=a0_ (below_step hb_ hb);(try clear hb);(try clear hb2);(try clear hk);(try clear hi)));try go_wp2_with (first | (go_at_call 74;(with_reducible refine (spec_validTree.calls _ _ l0_0 false _ ?side1 ?side2 A72.out).mono ?_);(case side1=>exact cc_ (Kd.C_below HR0_0.out HB.out));(case side2=>exact HC0_0.out);rintro e w82 ⟨rfl,hb⟩;replace BK1:=kb_ BK1 hb;replace BK2:=kb_ BK2 hb;replace HB:=a0_ (below_step hb_ hb);(try clear hb);(try clear hb2);(try clear hk);(try clear hi))))
        go_ret
        exact ⟨by first | rfl | (simp [errW_none,errW_some] <;> rfl) | (simp [*,errW_none,errW_some] <;> rfl),hb_⟩
theorem spec_validHeap_l1 (t : List Cls) (h : List Fau) (hs : smT t = true) (hl : h.length ≤ 2097152) (hf : fsH t h = true) : ∀ d i,i + d = h.length → Ev (fun k=>spec_validHeap.l1 k (i : Int) t h) ((List.range' i d).all (endB h) && (vT t && decide (h.length ≤ 24))):=by
 intro d
 induction d with
 | zero =>
  intro i hi
  refine Ev.succ ?_
  simp only [spec_validHeap.l1]
  refine Ev.neg (by omega) (Ev.bind (Ev.const (show spec_validTree.f t = some (vT t) by rw [spec_validTree.f,if_pos hs])) ?_)
  have e : decide ((h.length : Int) ≤ 24) = decide (h.length ≤ 24):=decide_eq_decide.2 (by omega)
  cases vT t with
  | true=>exact Ev.pos rfl (Ev.const (by rw [e];simp))
  | false=>exact Ev.neg (by simp) (Ev.const (by simp))
 | succ d ih =>
  intro i hi
  have hlt : i < h.length:=by omega
  have hn:=ih (i + 1) (by omega)
  have hpos:=ctxL_pos h (i : Int) (by omega) (by omega)
  have hlen:=ctxL_len h (i : Int)
  have hlast:=ctxL_mem (fun x h0 h1=>(fsH_ctx hf x h0 h1).2) (i : Int) (by omega) _ (lastI_mem hpos)
  have hw : wrap64 (((ctxL h (i : Int)).length : Int) - 1) = (((ctxL h (i : Int)).length - 1 : Nat) : Int):=by rw [wrap_in (by omega) (by omega)];omega
  have hrd : rd (ctxL h (i : Int)) ((((ctxL h (i : Int)).length - 1 : Nat) : Int)) = lastI (ctxL h (i : Int)):=rd_nat _ _ (by omega)
  have hcx : (rd_T43 h (lastI (ctxL h (i : Int)))).f3 = ctxN h (lastI (ctxL h (i : Int))):=by simp [rd_T43,ctxN]
  rw [List.range'_succ,List.all_cons]
  refine Ev.succ ?_
  simp only [spec_validHeap.l1]
  refine Ev.pos (by omega) (Ev.bind (spec_contexts_ev h hl (fun x h0 h1=>(fsH_ctx hf x h0 h1).2) (i : Int) (by omega)) ?_)
  rw [hw,hrd,hcx]
  refine Ev.pos (by omega) (Ev.pos (by omega) (Ev.pos hlast.1 (Ev.pos hlast.2 ?_)))
  by_cases hq : ctxN h (lastI (ctxL h (i : Int))) ≥ 0
  ·rw [show endB h i = false from decide_eq_false (by omega)]
   exact Ev.pos hq (Ev.const (by simp))
  ·rw [show endB h i = true from decide_eq_true (by omega),wrap_succ (i:=(i : Int)) (n:=h.length) (by omega) (by omega) (by omega)]
   exact Ev.neg hq (by simpa using hn)
theorem spec_validHeap_l0 (t : List Cls) (h : List Fau) (hs : smT t = true) (ht : t.length ≤ 9223372036854775807) (hl : h.length ≤ 2097152) : ∀ d i,i + d = h.length → (∀ j,j < i → okF t h j (h.getD j z43) = true) → Ev (fun k=>spec_validHeap.l0 k (i : Int) t h) (vH t h):=by
 intro d
 induction d with
 | zero =>
  intro i hi hA
  obtain rfl : i = h.length:=by omega
  have hfs : fsH t h = true:=all_of hA
  refine Ev.succ ?_
  simp only [spec_validHeap.l0]
  refine Ev.neg (by omega) ?_
  have:=spec_validHeap_l1 t h hs hl hfs h.length 0 (by omega)
  unfold vH esH
  rw [hfs,Bool.true_and,List.range_eq_range']
  exact this
 | succ d ih =>
  intro i hi hA
  have hlt : i < h.length:=by omega
  have hrd : rd_T43 h (i : Int) = h.getD i z43:=by simp [rd_T43]
  refine Ev.succ ?_
  simp only [spec_validHeap.l0,hrd]
  have hdf : okF t h i (h.getD i z43) = (hasC t (h.getD i z43).f0 && ((decide (0 ≤ (h.getD i z43).f1) && decide ((h.getD i z43).f1 ≤ 99)) && (lnkB h (i : Int) (h.getD i z43).f2 && lnkB h (i : Int) (h.getD i z43).f3))):=rfl
  have hfl : okF t h i (h.getD i z43) = false → vH t h = false:=fun e=>by unfold vH fsH;rw [all_false hlt e];rfl
  refine Ev.pos (by omega) (Ev.pos (by omega) (Ev.bind (Ev.const (spec_hasClass_ev t _ ht)) ?_))
  cases q1 : hasC t (h.getD i z43).f0 with
  | false =>
   rw [hfl (by rw [hdf,q1];rfl)]
   exact Ev.neg (by simp) (Ev.const rfl)
  | true =>
   refine Ev.pos rfl (Ev.bind (Ev.const (spec_inRange_ev _ _ _)) ?_)
   cases q2 : (decide (0 ≤ (h.getD i z43).f1) && decide ((h.getD i z43).f1 ≤ 99)) with
   | false =>
    rw [hfl (by rw [hdf,q1,q2];rfl)]
    exact Ev.neg (by simp) (Ev.const rfl)
   | true =>
    refine Ev.pos rfl (Ev.bind (Ev.const (spec_validLinks_ev h i hlt (by omega))) ?_)
    cases q3 : (lnkB h (i : Int) (h.getD i z43).f2 && lnkB h (i : Int) (h.getD i z43).f3) with
    | false =>
     rw [hfl (by rw [hdf,q1,q2,q3];rfl)]
     exact Ev.neg (by simp) (Ev.const rfl)
    | true =>
     refine Ev.pos rfl ?_
     rw [wrap_succ (i:=(i : Int)) (n:=h.length) (by omega) (by omega) (by omega)]
     refine ih (i + 1) (by omega) (fun j hj=>?_)
     by_cases e : j = i
     ·subst e;rw [hdf,q1,q2,q3];rfl
     ·exact hA j (by omega)
theorem spec_validHeap_ev (t : List Cls) (h : List Fau) (hs : smT t = true) (ht : t.length ≤ 9223372036854775807) (hl : h.length ≤ 2097152) : Ev (fun k=>spec_validHeap.f k t h) (vH t h):=by
 have:=spec_validHeap_l0 t h hs ht hl h.length 0 (by omega) (fun j hj=>absurd hj (Nat.not_lt_zero _))
 exact this
end Go.Proofs.Ytmiholmfbjalfaa.P
namespace Go.Proofs.Ytmiholmfbjalfaa.P
open Go.RowKit Go.Proofs.YtmiholmfbjalfaaW.PrintWords Go.Proofs.YtmiholmfbjalfaaW.PrintLast Go.Proofs.YtmiholmfbjalfaaW.PrintMore
attribute [local go_sem] max2_int min2_int max_two min_two max_three min_three max_four min_four
set_option linter.unusedVariables false
set_option linter.unusedSimpArgs false
def spec_hasFault.f (l0_0 : List (S43)) (a1 : Int) : Option (Bool):=(spec_inRange.f a1 0 (wrap64 ((l0_0.length : Int) - 1))).bind fun t2=>(some t2)
set_option maxHeartbeats 8000000 in
set_option maxRecDepth 100000 in
theorem spec_hasFault.calls (A0_0 : Option Addr) (c0_0 : Nat) (l0_0 : List (S43)) (a1 : Int) (r : Bool) (w : World) (hr0_0 : Kd.C k43 w A0_0 l0_0.length l0_0) (hc0_0 : l0_0.length ≤ c0_0) (h : spec_hasFault.f l0_0 a1 = some r) :
  Calls Try.prog 52 #[.agg #[.slice A0_0 l0_0.length c0_0],.int .i64 a1] w fun e w'=>e = .returned (.bool r) ∧ Below w.heap.size w w':=by
 have hu28:=Try.underlying28
 have HR0_0:=a0_ hr0_0
 have HC0_0:=a0_ hc0_0
 clear hr0_0 hc0_0
 have HB:=a0_ (Below.refl w.heap.size w)
 have H : ((spec_inRange.f a1 0 (wrap64 ((l0_0.length : Int) - 1))).bind fun t2=>(some t2)) = some r:=h
 clear h
 replace H:=Option.bind_eq_some_iff.mp H
 obtain ⟨t2,A30,H⟩:=H
 replace H : (some t2) = some r:=H
 have A3:=a0_ A30
 clear A30
 obtain rfl:=Option.some.inj H
 go_enter Try.func52,Try.ntmps52
 go_wp2_with (first | ((with_reducible refine gate_dst (N:=2) rfl ?_);refine box_event ?hg (N:=2) ?hd (cs:=#[.slice A0_0 l0_0.length c0_0]) (t:=28) ?hr ?_;(case hd=>rfl);(case hg=>rfl);(case hr=>first | (go_simp;done) | (go_simp;rfl));intro gb1 hg w4 hbox hb;have BK1:=a0_ (hbox);have GW1:=a0_ ((by rw [hg];exact (below_size hb_) : w.heap.size ≤ gb1));have GE1:=a0_ ((by rw [hg];exact (below_size hb_) : w.heap.size ≤ gb1));replace HB:=a0_ (below_step hb_ hb);clear hb hbox hg;have hcz5_0 : w4.cell? ⟨gb1,0,none⟩ = some (.slice A0_0 l0_0.length c0_0):=(blk_cell BK1.out 0).trans rfl;have hfz5_0:=blk_frozen BK1.out 0) | ((with_reducible refine gate_callee (f:=71) rfl ?_);refine goesL_ (some 10) rfl rfl Try.func71 (by kernel_rfl) rfl #[.int .i64 a1,.int .i64 0,.int .i64 (wrap64 ((l0_0.length : Int) - 1))] rfl lm_ ?_;(with_reducible refine (spec_inRange.calls a1 0 (wrap64 ((l0_0.length : Int) - 1)) t2 _ A3.out).mono ?_);rintro e w' ⟨rfl,⟨nd,rfl⟩⟩;refine ⟨_,rfl,?_⟩))
 go_ret
 exact ⟨by first | rfl | (simp [errW_none,errW_some] <;> rfl) | (simp [*,errW_none,errW_some] <;> rfl),hb_⟩
theorem spec_hasFault_ev (h : List Fau) (f : Int) (hl : h.length ≤ 2097152) : spec_hasFault.f h f = some (hasF h f):=by
 unfold spec_hasFault.f
 rw [wrap_in (by omega) (by omega),spec_inRange_ev]
 rfl
end Go.Proofs.Ytmiholmfbjalfaa.P
namespace Go.Proofs.Ytmiholmfbjalfaa.P
open Go.RowKit Go.Proofs.YtmiholmfbjalfaaW.PrintWords Go.Proofs.YtmiholmfbjalfaaW.PrintLast Go.Proofs.YtmiholmfbjalfaaW.PrintMore
attribute [local go_sem] max2_int min2_int max_two min_two max_three min_three max_four min_four
set_option linter.unusedVariables false
set_option linter.unusedSimpArgs false
def spec_goodFault.f (k : Nat) (l0_0 : List (S87)) (l1_0 : List (S43)) (a2 : Int) : Option (Bool):=(spec_validHeap.f k l0_0 l1_0).bind fun t3=>(if t3 = true then ((spec_hasFault.f l1_0 a2).bind fun t4=>(some t4)) else (some false))
theorem spec_goodFault.mono : ∀ a0 a1 a2 k,LeO (spec_goodFault.f k a0 a1 a2) (spec_goodFault.f (k + 1) a0 a1 a2):=by
 intro a0 a1 a2 k
 unfold spec_goodFault.f
 repeat' first
   | (with_reducible exact spec_validHeap.mono _ _ _)
   | (with_reducible exact LeO.refl _)
   | (with_reducible exact LeO.none _)
   | (with_reducible refine LeO.ite ?_ ?_)
   | (with_reducible refine LeO.bind ?_ (fun _=>?_))
   | exact spec_validHeap.mono _ _ _
   | exact LeO.none _
   | refine LeO.ite ?_ ?_
   | refine LeO.bind ?_ (fun _=>?_)
set_option maxHeartbeats 8000000 in
set_option maxRecDepth 100000 in
theorem spec_goodFault.calls (k : Nat) (A0_0 : Option Addr) (c0_0 : Nat) (l0_0 : List (S87)) (A1_0 : Option Addr) (c1_0 : Nat) (l1_0 : List (S43)) (a2 : Int) (r : Bool) (w : World) (hr0_0 : Kd.C k87 w A0_0 l0_0.length l0_0) (hc0_0 : l0_0.length ≤ c0_0) (hr1_0 : Kd.C k43 w A1_0 l1_0.length l1_0) (hc1_0 : l1_0.length ≤ c1_0) (h : spec_goodFault.f k l0_0 l1_0 a2 = some r) :
  Calls Try.prog 38 #[.agg #[.slice A0_0 l0_0.length c0_0],.agg #[.slice A1_0 l1_0.length c1_0],.int .i64 a2] w fun e w'=>e = .returned (.bool r) ∧ Below w.heap.size w w':=by
 have hu25:=Try.underlying25
 have hu28:=Try.underlying28
 have HR0_0:=a0_ hr0_0
 have HC0_0:=a0_ hc0_0
 clear hr0_0 hc0_0
 have HR1_0:=a0_ hr1_0
 have HC1_0:=a0_ hc1_0
 clear hr1_0 hc1_0
 have HB:=a0_ (Below.refl w.heap.size w)
 have H : ((spec_validHeap.f k l0_0 l1_0).bind fun t3=>(if t3 = true then ((spec_hasFault.f l1_0 a2).bind fun t4=>(some t4)) else (some false))) = some r:=h
 clear h
 replace H:=Option.bind_eq_some_iff.mp H
 obtain ⟨t3,A40,H⟩:=H
 try dsimp only at H
 have A4:=a0_ A40
 clear A40
 by_cases c5 : t3 = true
 ·subst c5
  have H1 : ((spec_hasFault.f l1_0 a2).bind fun t4=>(some t4)) = some r:=by rw [if_pos rfl] at H;exact H
  clear H
  have H:=H1
  clear H1
  replace H:=Option.bind_eq_some_iff.mp H
  obtain ⟨t4,A60,H⟩:=H
  replace H : (some t4) = some r:=H
  have A6:=a0_ A60
  clear A60
  obtain rfl:=Option.some.inj H
  go_enter Try.func38,Try.ntmps38
  go_wp2_with (first | ((with_reducible refine gate_dst (N:=3) rfl ?_);refine box_event ?hg (N:=3) ?hd (cs:=#[.slice A0_0 l0_0.length c0_0]) (t:=25) ?hr ?_;(case hd=>rfl);(case hg=>rfl);(case hr=>first | (go_simp;done) | (go_simp;rfl));intro gb1 hg w7 hbox hb;have BK1:=a0_ (hbox);have GW1:=a0_ ((by rw [hg];exact (below_size hb_) : w.heap.size ≤ gb1));have GE1:=a0_ ((by rw [hg];exact (below_size hb_) : w.heap.size ≤ gb1));replace HB:=a0_ (below_step hb_ hb);clear hb hbox hg) | ((with_reducible refine gate_dst (N:=4) rfl ?_);refine box_event ?hg (N:=4) ?hd (cs:=#[.slice A1_0 l1_0.length c1_0]) (t:=28) ?hr ?_;(case hd=>rfl);(case hg=>rfl);(case hr=>first | (go_simp;done) | (go_simp;rfl));intro gb2 hg w8 hbox hb;have n0_:=kb_ BK1 hb;have n1_:=a0_ (below_step hb_ hb);have n2_:=a0_ (hbox);have n3_:=a0_ ((by rw [hg];exact (below_size hb_) : w.heap.size ≤ gb2));have n4_:=a0_ ((by rw [hg];exact (below_size hb_) : w.heap.size ≤ gb2));have n5_:=a0_ ((by rw [hg];exact Nat.ne_of_lt (blk_lt (bb_ BK1.out)) : gb1 ≠ gb2));have n6_:=a0_ ((by rw [hg];exact Nat.ne_of_gt (blk_lt (bb_ BK1.out)) : gb2 ≠ gb1));clear BK1 HB;have BK1:=n0_;have HB:=n1_;have BK2:=n2_;have GW2:=n3_;have GE2:=n4_;have NB1_2:=n5_;have NB2_1:=n6_;clear n0_ n1_ n2_ n3_ n4_ n5_ n6_;clear hb hbox hg;have hnb9:=NB1_2.out;have hnc9:=NB2_1.out;have hcz10_0 : w8.cell? ⟨gb1,0,none⟩ = some (.slice A0_0 l0_0.length c0_0):=(blk_cell BK1.out 0).trans rfl;have hfz10_0:=blk_frozen BK1.out 0;have hcz11_0 : w8.cell? ⟨gb2,0,none⟩ = some (.slice A1_0 l1_0.length c1_0):=(blk_cell BK2.out 0).trans rfl;have hfz11_0:=blk_frozen BK2.out 0) | ((with_reducible refine gate_callee (f:=46) rfl ?_);refine goesL_ (some 9) rfl rfl Try.func46 (by kernel_rfl) rfl #[.agg #[.slice A0_0 l0_0.length c0_0],.agg #[.slice A1_0 l1_0.length c1_0]] rfl lm_ ?_;(with_reducible refine (spec_validHeap.calls k _ _ l0_0 _ _ l1_0 true _ ?side1 ?side2 ?side3 ?side4 A4.out).mono ?_);(case side1=>exact cc_ (Kd.C_below HR0_0.out HB.out));(case side2=>exact HC0_0.out);(case side3=>exact cc_ (Kd.C_below HR1_0.out HB.out));(case side4=>exact HC1_0.out);rintro e w12 ⟨rfl,hb⟩;refine ⟨_,rfl,?_⟩;replace BK1:=kb_ BK1 hb;replace BK2:=kb_ BK2 hb;replace HB:=a0_ (below_step hb_ hb);(try clear hb);have hcz13_0 : w12.cell? ⟨gb2,0,none⟩ = some (.slice A1_0 l1_0.length c1_0):=(blk_cell BK2.out 0).trans rfl;have hfz13_0:=blk_frozen BK2.out 0) | (go_at_call 52;(with_reducible refine (spec_hasFault.calls _ _ l1_0 a2 t4 _ ?side1 ?side2 A6.out).mono ?_);(case side1=>exact cc_ (Kd.C_below HR1_0.out HB.out));(case side2=>exact HC1_0.out);rintro e w14 ⟨rfl,hb⟩;replace BK1:=kb_ BK1 hb;replace BK2:=kb_ BK2 hb;replace HB:=a0_ (below_step hb_ hb);(try clear hb);(try clear hb2);(try clear hk);(try clear hi)))
  go_ret
  exact ⟨by first | rfl | (simp [errW_none,errW_some] <;> rfl) | (simp [*,errW_none,errW_some] <;> rfl),hb_⟩
 ·replace c5:=Bool.eq_false_iff.mpr c5
  subst c5
  have H1 : (some false) = some r:=by rw [if_neg (show ¬ (false = true) by decide)] at H;exact H
  clear H
  have H:=H1
  clear H1
  obtain rfl:=Option.some.inj H
  go_enter Try.func38,Try.ntmps38
  go_wp2_with (first | ((with_reducible refine gate_dst (N:=3) rfl ?_);refine box_event ?hg (N:=3) ?hd (cs:=#[.slice A0_0 l0_0.length c0_0]) (t:=25) ?hr ?_;(case hd=>rfl);(case hg=>rfl);(case hr=>first | (go_simp;done) | (go_simp;rfl));intro gb1 hg w15 hbox hb;have BK1:=a0_ (hbox);have GW1:=a0_ ((by rw [hg];exact (below_size hb_) : w.heap.size ≤ gb1));have GE1:=a0_ ((by rw [hg];exact (below_size hb_) : w.heap.size ≤ gb1));replace HB:=a0_ (below_step hb_ hb);clear hb hbox hg) | ((with_reducible refine gate_dst (N:=4) rfl ?_);refine box_event ?hg (N:=4) ?hd (cs:=#[.slice A1_0 l1_0.length c1_0]) (t:=28) ?hr ?_;(case hd=>rfl);(case hg=>rfl);(case hr=>first | (go_simp;done) | (go_simp;rfl));intro gb2 hg w16 hbox hb;have n0_:=kb_ BK1 hb;have n1_:=a0_ (below_step hb_ hb);have n2_:=a0_ (hbox);have n3_:=a0_ ((by rw [hg];exact (below_size hb_) : w.heap.size ≤ gb2));have n4_:=a0_ ((by rw [hg];exact (below_size hb_) : w.heap.size ≤ gb2));have n5_:=a0_ ((by rw [hg];exact Nat.ne_of_lt (blk_lt (bb_ BK1.out)) : gb1 ≠ gb2));have n6_:=a0_ ((by rw [hg];exact Nat.ne_of_gt (blk_lt (bb_ BK1.out)) : gb2 ≠ gb1));clear BK1 HB;have BK1:=n0_;have HB:=n1_;have BK2:=n2_;have GW2:=n3_;have GE2:=n4_;have NB1_2:=n5_;have NB2_1:=n6_;clear n0_ n1_ n2_ n3_ n4_ n5_ n6_;clear hb hbox hg;have hnb17:=NB1_2.out;have hnc17:=NB2_1.out;have hcz18_0 : w16.cell? ⟨gb1,0,none⟩ = some (.slice A0_0 l0_0.length c0_0):=(blk_cell BK1.out 0).trans rfl;have hfz18_0:=blk_frozen BK1.out 0;have hcz19_0 : w16.cell? ⟨gb2,0,none⟩ = some (.slice A1_0 l1_0.length c1_0):=(blk_cell BK2.out 0).trans rfl;have hfz19_0:=blk_frozen BK2.out 0) | ((with_reducible refine gate_callee (f:=46) rfl ?_);refine goesL_ (some 9) rfl rfl Try.func46 (by kernel_rfl) rfl #[.agg #[.slice A0_0 l0_0.length c0_0],.agg #[.slice A1_0 l1_0.length c1_0]] rfl lm_ ?_;(with_reducible refine (spec_validHeap.calls k _ _ l0_0 _ _ l1_0 false _ ?side1 ?side2 ?side3 ?side4 A4.out).mono ?_);(case side1=>exact cc_ (Kd.C_below HR0_0.out HB.out));(case side2=>exact HC0_0.out);(case side3=>exact cc_ (Kd.C_below HR1_0.out HB.out));(case side4=>exact HC1_0.out);rintro e w20 ⟨rfl,hb⟩;refine ⟨_,rfl,?_⟩;replace BK1:=kb_ BK1 hb;replace BK2:=kb_ BK2 hb;replace HB:=a0_ (below_step hb_ hb);(try clear hb);(try clear hb2);(try clear hk);(try clear hi)))
  go_ret
  exact ⟨by first | rfl | (simp [errW_none,errW_some] <;> rfl) | (simp [*,errW_none,errW_some] <;> rfl),hb_⟩
theorem spec_goodFault_ev (t : List Cls) (h : List Fau) (f : Int) (hs : smT t = true) (ht : t.length ≤ 9223372036854775807) (hl : h.length ≤ 2097152) : Ev (fun k=>spec_goodFault.f k t h f) (vH t h && hasF h f):=by
 refine Ev.bind (spec_validHeap_ev t h hs ht hl) ?_
 cases vH t h with
 | false=>exact Ev.neg (by simp) (Ev.const rfl)
 | true =>
  refine Ev.pos rfl (Ev.bind (Ev.const ?_) (Ev.const rfl))
  unfold spec_hasFault.f
  rw [wrap_in (by omega) (by omega),spec_inRange_ev]
  rfl
end Go.Proofs.Ytmiholmfbjalfaa.P
namespace Go.Proofs.Ytmiholmfbjalfaa.P
open Go.RowKit Go.Proofs.YtmiholmfbjalfaaW.PrintWords Go.Proofs.YtmiholmfbjalfaaW.PrintLast Go.Proofs.YtmiholmfbjalfaaW.PrintMore
attribute [local go_sem] max2_int min2_int max_two min_two max_three min_three max_four min_four
set_option linter.unusedVariables false
set_option linter.unusedSimpArgs false
def spec_shownNext.f (l0_0 : List (S43)) (a1 : Int) : Option (Int):=if 0 ≤ a1 then (if a1 < (l0_0.length : Int) then (if ((rd_T43 l0_0 a1).f2) ≥ 0 then (some ((rd_T43 l0_0 a1).f2)) else (if ((rd_T43 l0_0 a1).f4 = true) then (some (-1)) else (some ((rd_T43 l0_0 a1).f3)))) else (none)) else (none)
set_option maxHeartbeats 8000000 in
set_option maxRecDepth 100000 in
theorem spec_shownNext.calls (A0_0 : Option Addr) (c0_0 : Nat) (l0_0 : List (S43)) (a1 : Int) (r : Int) (w : World) (hr0_0 : Kd.C k43 w A0_0 l0_0.length l0_0) (hc0_0 : l0_0.length ≤ c0_0) (h : spec_shownNext.f l0_0 a1 = some r) :
  Calls Try.prog 65 #[.agg #[.slice A0_0 l0_0.length c0_0],.int .i64 a1] w fun e w'=>e = .returned (.int .i64 r) ∧ Below w.heap.size w w':=by
 have hu28:=Try.underlying28
 have hu43:=Try.underlying43
 have HR0_0:=a0_ hr0_0
 have HC0_0:=a0_ hc0_0
 clear hr0_0 hc0_0
 have HB:=a0_ (Below.refl w.heap.size w)
 have H : (if 0 ≤ a1 then (if a1 < (l0_0.length : Int) then (if ((rd_T43 l0_0 a1).f2) ≥ 0 then (some ((rd_T43 l0_0 a1).f2)) else (if ((rd_T43 l0_0 a1).f4 = true) then (some (-1)) else (some ((rd_T43 l0_0 a1).f3)))) else (none)) else (none)) = some r:=h
 clear h
 by_cases c3 : 0 ≤ a1
 ·rw [if_pos c3] at H
  have c3b0 : decide (0 ≤ a1) = true:=decide_eq_true c3
  clear c3
  by_cases c4 : a1 < (l0_0.length : Int)
  ·rw [if_pos c4] at H
   have c4b0 : decide (a1 < (l0_0.length : Int)) = true:=decide_eq_true c4
   clear c4
   by_cases c5 : ((rd_T43 l0_0 a1).f2) ≥ 0
   ·rw [if_pos c5] at H
    have c5b0 : decide (0 ≤ ((rd_T43 l0_0 a1).f2)) = true:=decide_eq_true c5
    clear c5
    obtain rfl:=Option.some.inj H
    go_enter Try.func65,Try.ntmps65
    go_wp2_with (first | ((with_reducible refine gate_dst (N:=2) rfl ?_);refine box_event ?hg (N:=2) ?hd (cs:=#[.slice A0_0 l0_0.length c0_0]) (t:=28) ?hr ?_;(case hd=>rfl);(case hg=>rfl);(case hr=>first | (go_simp;done) | (go_simp;rfl));intro gb1 hg w6 hbox hb;have BK1:=a0_ (hbox);have GW1:=a0_ ((by rw [hg];exact (below_size hb_) : w.heap.size ≤ gb1));have GE1:=a0_ ((by rw [hg];exact (below_size hb_) : w.heap.size ≤ gb1));replace HB:=a0_ (below_step hb_ hb);clear hb hbox hg;have hcz7_0 : w6.cell? ⟨gb1,0,none⟩ = some (.slice A0_0 l0_0.length c0_0):=(blk_cell BK1.out 0).trans rfl;have hfz7_0:=blk_frozen BK1.out 0;have p2 : 0 ≤ (a1 : Int):=of_decide_eq_true (by first | (with_reducible assumption) | assumption);have q2 : a1 < (l0_0.length : Int):=of_decide_eq_true (by first | (with_reducible assumption) | assumption);obtain ⟨ad2,e2,hx2_0,hx2_1,hx2_2,hx2_3,hx2_4⟩:=at_T43 HR0_0.out a1 p2 q2;cases e2;replace hx2_0:=(HB.out.cell (World.block_lt_of_cell? w _ hx2_0)).trans hx2_0;replace hx2_1:=(HB.out.cell (World.block_lt_of_cell? w _ hx2_1)).trans hx2_1;replace hx2_2:=(HB.out.cell (World.block_lt_of_cell? w _ hx2_2)).trans hx2_2;replace hx2_3:=(HB.out.cell (World.block_lt_of_cell? w _ hx2_3)).trans hx2_3;replace hx2_4:=(HB.out.cell (World.block_lt_of_cell? w _ hx2_4)).trans hx2_4;replace p2:=eq_true p2;replace q2:=eq_true q2) | ((with_reducible refine gate_dst (N:=5) rfl ?_);refine box_event ?hg (N:=5) ?hd (cs:=#[.int .i64 0,.int .i64 0,.int .i64 0,.int .i64 0,.bool false]) (t:=43) ?hr ?_;(case hd=>rfl);(case hg=>rfl);(case hr=>first | (go_simp;done) | (go_simp;rfl));intro gb3 hg w8 hbox hb;have n0_:=kb_ BK1 hb;have n1_:=a0_ (below_step hb_ hb);have n2_:=a0_ (hbox);have n3_:=a0_ ((by rw [hg];exact (below_size hb_) : w.heap.size ≤ gb3));have n4_:=a0_ ((by rw [hg];exact (below_size hb_) : w.heap.size ≤ gb3));have n5_:=a0_ ((by rw [hg];exact Nat.ne_of_lt (blk_lt (bb_ BK1.out)) : gb1 ≠ gb3));have n6_:=a0_ ((by rw [hg];exact Nat.ne_of_gt (blk_lt (bb_ BK1.out)) : gb3 ≠ gb1));clear BK1 HB;have BK1:=n0_;have HB:=n1_;have BK3:=n2_;have GW3:=n3_;have GE3:=n4_;have NB1_3:=n5_;have NB3_1:=n6_;clear n0_ n1_ n2_ n3_ n4_ n5_ n6_;clear hb hbox hg;have hnb9:=NB3_1.out;have hnc9:=NB1_3.out;have hcz10_0 : w8.cell? ⟨gb3,0,none⟩ = some (.int .i64 0):=(blk_cell BK3.out 0).trans rfl;have hcz10_1 : w8.cell? ⟨gb3,1,none⟩ = some (.int .i64 0):=(blk_cell BK3.out 1).trans rfl;have hcz10_2 : w8.cell? ⟨gb3,2,none⟩ = some (.int .i64 0):=(blk_cell BK3.out 2).trans rfl;have hcz10_3 : w8.cell? ⟨gb3,3,none⟩ = some (.int .i64 0):=(blk_cell BK3.out 3).trans rfl;have hcz10_4 : w8.cell? ⟨gb3,4,none⟩ = some (.bool false):=(blk_cell BK3.out 4).trans rfl;have hfz10_0:=blk_frozen BK3.out 0;have hfz10_1:=blk_frozen BK3.out 1;have hfz10_2:=blk_frozen BK3.out 2;have hfz10_3:=blk_frozen BK3.out 3;have hfz10_4:=blk_frozen BK3.out 4))
    go_ret
    exact ⟨by first | rfl | (simp [errW_none,errW_some] <;> rfl) | (simp [*,errW_none,errW_some] <;> rfl),hb_⟩
   ·rw [if_neg c5] at H
    have c5b0 : decide (0 ≤ ((rd_T43 l0_0 a1).f2)) = false:=decide_eq_false c5
    clear c5
    obtain ⟨bq11,hbq11⟩ : ∃ b_ : Bool,b_ = ((rd_T43 l0_0 a1).f4):=⟨_,rfl⟩
    replace H : (if (bq11 = true) then (some (-1)) else (some ((rd_T43 l0_0 a1).f3))) = some r:=by rw [← hbq11] at H;exact H
    have Nbq11:=a0_ hbq11
    clear hbq11
    by_cases c12 : (bq11 = true)
    ·subst c12
     have H1 : (some (-1)) = some r:=by rw [if_pos rfl] at H;exact H
     clear H
     have H:=H1
     clear H1
     obtain rfl:=Option.some.inj H
     go_enter Try.func65,Try.ntmps65
     go_wp2_with (first | ((with_reducible refine gate_dst (N:=2) rfl ?_);refine box_event ?hg (N:=2) ?hd (cs:=#[.slice A0_0 l0_0.length c0_0]) (t:=28) ?hr ?_;(case hd=>rfl);(case hg=>rfl);(case hr=>first | (go_simp;done) | (go_simp;rfl));intro gb1 hg w13 hbox hb;have BK1:=a0_ (hbox);have GW1:=a0_ ((by rw [hg];exact (below_size hb_) : w.heap.size ≤ gb1));have GE1:=a0_ ((by rw [hg];exact (below_size hb_) : w.heap.size ≤ gb1));replace HB:=a0_ (below_step hb_ hb);clear hb hbox hg;have hcz14_0 : w13.cell? ⟨gb1,0,none⟩ = some (.slice A0_0 l0_0.length c0_0):=(blk_cell BK1.out 0).trans rfl;have hfz14_0:=blk_frozen BK1.out 0;have p2 : 0 ≤ (a1 : Int):=of_decide_eq_true (by first | (with_reducible assumption) | assumption);have q2 : a1 < (l0_0.length : Int):=of_decide_eq_true (by first | (with_reducible assumption) | assumption);obtain ⟨ad2,e2,hx2_0,hx2_1,hx2_2,hx2_3,hx2_4⟩:=at_T43 HR0_0.out a1 p2 q2;(try rw [← Nbq11.out] at hx2_4);cases e2;replace hx2_0:=(HB.out.cell (World.block_lt_of_cell? w _ hx2_0)).trans hx2_0;replace hx2_1:=(HB.out.cell (World.block_lt_of_cell? w _ hx2_1)).trans hx2_1;replace hx2_2:=(HB.out.cell (World.block_lt_of_cell? w _ hx2_2)).trans hx2_2;replace hx2_3:=(HB.out.cell (World.block_lt_of_cell? w _ hx2_3)).trans hx2_3;replace hx2_4:=(HB.out.cell (World.block_lt_of_cell? w _ hx2_4)).trans hx2_4;replace p2:=eq_true p2;replace q2:=eq_true q2) | ((with_reducible refine gate_dst (N:=5) rfl ?_);refine box_event ?hg (N:=5) ?hd (cs:=#[.int .i64 0,.int .i64 0,.int .i64 0,.int .i64 0,.bool false]) (t:=43) ?hr ?_;(case hd=>rfl);(case hg=>rfl);(case hr=>first | (go_simp;done) | (go_simp;rfl));intro gb3 hg w15 hbox hb;have n0_:=kb_ BK1 hb;have n1_:=a0_ (below_step hb_ hb);have n2_:=a0_ (hbox);have n3_:=a0_ ((by rw [hg];exact (below_size hb_) : w.heap.size ≤ gb3));have n4_:=a0_ ((by rw [hg];exact (below_size hb_) : w.heap.size ≤ gb3));have n5_:=a0_ ((by rw [hg];exact Nat.ne_of_lt (blk_lt (bb_ BK1.out)) : gb1 ≠ gb3));have n6_:=a0_ ((by rw [hg];exact Nat.ne_of_gt (blk_lt (bb_ BK1.out)) : gb3 ≠ gb1));clear BK1 HB;have BK1:=n0_;have HB:=n1_;have BK3:=n2_;have GW3:=n3_;have GE3:=n4_;have NB1_3:=n5_;have NB3_1:=n6_;clear n0_ n1_ n2_ n3_ n4_ n5_ n6_;clear hb hbox hg;have hnb16:=NB3_1.out;have hnc16:=NB1_3.out;have hcz17_0 : w15.cell? ⟨gb3,0,none⟩ = some (.int .i64 0):=(blk_cell BK3.out 0).trans rfl;have hcz17_1 : w15.cell? ⟨gb3,1,none⟩ = some (.int .i64 0):=(blk_cell BK3.out 1).trans rfl;have hcz17_2 : w15.cell? ⟨gb3,2,none⟩ = some (.int .i64 0):=(blk_cell BK3.out 2).trans rfl;have hcz17_3 : w15.cell? ⟨gb3,3,none⟩ = some (.int .i64 0):=(blk_cell BK3.out 3).trans rfl;have hcz17_4 : w15.cell? ⟨gb3,4,none⟩ = some (.bool false):=(blk_cell BK3.out 4).trans rfl;have hfz17_0:=blk_frozen BK3.out 0;have hfz17_1:=blk_frozen BK3.out 1;have hfz17_2:=blk_frozen BK3.out 2;have hfz17_3:=blk_frozen BK3.out 3;have hfz17_4:=blk_frozen BK3.out 4))
     go_ret
     exact ⟨by first | rfl | (simp [errW_none,errW_some] <;> rfl) | (simp [*,errW_none,errW_some] <;> rfl),hb_⟩
    ·replace c12:=Bool.eq_false_iff.mpr c12
     subst c12
     have H1 : (some ((rd_T43 l0_0 a1).f3)) = some r:=by rw [if_neg (show ¬ (false = true) by decide)] at H;exact H
     clear H
     have H:=H1
     clear H1
     obtain rfl:=Option.some.inj H
     go_enter Try.func65,Try.ntmps65
     go_wp2_with (first | ((with_reducible refine gate_dst (N:=2) rfl ?_);refine box_event ?hg (N:=2) ?hd (cs:=#[.slice A0_0 l0_0.length c0_0]) (t:=28) ?hr ?_;(case hd=>rfl);(case hg=>rfl);(case hr=>first | (go_simp;done) | (go_simp;rfl));intro gb1 hg w18 hbox hb;have BK1:=a0_ (hbox);have GW1:=a0_ ((by rw [hg];exact (below_size hb_) : w.heap.size ≤ gb1));have GE1:=a0_ ((by rw [hg];exact (below_size hb_) : w.heap.size ≤ gb1));replace HB:=a0_ (below_step hb_ hb);clear hb hbox hg;have hcz19_0 : w18.cell? ⟨gb1,0,none⟩ = some (.slice A0_0 l0_0.length c0_0):=(blk_cell BK1.out 0).trans rfl;have hfz19_0:=blk_frozen BK1.out 0;have p2 : 0 ≤ (a1 : Int):=of_decide_eq_true (by first | (with_reducible assumption) | assumption);have q2 : a1 < (l0_0.length : Int):=of_decide_eq_true (by first | (with_reducible assumption) | assumption);obtain ⟨ad2,e2,hx2_0,hx2_1,hx2_2,hx2_3,hx2_4⟩:=at_T43 HR0_0.out a1 p2 q2;(try rw [← Nbq11.out] at hx2_4);cases e2;replace hx2_0:=(HB.out.cell (World.block_lt_of_cell? w _ hx2_0)).trans hx2_0;replace hx2_1:=(HB.out.cell (World.block_lt_of_cell? w _ hx2_1)).trans hx2_1;replace hx2_2:=(HB.out.cell (World.block_lt_of_cell? w _ hx2_2)).trans hx2_2;replace hx2_3:=(HB.out.cell (World.block_lt_of_cell? w _ hx2_3)).trans hx2_3;replace hx2_4:=(HB.out.cell (World.block_lt_of_cell? w _ hx2_4)).trans hx2_4;replace p2:=eq_true p2;replace q2:=eq_true q2) | ((with_reducible refine gate_dst (N:=5) rfl ?_);refine box_event ?hg (N:=5) ?hd (cs:=#[.int .i64 0,.int .i64 0,.int .i64 0,.int .i64 0,.bool false]) (t:=43) ?hr ?_;(case hd=>rfl);(case hg=>rfl);(case hr=>first | (go_simp;done) | (go_simp;rfl));intro gb3 hg w20 hbox hb;have n0_:=kb_ BK1 hb;have n1_:=a0_ (below_step hb_ hb);have n2_:=a0_ (hbox);have n3_:=a0_ ((by rw [hg];exact (below_size hb_) : w.heap.size ≤ gb3));have n4_:=a0_ ((by rw [hg];exact (below_size hb_) : w.heap.size ≤ gb3));have n5_:=a0_ ((by rw [hg];exact Nat.ne_of_lt (blk_lt (bb_ BK1.out)) : gb1 ≠ gb3));have n6_:=a0_ ((by rw [hg];exact Nat.ne_of_gt (blk_lt (bb_ BK1.out)) : gb3 ≠ gb1));clear BK1 HB;have BK1:=n0_;have HB:=n1_;have BK3:=n2_;have GW3:=n3_;have GE3:=n4_;have NB1_3:=n5_;have NB3_1:=n6_;clear n0_ n1_ n2_ n3_ n4_ n5_ n6_;clear hb hbox hg;have hnb21:=NB3_1.out;have hnc21:=NB1_3.out;have hcz22_0 : w20.cell? ⟨gb3,0,none⟩ = some (.int .i64 0):=(blk_cell BK3.out 0).trans rfl;have hcz22_1 : w20.cell? ⟨gb3,1,none⟩ = some (.int .i64 0):=(blk_cell BK3.out 1).trans rfl;have hcz22_2 : w20.cell? ⟨gb3,2,none⟩ = some (.int .i64 0):=(blk_cell BK3.out 2).trans rfl;have hcz22_3 : w20.cell? ⟨gb3,3,none⟩ = some (.int .i64 0):=(blk_cell BK3.out 3).trans rfl;have hcz22_4 : w20.cell? ⟨gb3,4,none⟩ = some (.bool false):=(blk_cell BK3.out 4).trans rfl;have hfz22_0:=blk_frozen BK3.out 0;have hfz22_1:=blk_frozen BK3.out 1;have hfz22_2:=blk_frozen BK3.out 2;have hfz22_3:=blk_frozen BK3.out 3;have hfz22_4:=blk_frozen BK3.out 4))
     go_ret
     exact ⟨by first | rfl | (simp [errW_none,errW_some] <;> rfl) | (simp [*,errW_none,errW_some] <;> rfl),hb_⟩
  ·rw [if_neg c4] at H
   exact absurd H (by simp)
 ·rw [if_neg c3] at H
  exact absurd H (by simp)
theorem spec_shownNext_ev (h : List Fau) (f : Int) (h0 : 0 ≤ f) (hf : f < (h.length : Int)) : spec_shownNext.f h f = some (shwN h f):=by
 unfold spec_shownNext.f shwN
 have hrd : rd_T43 h f = h.getD f.toNat z43:=by simp [rd_T43]
 rw [if_pos h0,if_pos hf,hrd]
 generalize h.getD f.toNat z43 = x
 by_cases h1 : x.f2 ≥ 0
 ·rw [if_pos h1,if_pos h1]
 ·rw [if_neg h1,if_neg h1]
  cases x.f4 <;> rfl
end Go.Proofs.Ytmiholmfbjalfaa.P
namespace Go.Proofs.Ytmiholmfbjalfaa.P
open Go.RowKit Go.Proofs.YtmiholmfbjalfaaW.PrintWords Go.Proofs.YtmiholmfbjalfaaW.PrintLast Go.Proofs.YtmiholmfbjalfaaW.PrintMore
attribute [local go_sem] max2_int min2_int max_two min_two max_three min_three max_four min_four
set_option linter.unusedVariables false
set_option linter.unusedSimpArgs false
def spec_shown.l0 : Nat → Int → List Int → List (S43) → Option (List Int)
 | 0,_,_,_=>none
 | k + 1,x1,x5,x2000=>if x1 ≥ 0 then ((spec_hasInt.f k x5 x1).bind fun t5=>(if t5 = true then (some x5) else (if x5.length < 17592186044416 then ((spec_shownNext.f x2000 x1).bind fun t9=>(spec_shown.l0 k t9 (x5 ++ [x1]) x2000)) else (none)))) else (some x5)
def spec_shown.f (k : Nat) (l0_0 : List (S43)) (a1 : Int) : Option (List Int):=spec_shown.l0 k a1 (([] : List Int)) l0_0
theorem spec_shown.mono_l : ∀ k,(∀ y0 y1 y2,LeO (spec_shown.l0 k y0 y1 y2) (spec_shown.l0 (k + 1) y0 y1 y2))
 | 0=>fun _ _ _ r h=>by simp [spec_shown.l0] at h
 | k + 1=>by
  have ih0:=spec_shown.mono_l k
  ·intro y0 y1 y2
   unfold spec_shown.l0
   repeat' first
   | (with_reducible exact ih0 _ _ _)
   | (with_reducible exact spec_hasInt.mono _ _ _)
   | (with_reducible exact LeO.refl _)
   | (with_reducible exact LeO.none _)
   | (with_reducible refine LeO.ite ?_ ?_)
   | (with_reducible refine LeO.bind ?_ (fun _=>?_))
   | exact ih0 _ _ _
   | exact spec_hasInt.mono _ _ _
   | exact LeO.none _
   | refine LeO.ite ?_ ?_
   | refine LeO.bind ?_ (fun _=>?_)
theorem spec_shown.mono : ∀ a0 a1 k,LeO (spec_shown.f k a0 a1) (spec_shown.f (k + 1) a0 a1):=by
 intro a0 a1 k
 have ih0:=spec_shown.mono_l k
 unfold spec_shown.f
 repeat' first
   | (with_reducible exact ih0 _ _ _)
   | (with_reducible exact spec_hasInt.mono _ _ _)
   | (with_reducible exact LeO.refl _)
   | (with_reducible exact LeO.none _)
   | (with_reducible refine LeO.ite ?_ ?_)
   | (with_reducible refine LeO.bind ?_ (fun _=>?_))
   | exact ih0 _ _ _
   | exact spec_hasInt.mono _ _ _
   | exact LeO.none _
   | refine LeO.ite ?_ ?_
   | refine LeO.bind ?_ (fun _=>?_)
set_option maxHeartbeats 8000000 in
set_option maxRecDepth 100000 in
theorem spec_shown.calls (k : Nat) (A0_0 : Option Addr) (c0_0 : Nat) (l0_0 : List (S43)) (a1 : Int) (r : List Int) (w : World) (hr0_0 : Kd.C k43 w A0_0 l0_0.length l0_0) (hc0_0 : l0_0.length ≤ c0_0) (h : spec_shown.f k l0_0 a1 = some r) :
  Calls Try.prog 39 #[.agg #[.slice A0_0 l0_0.length c0_0],.int .i64 a1] w fun e w'=>∃ v0_ : Value,e = .returned (v0_) ∧ Kd.R (Kd.int .i64) 3 w' w.heap.size (fun _=>True) v0_ r ∧ Below w.heap.size w w':=by
 have hu28:=Try.underlying28
 have HR0_0:=a0_ hr0_0
 have HC0_0:=a0_ hc0_0
 clear hr0_0 hc0_0
 have HB:=a0_ (Below.refl w.heap.size w)
 have H : (spec_shown.l0 k a1 (([] : List Int)) l0_0) = some r:=h
 clear h
 obtain ⟨y2,hy2⟩ : ∃ y_ : List Int,y_ = (([] : List Int)):=⟨_,rfl⟩
 replace H : (spec_shown.l0 k a1 y2 l0_0) = some r:=by first | (rw [hy2];with_reducible exact H) | (have H2_:=(Option.bind_some _ _).symm.trans H;rw [hy2];with_reducible exact H2_) | (have H2_:=(Option.bind_some _ _).symm.trans H;with_reducible exact H2_) | with_reducible exact H | (rw [hy2];exact H) | exact H
 have Ny2:=a0_ hy2
 clear hy2
 have H':=a0_ H
 clear H
 go_enter Try.func39,Try.ntmps39
 go_wp2_with (first | ((with_reducible refine gate_dst (N:=2) rfl ?_);refine box_event ?hg (N:=2) ?hd (cs:=#[.slice A0_0 l0_0.length c0_0]) (t:=28) ?hr ?_;(case hd=>rfl);(case hg=>rfl);(case hr=>first | (go_simp;done) | (go_simp;rfl));intro gb1 hg w3 hbox hb;have BK1:=a0_ (hbox);have GW1:=a0_ ((by rw [hg];exact (below_size hb_) : w.heap.size ≤ gb1));have GE1:=a0_ ((by rw [hg];exact (below_size hb_) : w.heap.size ≤ gb1));replace HB:=a0_ (below_step hb_ hb);clear hb hbox hg) | ((with_reducible refine gate_dst (N:=6) rfl ?_);refine Kd.R_lit (Kd.int .i64) _ 3 ?hg (N:=6) ?hd (xs:=([] : List Int)) (inner:=[]) (ok:=fun _=>True) (okp:=fun _=>True) ?hr ?hp (fun _ hk=>hk) trivial (Below.refl _ _) (Nat.le_refl _) (by simp) ?_;(case hd=>rfl);(case hg=>rfl);(case hr=>first | (go_simp;done) | (go_simp;rfl));(case hp=>exact (Reps.none _ _));intro v3 w4 ho5 hb hg_ hnew_;clear hg_ hnew_;(first | rw [← Ny2.out] at ho5 | (simp only [Int.reduceToNat] at ho5;rw [← Ny2.out] at ho5));have HO4:=a0_ (Kd.R_lower ho5 (below_size hb_));replace BK1:=kb_ BK1 hb;replace HB:=a0_ (below_step hb_ hb);clear hb ho5))
 go_loopg [1,5] k (fun kq v1 v5 w'=>∃ (x1_1 : Int) (x5_1 : List Int),v1 = .int .i64 x1_1 ∧ Aside0 (spec_shown.l0 kq x1_1 x5_1 l0_0 = some r) ∧ Aside0 (kq ≤ k) ∧ Aside0 (Kd.R (Kd.int .i64) 3 w' w.heap.size (fun _=>True) v5 x5_1) ∧ Aside0 (w'.heap[gb1]? = some (.cells #[(.slice A0_0 l0_0.length c0_0)] 28 (0,0))) ∧ Aside0 (Below w.heap.size w w'))
 case atStart=>exact ⟨(a1),(y2),(by first | rfl | (simp;done) | (simp [*];done)),H',⟨Nat.le_refl _⟩,⟨by (with_reducible repeat (first | apply Kd.R_alloc | apply Kd.R_drewN | apply Kd.R_drew));exact HO4.out⟩,⟨by (with_reducible repeat (first | refine blk_drewN ?_ _ | refine blk_drew ?_ | refine blk_alloc ?_ _));exact BK1.out⟩,⟨hb_⟩⟩
 case round =>
  clear H'
  try clear p2
  try clear c3
  obtain ⟨x1_1,x5_1,rfl,HA,HK1,HO_5,BK1,HB⟩:=hrel
  cases gk with
  | zero=>exact absurd HA.out (by simp [spec_shown.l0])
  | succ k1 =>
   have H:=HA.out
   clear HA
   simp only [spec_shown.l0] at H
   by_cases c6 : x1_1 ≥ 0
   ·rw [if_pos c6] at H
    have c6b0 : decide (0 ≤ x1_1) = true:=decide_eq_true c6
    clear c6
    replace H:=Option.bind_eq_some_iff.mp H
    obtain ⟨t5,A70,H⟩:=H
    try dsimp only at H
    have A7:=a0_ A70
    clear A70
    by_cases c8 : t5 = true
    ·subst c8
     have H1 : (some x5_1) = some r:=by rw [if_pos rfl] at H;exact H
     clear H
     have H:=H1
     clear H1
     obtain rfl:=Option.some.inj H
     obtain ⟨Ao9,co9,eo9⟩:=Kd.R_slice HO_5.out
     subst eo9
     go_wp2_with (first | (go_at_call 64;(with_reducible refine (spec_hasInt.calls k1 _ _ x5_1 x1_1 true _ ?side1 ?side2 A7.out).mono ?_);(case side1=>exact cc_ (Kd.R_reads' HO_5.out).2.2);(case side2=>exact (Kd.R_reads' HO_5.out).2.1);rintro e w' ⟨rfl,⟨nd,rfl⟩⟩))
     go_ret
     exact ⟨_,by first | rfl | (simp [errW_none,errW_some] <;> rfl) | (simp [*,errW_none,errW_some] <;> rfl),by (with_reducible repeat (first | apply Kd.R_alloc | apply Kd.R_drewN | apply Kd.R_drew));exact HO_5.out,hb_⟩
    ·replace c8:=Bool.eq_false_iff.mpr c8
     subst c8
     have H1 : (if x5_1.length < 17592186044416 then ((spec_shownNext.f l0_0 x1_1).bind fun t9=>(spec_shown.l0 k1 t9 (x5_1 ++ [x1_1]) l0_0)) else (none)) = some r:=by rw [if_neg (show ¬ (false = true) by decide)] at H;exact H
     clear H
     have H:=H1
     clear H1
     by_cases c10 : x5_1.length < 17592186044416
     ·rw [if_pos c10] at H
      have LMc10:=a0_ c10
      clear c10
      obtain ⟨y6,hy6⟩ : ∃ y_ : List Int,y_ = (x5_1 ++ [x1_1]):=⟨_,rfl⟩
      replace H : ((spec_shownNext.f l0_0 x1_1).bind fun t9=>(spec_shown.l0 k1 t9 y6 l0_0)) = some r:=by first | (rw [hy6];with_reducible exact H) | (have H2_:=(Option.bind_some _ _).symm.trans H;rw [hy6];with_reducible exact H2_) | (have H2_:=(Option.bind_some _ _).symm.trans H;with_reducible exact H2_) | with_reducible exact H | (rw [hy6];exact H) | exact H
      have Ny6:=a0_ hy6
      clear hy6
      replace H:=Option.bind_eq_some_iff.mp H
      obtain ⟨t9,A110,H⟩:=H
      replace H : (spec_shown.l0 k1 t9 y6 l0_0) = some r:=H
      have A11:=a0_ A110
      clear A110
      have H':=a0_ H
      clear H
      obtain ⟨Ao12,co12,eo12⟩:=Kd.R_slice HO_5.out
      subst eo12
      go_wp2_with (first | (go_at_call 64;(with_reducible refine (spec_hasInt.calls k1 _ _ x5_1 x1_1 false _ ?side1 ?side2 A7.out).mono ?_);(case side1=>exact cc_ (Kd.R_reads' HO_5.out).2.2);(case side2=>exact (Kd.R_reads' HO_5.out).2.1);rintro e w' ⟨rfl,⟨nd,rfl⟩⟩) | ((with_reducible refine gate_builtin (b:=.append) (xs:=#[.tmp 15,.tmp 17]) rfl ?_);at_builtin;refine Kd.R_append (Kd.int .i64) (w0:=w) w.heap.size rfl (.tmp 15) (.tmp 17) 31 3 (.int .i64 0) 8 rfl Try.underlying31 info3 rfl (by decide) (by omega) (.slice Ao12 x5_1.length co12) x5_1 x1_1 [.int .i64 x1_1] (fun _=>True) (fun _=>False) rfl rfl ?aP (fun _ hk=>hk.elim) ?aF ?aO ?aB ?aS ?aL ?_;(case aP=>exact rfl);(case aB=>exact hb_);(case aF=>exact (fun _ _=>trivial));(case aO=>exact (rr_ HO_5.out));(case aS=>exact (below_size hb_));(case aL=>have:=LMc10.out;omega);intro v7 w13 ho hb hg hat;rw [← Ny6.out] at ho;replace BK1:=a0_ (blk_grown (bb_ BK1.out) hg (Kd.R_ne HO_5.out BK1.out (by decide)));have HO8:=a0_ (ho);replace HB:=a0_ (hb);clear HO_5;clear ho hb hg hat;have hcz14_0 : w13.cell? ⟨gb1,0,none⟩ = some (.slice A0_0 l0_0.length c0_0):=(blk_cell BK1.out 0).trans rfl;have hfz14_0:=blk_frozen BK1.out 0) | ((with_reducible refine gate_callee (f:=65) rfl ?_);refine goesL_ (some 21) rfl rfl Try.func65 (by kernel_rfl) rfl #[.agg #[.slice A0_0 l0_0.length c0_0],.int .i64 x1_1] rfl lm_ ?_;(with_reducible refine (spec_shownNext.calls _ _ l0_0 x1_1 t9 _ ?side1 ?side2 A11.out).mono ?_);(case side1=>exact cc_ (Kd.C_below HR0_0.out HB.out));(case side2=>exact HC0_0.out);rintro e w15 ⟨rfl,hb⟩;refine ⟨_,rfl,?_⟩;replace HO8:=rb_ HO8 hb;replace BK1:=kb_ BK1 hb;replace HB:=a0_ (below_step hb_ hb);(try clear hb);(try clear hb2);(try clear hk);(try clear hi)))
      go_roundg k1
      case measure=>have:=HK1.out;omega
      case rel=>exact ⟨(t9),(y6),(by first | rfl | (simp;done) | (simp [*];done)),H',⟨by have:=HK1.out;omega⟩,⟨by (with_reducible repeat (first | apply Kd.R_alloc | apply Kd.R_drewN | apply Kd.R_drew));exact HO8.out⟩,⟨by (with_reducible repeat (first | refine blk_drewN ?_ _ | refine blk_drew ?_ | refine blk_alloc ?_ _));exact BK1.out⟩,⟨hb_⟩⟩
     ·rw [if_neg c10] at H
      exact absurd H (by simp)
   ·rw [if_neg c6] at H
    have c6b0 : decide (0 ≤ x1_1) = false:=decide_eq_false c6
    clear c6
    obtain rfl:=Option.some.inj H
    go_wp2
    go_ret
    exact ⟨_,by first | rfl | (simp [errW_none,errW_some] <;> rfl) | (simp [*,errW_none,errW_some] <;> rfl),by (with_reducible repeat (first | apply Kd.R_alloc | apply Kd.R_drewN | apply Kd.R_drew));exact HO_5.out,hb_⟩
theorem spec_shown_l0 (h : List Fau) (hl : h.length ≤ 2097152) (hc : ∀ x : Int,0 ≤ x → x < (h.length : Int) → shwN h x < (h.length : Int)) : ∀ (d : Nat) (out : List Int) (f : Int),f < (h.length : Int) → restN h.length out ≤ d → out.length + d ≤ h.length → Ev (fun k=>spec_shown.l0 k f out h) (walkL (shwN h) d out f):=by
 intro d
 induction d with
 | zero =>
  intro out f hf hr hd
  refine Ev.succ ?_
  simp only [spec_shown.l0]
  rw [walkL]
  by_cases h0 : f ≥ 0
  ·refine Ev.pos h0 (Ev.bind (Ev.of_mono (spec_hasInt.mono out f) (K:=out.length + 1) (spec_hasInt_ev out f (by omega) _ (by omega))) ?_)
   rw [restN_zero (n:=h.length) (out:=out) h0 hf (by omega)]
   exact Ev.pos rfl (Ev.const rfl)
  ·exact Ev.neg h0 (Ev.const rfl)
 | succ d ih =>
  intro out f hf hr hd
  refine Ev.succ ?_
  simp only [spec_shown.l0]
  by_cases h0 : f ≥ 0
  ·refine Ev.pos h0 (Ev.bind (Ev.of_mono (spec_hasInt.mono out f) (K:=out.length + 1) (spec_hasInt_ev out f (by omega) _ (by omega))) ?_)
   cases hq : out.contains f with
   | true =>
    rw [walkL_stop _ _ _ _ (by rw [hq];simp)]
    exact Ev.pos rfl (Ev.const rfl)
   | false =>
    have:=restN_lt h0 hf hq
    rw [walkL,if_pos ⟨h0,hq⟩]
    refine Ev.neg (by simp) (Ev.pos (by omega) (Ev.bind (Ev.const (spec_shownNext_ev h f h0 hf)) ?_))
    exact ih (out ++ [f]) (shwN h f) (hc f h0 hf) (by omega) (by rw [List.length_append,List.length_singleton];omega)
  ·rw [walkL_stop _ _ _ _ (fun hh=>h0 hh.1)]
   exact Ev.neg h0 (Ev.const rfl)
theorem spec_shown_ev (h : List Fau) (hl : h.length ≤ 2097152) (hc : ∀ x : Int,0 ≤ x → x < (h.length : Int) → shwN h x < (h.length : Int)) (f : Int) (hf : f < (h.length : Int)) : Ev (fun k=>spec_shown.f k h f) (shwL h f) :=
 spec_shown_l0 h hl hc h.length [] f hf (restN_le _ _) (by simp)
end Go.Proofs.Ytmiholmfbjalfaa.P
namespace Go.Proofs.Ytmiholmfbjalfaa.P
open Go.RowKit Go.Proofs.YtmiholmfbjalfaaW.PrintWords Go.Proofs.YtmiholmfbjalfaaW.PrintLast Go.Proofs.YtmiholmfbjalfaaW.PrintMore
attribute [local go_sem] max2_int min2_int max_two min_two max_three min_three max_four min_four
set_option linter.unusedVariables false
set_option linter.unusedSimpArgs false
def spec_ShownChain.f (k : Nat) (l0_0 : List (S87)) (l1_0 : List (S43)) (a2 : Int) : Option (List Int):=(spec_goodFault.f k l0_0 l1_0 a2).bind fun t3=>(if t3 = true then ((spec_shown.f k l1_0 a2).bind fun t4=>(some t4)) else (some ([] : List Int)))
theorem spec_ShownChain.mono : ∀ a0 a1 a2 k,LeO (spec_ShownChain.f k a0 a1 a2) (spec_ShownChain.f (k + 1) a0 a1 a2):=by
 intro a0 a1 a2 k
 unfold spec_ShownChain.f
 repeat' first
   | (with_reducible exact spec_goodFault.mono _ _ _ _)
   | (with_reducible exact spec_shown.mono _ _ _)
   | (with_reducible exact LeO.refl _)
   | (with_reducible exact LeO.none _)
   | (with_reducible refine LeO.ite ?_ ?_)
   | (with_reducible refine LeO.bind ?_ (fun _=>?_))
   | exact spec_goodFault.mono _ _ _ _
   | exact spec_shown.mono _ _ _
   | exact LeO.none _
   | refine LeO.ite ?_ ?_
   | refine LeO.bind ?_ (fun _=>?_)
set_option maxHeartbeats 8000000 in
set_option maxRecDepth 100000 in
theorem spec_ShownChain.calls (k : Nat) (A0_0 : Option Addr) (c0_0 : Nat) (l0_0 : List (S87)) (A1_0 : Option Addr) (c1_0 : Nat) (l1_0 : List (S43)) (a2 : Int) (r : List Int) (w : World) (hr0_0 : Kd.C k87 w A0_0 l0_0.length l0_0) (hc0_0 : l0_0.length ≤ c0_0) (hr1_0 : Kd.C k43 w A1_0 l1_0.length l1_0) (hc1_0 : l1_0.length ≤ c1_0) (h : spec_ShownChain.f k l0_0 l1_0 a2 = some r) :
  Calls Try.prog 13 #[.agg #[.slice A0_0 l0_0.length c0_0],.agg #[.slice A1_0 l1_0.length c1_0],.int .i64 a2] w fun e w'=>∃ v0_ : Value,e = .returned (v0_) ∧ Kd.R (Kd.int .i64) 3 w' w.heap.size (fun _=>True) v0_ r ∧ Below w.heap.size w w':=by
 have hu25:=Try.underlying25
 have hu28:=Try.underlying28
 have HR0_0:=a0_ hr0_0
 have HC0_0:=a0_ hc0_0
 clear hr0_0 hc0_0
 have HR1_0:=a0_ hr1_0
 have HC1_0:=a0_ hc1_0
 clear hr1_0 hc1_0
 have HB:=a0_ (Below.refl w.heap.size w)
 have H : ((spec_goodFault.f k l0_0 l1_0 a2).bind fun t3=>(if t3 = true then ((spec_shown.f k l1_0 a2).bind fun t4=>(some t4)) else (some ([] : List Int)))) = some r:=h
 clear h
 replace H:=Option.bind_eq_some_iff.mp H
 obtain ⟨t3,A40,H⟩:=H
 try dsimp only at H
 have A4:=a0_ A40
 clear A40
 by_cases c5 : t3 = true
 ·subst c5
  have H1 : ((spec_shown.f k l1_0 a2).bind fun t4=>(some t4)) = some r:=by rw [if_pos rfl] at H;exact H
  clear H
  have H:=H1
  clear H1
  replace H:=Option.bind_eq_some_iff.mp H
  obtain ⟨t4,A60,H⟩:=H
  replace H : (some t4) = some r:=H
  have A6:=a0_ A60
  clear A60
  obtain rfl:=Option.some.inj H
  go_enter Try.func13,Try.ntmps13
  go_wp2_with (first | ((with_reducible refine gate_dst (N:=3) rfl ?_);refine box_event ?hg (N:=3) ?hd (cs:=#[.slice A0_0 l0_0.length c0_0]) (t:=25) ?hr ?_;(case hd=>rfl);(case hg=>rfl);(case hr=>first | (go_simp;done) | (go_simp;rfl));intro gb1 hg w7 hbox hb;have BK1:=a0_ (hbox);have GW1:=a0_ ((by rw [hg];exact (below_size hb_) : w.heap.size ≤ gb1));have GE1:=a0_ ((by rw [hg];exact (below_size hb_) : w.heap.size ≤ gb1));replace HB:=a0_ (below_step hb_ hb);clear hb hbox hg) | ((with_reducible refine gate_dst (N:=4) rfl ?_);refine box_event ?hg (N:=4) ?hd (cs:=#[.slice A1_0 l1_0.length c1_0]) (t:=28) ?hr ?_;(case hd=>rfl);(case hg=>rfl);(case hr=>first | (go_simp;done) | (go_simp;rfl));intro gb2 hg w8 hbox hb;have n0_:=kb_ BK1 hb;have n1_:=a0_ (below_step hb_ hb);have n2_:=a0_ (hbox);have n3_:=a0_ ((by rw [hg];exact (below_size hb_) : w.heap.size ≤ gb2));have n4_:=a0_ ((by rw [hg];exact (below_size hb_) : w.heap.size ≤ gb2));have n5_:=a0_ ((by rw [hg];exact Nat.ne_of_lt (blk_lt (bb_ BK1.out)) : gb1 ≠ gb2));have n6_:=a0_ ((by rw [hg];exact Nat.ne_of_gt (blk_lt (bb_ BK1.out)) : gb2 ≠ gb1));clear BK1 HB;have BK1:=n0_;have HB:=n1_;have BK2:=n2_;have GW2:=n3_;have GE2:=n4_;have NB1_2:=n5_;have NB2_1:=n6_;clear n0_ n1_ n2_ n3_ n4_ n5_ n6_;clear hb hbox hg;have hnb9:=NB1_2.out;have hnc9:=NB2_1.out;have hcz10_0 : w8.cell? ⟨gb1,0,none⟩ = some (.slice A0_0 l0_0.length c0_0):=(blk_cell BK1.out 0).trans rfl;have hfz10_0:=blk_frozen BK1.out 0;have hcz11_0 : w8.cell? ⟨gb2,0,none⟩ = some (.slice A1_0 l1_0.length c1_0):=(blk_cell BK2.out 0).trans rfl;have hfz11_0:=blk_frozen BK2.out 0) | ((with_reducible refine gate_callee (f:=38) rfl ?_);refine goesL_ (some 10) rfl rfl Try.func38 (by kernel_rfl) rfl #[.agg #[.slice A0_0 l0_0.length c0_0],.agg #[.slice A1_0 l1_0.length c1_0],.int .i64 a2] rfl lm_ ?_;(with_reducible refine (spec_goodFault.calls k _ _ l0_0 _ _ l1_0 a2 true _ ?side1 ?side2 ?side3 ?side4 A4.out).mono ?_);(case side1=>exact cc_ (Kd.C_below HR0_0.out HB.out));(case side2=>exact HC0_0.out);(case side3=>exact cc_ (Kd.C_below HR1_0.out HB.out));(case side4=>exact HC1_0.out);rintro e w12 ⟨rfl,hb⟩;refine ⟨_,rfl,?_⟩;replace BK1:=kb_ BK1 hb;replace BK2:=kb_ BK2 hb;replace HB:=a0_ (below_step hb_ hb);(try clear hb);have hcz13_0 : w12.cell? ⟨gb2,0,none⟩ = some (.slice A1_0 l1_0.length c1_0):=(blk_cell BK2.out 0).trans rfl;have hfz13_0:=blk_frozen BK2.out 0) | ((with_reducible refine gate_callee (f:=39) rfl ?_);refine goesL_ (some 14) rfl rfl Try.func39 (by kernel_rfl) rfl #[.agg #[.slice A1_0 l1_0.length c1_0],.int .i64 a2] rfl lm_ ?_;(with_reducible refine (spec_shown.calls k _ _ l1_0 a2 t4 _ ?side1 ?side2 A6.out).mono ?_);(case side1=>exact cc_ (Kd.C_below HR1_0.out HB.out));(case side2=>exact HC1_0.out);rintro e w14 ⟨v5,rfl,ho0,hb⟩;refine ⟨_,rfl,?_⟩;have HO6:=a0_ (Kd.R_lower ho0 (below_size hb_));replace BK1:=kb_ BK1 hb;replace BK2:=kb_ BK2 hb;replace HB:=a0_ (below_step hb_ hb);(try clear hb);(try clear ho0)))
  go_ret
  exact ⟨_,by first | rfl | (simp [errW_none,errW_some] <;> rfl) | (simp [*,errW_none,errW_some] <;> rfl),by (with_reducible repeat (first | apply Kd.R_alloc | apply Kd.R_drewN | apply Kd.R_drew));exact HO6.out,hb_⟩
 ·replace c5:=Bool.eq_false_iff.mpr c5
  subst c5
  have H1 : (some ([] : List Int)) = some r:=by rw [if_neg (show ¬ (false = true) by decide)] at H;exact H
  clear H
  have H:=H1
  clear H1
  obtain rfl:=Option.some.inj H
  go_enter Try.func13,Try.ntmps13
  go_wp2_with (first | ((with_reducible refine gate_dst (N:=3) rfl ?_);refine box_event ?hg (N:=3) ?hd (cs:=#[.slice A0_0 l0_0.length c0_0]) (t:=25) ?hr ?_;(case hd=>rfl);(case hg=>rfl);(case hr=>first | (go_simp;done) | (go_simp;rfl));intro gb1 hg w15 hbox hb;have BK1:=a0_ (hbox);have GW1:=a0_ ((by rw [hg];exact (below_size hb_) : w.heap.size ≤ gb1));have GE1:=a0_ ((by rw [hg];exact (below_size hb_) : w.heap.size ≤ gb1));replace HB:=a0_ (below_step hb_ hb);clear hb hbox hg) | ((with_reducible refine gate_dst (N:=4) rfl ?_);refine box_event ?hg (N:=4) ?hd (cs:=#[.slice A1_0 l1_0.length c1_0]) (t:=28) ?hr ?_;(case hd=>rfl);(case hg=>rfl);(case hr=>first | (go_simp;done) | (go_simp;rfl));intro gb2 hg w16 hbox hb;have n0_:=kb_ BK1 hb;have n1_:=a0_ (below_step hb_ hb);have n2_:=a0_ (hbox);have n3_:=a0_ ((by rw [hg];exact (below_size hb_) : w.heap.size ≤ gb2));have n4_:=a0_ ((by rw [hg];exact (below_size hb_) : w.heap.size ≤ gb2));have n5_:=a0_ ((by rw [hg];exact Nat.ne_of_lt (blk_lt (bb_ BK1.out)) : gb1 ≠ gb2));have n6_:=a0_ ((by rw [hg];exact Nat.ne_of_gt (blk_lt (bb_ BK1.out)) : gb2 ≠ gb1));clear BK1 HB;have BK1:=n0_;have HB:=n1_;have BK2:=n2_;have GW2:=n3_;have GE2:=n4_;have NB1_2:=n5_;have NB2_1:=n6_;clear n0_ n1_ n2_ n3_ n4_ n5_ n6_;clear hb hbox hg;have hnb17:=NB1_2.out;have hnc17:=NB2_1.out;have hcz18_0 : w16.cell? ⟨gb1,0,none⟩ = some (.slice A0_0 l0_0.length c0_0):=(blk_cell BK1.out 0).trans rfl;have hfz18_0:=blk_frozen BK1.out 0;have hcz19_0 : w16.cell? ⟨gb2,0,none⟩ = some (.slice A1_0 l1_0.length c1_0):=(blk_cell BK2.out 0).trans rfl;have hfz19_0:=blk_frozen BK2.out 0) | ((with_reducible refine gate_callee (f:=38) rfl ?_);refine goesL_ (some 10) rfl rfl Try.func38 (by kernel_rfl) rfl #[.agg #[.slice A0_0 l0_0.length c0_0],.agg #[.slice A1_0 l1_0.length c1_0],.int .i64 a2] rfl lm_ ?_;(with_reducible refine (spec_goodFault.calls k _ _ l0_0 _ _ l1_0 a2 false _ ?side1 ?side2 ?side3 ?side4 A4.out).mono ?_);(case side1=>exact cc_ (Kd.C_below HR0_0.out HB.out));(case side2=>exact HC0_0.out);(case side3=>exact cc_ (Kd.C_below HR1_0.out HB.out));(case side4=>exact HC1_0.out);rintro e w20 ⟨rfl,hb⟩;refine ⟨_,rfl,?_⟩;replace BK1:=kb_ BK1 hb;replace BK2:=kb_ BK2 hb;replace HB:=a0_ (below_step hb_ hb);(try clear hb);(try clear hb2);(try clear hk);(try clear hi)))
  go_ret
  exact ⟨_,by first | rfl | (simp [errW_none,errW_some] <;> rfl) | (simp [*,errW_none,errW_some] <;> rfl),by first | exact Kd.R_nil _ _ _ _ _ | exact Kd.N_nil _ _ _ _ _ | exact Kd.V_nil _ _ _ _ _ | exact Kd.Q_nil _ _ _ _ _ | exact Kd.S_nil _ _ _ _ _,hb_⟩
theorem spec_ShownChain_ev (t : List Cls) (h : List Fau) (f : Int) (hs : smT t = true) (ht : t.length ≤ 9223372036854775807) (hl : h.length ≤ 2097152) : Ev (fun k=>spec_ShownChain.f k t h f) (shcP t h f):=by
 refine Ev.bind (spec_goodFault_ev t h f hs ht hl) ?_
 unfold shcP
 cases hq : (vH t h && hasF h f) with
 | false=>exact Ev.neg (by simp) (Ev.const rfl)
 | true =>
  obtain ⟨hfs,h0,h1⟩:=good_parts hq
  exact Ev.pos rfl (Ev.bind (spec_shown_ev h hl (fun x h0 h1=>(fsH_shw hfs x h0 h1).2) f h1) (Ev.const rfl))
end Go.Proofs.Ytmiholmfbjalfaa.P
namespace Go.Proofs.Ytmiholmfbjalfaa.P
open Go.RowKit Go.Proofs.YtmiholmfbjalfaaW.PrintWords Go.Proofs.YtmiholmfbjalfaaW.PrintLast Go.Proofs.YtmiholmfbjalfaaW.PrintMore
attribute [local go_sem] max2_int min2_int max_two min_two max_three min_three max_four min_four
set_option linter.unusedVariables false
set_option linter.unusedSimpArgs false
def impl_ShownNext.f (l0_0 : List (S87)) (l1_0 : List (S43)) (a2 : Int) : Option (Int):=(impl_faultsIn.f l0_0 l1_0 (([a2] : List Int))).bind fun t6=>(if t6 = true then ((impl_Heap_shown.f l1_0 a2).bind fun t7=>(some t7)) else (some (-2)))
set_option maxHeartbeats 8000000 in
set_option maxRecDepth 100000 in
theorem impl_ShownNext.calls (A0_0 : Option Addr) (c0_0 : Nat) (l0_0 : List (S87)) (A1_0 : Option Addr) (c1_0 : Nat) (l1_0 : List (S43)) (a2 : Int) (r : Int) (w : World) (hr0_0 : Kd.C k87 w A0_0 l0_0.length l0_0) (hc0_0 : l0_0.length ≤ c0_0) (hr1_0 : Kd.C k43 w A1_0 l1_0.length l1_0) (hc1_0 : l1_0.length ≤ c1_0) (h : impl_ShownNext.f l0_0 l1_0 a2 = some r) :
  Calls Try.prog 14 #[.agg #[.slice A0_0 l0_0.length c0_0],.agg #[.slice A1_0 l1_0.length c1_0],.int .i64 a2] w fun e w'=>e = .returned (.int .i64 r) ∧ Below w.heap.size w w':=by
 have hu25:=Try.underlying25
 have hu28:=Try.underlying28
 have HR0_0:=a0_ hr0_0
 have HC0_0:=a0_ hc0_0
 clear hr0_0 hc0_0
 have HR1_0:=a0_ hr1_0
 have HC1_0:=a0_ hc1_0
 clear hr1_0 hc1_0
 have HB:=a0_ (Below.refl w.heap.size w)
 have H : ((impl_faultsIn.f l0_0 l1_0 (([a2] : List Int))).bind fun t6=>(if t6 = true then ((impl_Heap_shown.f l1_0 a2).bind fun t7=>(some t7)) else (some (-2)))) = some r:=h
 clear h
 obtain ⟨y3,hy3⟩ : ∃ y_ : List Int,y_ = (([a2] : List Int)):=⟨_,rfl⟩
 replace H : ((impl_faultsIn.f l0_0 l1_0 y3).bind fun t6=>(if t6 = true then ((impl_Heap_shown.f l1_0 a2).bind fun t7=>(some t7)) else (some (-2)))) = some r:=by first | (rw [hy3];with_reducible exact H) | (have H2_:=(Option.bind_some _ _).symm.trans H;rw [hy3];with_reducible exact H2_) | (have H2_:=(Option.bind_some _ _).symm.trans H;with_reducible exact H2_) | with_reducible exact H | (rw [hy3];exact H) | exact H
 have Ny3:=a0_ hy3
 clear hy3
 replace H:=Option.bind_eq_some_iff.mp H
 obtain ⟨t6,A40,H⟩:=H
 try dsimp only at H
 have A4:=a0_ A40
 clear A40
 by_cases c5 : t6 = true
 ·subst c5
  have H1 : ((impl_Heap_shown.f l1_0 a2).bind fun t7=>(some t7)) = some r:=by rw [if_pos rfl] at H;exact H
  clear H
  have H:=H1
  clear H1
  replace H:=Option.bind_eq_some_iff.mp H
  obtain ⟨t7,A60,H⟩:=H
  replace H : (some t7) = some r:=H
  have A6:=a0_ A60
  clear A60
  obtain rfl:=Option.some.inj H
  go_enter Try.func14,Try.ntmps14
  go_wp2_with (first | ((with_reducible refine gate_dst (N:=3) rfl ?_);refine box_event ?hg (N:=3) ?hd (cs:=#[.slice A0_0 l0_0.length c0_0]) (t:=25) ?hr ?_;(case hd=>rfl);(case hg=>rfl);(case hr=>first | (go_simp;done) | (go_simp;rfl));intro gb1 hg w7 hbox hb;have BK1:=a0_ (hbox);have GW1:=a0_ ((by rw [hg];exact (below_size hb_) : w.heap.size ≤ gb1));have GE1:=a0_ ((by rw [hg];exact (below_size hb_) : w.heap.size ≤ gb1));replace HB:=a0_ (below_step hb_ hb);clear hb hbox hg) | ((with_reducible refine gate_dst (N:=4) rfl ?_);refine box_event ?hg (N:=4) ?hd (cs:=#[.slice A1_0 l1_0.length c1_0]) (t:=28) ?hr ?_;(case hd=>rfl);(case hg=>rfl);(case hr=>first | (go_simp;done) | (go_simp;rfl));intro gb2 hg w8 hbox hb;have n0_:=kb_ BK1 hb;have n1_:=a0_ (below_step hb_ hb);have n2_:=a0_ (hbox);have n3_:=a0_ ((by rw [hg];exact (below_size hb_) : w.heap.size ≤ gb2));have n4_:=a0_ ((by rw [hg];exact (below_size hb_) : w.heap.size ≤ gb2));have n5_:=a0_ ((by rw [hg];exact Nat.ne_of_lt (blk_lt (bb_ BK1.out)) : gb1 ≠ gb2));have n6_:=a0_ ((by rw [hg];exact Nat.ne_of_gt (blk_lt (bb_ BK1.out)) : gb2 ≠ gb1));clear BK1 HB;have BK1:=n0_;have HB:=n1_;have BK2:=n2_;have GW2:=n3_;have GE2:=n4_;have NB1_2:=n5_;have NB2_1:=n6_;clear n0_ n1_ n2_ n3_ n4_ n5_ n6_;clear hb hbox hg;have hnb9:=NB1_2.out;have hnc9:=NB2_1.out;have hcz10_0 : w8.cell? ⟨gb1,0,none⟩ = some (.slice A0_0 l0_0.length c0_0):=(blk_cell BK1.out 0).trans rfl;have hfz10_0:=blk_frozen BK1.out 0;have hcz11_0 : w8.cell? ⟨gb2,0,none⟩ = some (.slice A1_0 l1_0.length c1_0):=(blk_cell BK2.out 0).trans rfl;have hfz11_0:=blk_frozen BK2.out 0) | ((with_reducible refine gate_dst (N:=10) rfl ?_);refine Kd.R_lit (Kd.int .i64) _ 3 ?hg (N:=10) ?hd (xs:=([a2] : List Int)) (inner:=[.int .i64 a2]) (ok:=fun _=>True) (okp:=fun _=>True) ?hr ?hp (fun _ hk=>hk) trivial (Below.refl _ _) (Nat.le_refl _) (by simp) ?_;(case hd=>rfl);(case hg=>rfl);(case hr=>first | (go_simp;done) | (go_simp;rfl));(case hp=>exact (Reps.one (show Kd.M (Kd.int .i64) _ _ _ a2 [.int .i64 a2] from rfl) (Reps.none _ _)));intro v4 w12 ho13 hb hg_ hnew_;clear hg_ hnew_;(first | rw [← Ny3.out] at ho13 | (simp only [Int.reduceToNat] at ho13;rw [← Ny3.out] at ho13));have HO5:=a0_ (Kd.R_lower ho13 (below_size hb_));replace BK1:=kb_ BK1 hb;replace BK2:=kb_ BK2 hb;replace HB:=a0_ (below_step hb_ hb);clear hb ho13;obtain ⟨Ao14,co14,eo14⟩:=Kd.R_slice HO5.out;subst eo14) | ((with_reducible refine gate_callee (f:=35) rfl ?_);refine goesL_ (some 11) rfl rfl Try.func35 (by kernel_rfl) rfl #[.agg #[.slice A0_0 l0_0.length c0_0],.agg #[.slice A1_0 l1_0.length c1_0],.slice Ao14 y3.length co14] rfl lm_ ?_;(with_reducible refine (impl_faultsIn.calls _ _ l0_0 _ _ l1_0 _ _ y3 true _ ?side1 ?side2 ?side3 ?side4 ?side5 ?side6 A4.out).mono ?_);(case side1=>exact cc_ (Kd.C_below HR0_0.out HB.out));(case side2=>exact HC0_0.out);(case side3=>exact cc_ (Kd.C_below HR1_0.out HB.out));(case side4=>exact HC1_0.out);(case side5=>exact cc_ (Kd.R_reads' HO5.out).2.2);(case side6=>exact (Kd.R_reads' HO5.out).2.1);rintro e w15 ⟨rfl,hb⟩;refine ⟨_,rfl,?_⟩;replace HO5:=rb_ HO5 hb;replace BK1:=kb_ BK1 hb;replace BK2:=kb_ BK2 hb;replace HB:=a0_ (below_step hb_ hb);(try clear hb);have hcz16_0 : w15.cell? ⟨gb2,0,none⟩ = some (.slice A1_0 l1_0.length c1_0):=(blk_cell BK2.out 0).trans rfl;have hfz16_0:=blk_frozen BK2.out 0) | ((with_reducible refine gate_callee (f:=37) rfl ?_);refine goesL_ (some 15) rfl rfl Try.func37 (by kernel_rfl) rfl #[.agg #[.slice A1_0 l1_0.length c1_0],.int .i64 a2] rfl lm_ ?_;(with_reducible refine (impl_Heap_shown.calls _ _ l1_0 a2 t7 _ ?side1 ?side2 A6.out).mono ?_);(case side1=>exact cc_ (Kd.C_below HR1_0.out HB.out));(case side2=>exact HC1_0.out);rintro e w17 ⟨rfl,hb⟩;refine ⟨_,rfl,?_⟩;replace HO5:=rb_ HO5 hb;replace BK1:=kb_ BK1 hb;replace BK2:=kb_ BK2 hb;replace HB:=a0_ (below_step hb_ hb);(try clear hb);(try clear hb2);(try clear hk);(try clear hi)))
  go_ret
  exact ⟨by first | rfl | (simp [errW_none,errW_some] <;> rfl) | (simp [*,errW_none,errW_some] <;> rfl),hb_⟩
 ·replace c5:=Bool.eq_false_iff.mpr c5
  subst c5
  have H1 : (some (-2)) = some r:=by rw [if_neg (show ¬ (false = true) by decide)] at H;exact H
  clear H
  have H:=H1
  clear H1
  obtain rfl:=Option.some.inj H
  go_enter Try.func14,Try.ntmps14
  go_wp2_with (first | ((with_reducible refine gate_dst (N:=3) rfl ?_);refine box_event ?hg (N:=3) ?hd (cs:=#[.slice A0_0 l0_0.length c0_0]) (t:=25) ?hr ?_;(case hd=>rfl);(case hg=>rfl);(case hr=>first | (go_simp;done) | (go_simp;rfl));intro gb1 hg w18 hbox hb;have BK1:=a0_ (hbox);have GW1:=a0_ ((by rw [hg];exact (below_size hb_) : w.heap.size ≤ gb1));have GE1:=a0_ ((by rw [hg];exact (below_size hb_) : w.heap.size ≤ gb1));replace HB:=a0_ (below_step hb_ hb);clear hb hbox hg) | ((with_reducible refine gate_dst (N:=4) rfl ?_);refine box_event ?hg (N:=4) ?hd (cs:=#[.slice A1_0 l1_0.length c1_0]) (t:=28) ?hr ?_;(case hd=>rfl);(case hg=>rfl);(case hr=>first | (go_simp;done) | (go_simp;rfl));intro gb2 hg w19 hbox hb;have n0_:=kb_ BK1 hb;have n1_:=a0_ (below_step hb_ hb);have n2_:=a0_ (hbox);have n3_:=a0_ ((by rw [hg];exact (below_size hb_) : w.heap.size ≤ gb2));have n4_:=a0_ ((by rw [hg];exact (below_size hb_) : w.heap.size ≤ gb2));have n5_:=a0_ ((by rw [hg];exact Nat.ne_of_lt (blk_lt (bb_ BK1.out)) : gb1 ≠ gb2));have n6_:=a0_ ((by rw [hg];exact Nat.ne_of_gt (blk_lt (bb_ BK1.out)) : gb2 ≠ gb1));clear BK1 HB;have BK1:=n0_;have HB:=n1_;have BK2:=n2_;have GW2:=n3_;have GE2:=n4_;have NB1_2:=n5_;have NB2_1:=n6_;clear n0_ n1_ n2_ n3_ n4_ n5_ n6_;clear hb hbox hg;have hnb20:=NB1_2.out;have hnc20:=NB2_1.out;have hcz21_0 : w19.cell? ⟨gb1,0,none⟩ = some (.slice A0_0 l0_0.length c0_0):=(blk_cell BK1.out 0).trans rfl;have hfz21_0:=blk_frozen BK1.out 0;have hcz22_0 : w19.cell? ⟨gb2,0,none⟩ = some (.slice A1_0 l1_0.length c1_0):=(blk_cell BK2.out 0).trans rfl;have hfz22_0:=blk_frozen BK2.out 0) | ((with_reducible refine gate_dst (N:=10) rfl ?_);refine Kd.R_lit (Kd.int .i64) _ 3 ?hg (N:=10) ?hd (xs:=([a2] : List Int)) (inner:=[.int .i64 a2]) (ok:=fun _=>True) (okp:=fun _=>True) ?hr ?hp (fun _ hk=>hk) trivial (Below.refl _ _) (Nat.le_refl _) (by simp) ?_;(case hd=>rfl);(case hg=>rfl);(case hr=>first | (go_simp;done) | (go_simp;rfl));(case hp=>exact (Reps.one (show Kd.M (Kd.int .i64) _ _ _ a2 [.int .i64 a2] from rfl) (Reps.none _ _)));intro v4 w23 ho24 hb hg_ hnew_;clear hg_ hnew_;(first | rw [← Ny3.out] at ho24 | (simp only [Int.reduceToNat] at ho24;rw [← Ny3.out] at ho24));have HO5:=a0_ (Kd.R_lower ho24 (below_size hb_));replace BK1:=kb_ BK1 hb;replace BK2:=kb_ BK2 hb;replace HB:=a0_ (below_step hb_ hb);clear hb ho24;obtain ⟨Ao25,co25,eo25⟩:=Kd.R_slice HO5.out;subst eo25) | ((with_reducible refine gate_callee (f:=35) rfl ?_);refine goesL_ (some 11) rfl rfl Try.func35 (by kernel_rfl) rfl #[.agg #[.slice A0_0 l0_0.length c0_0],.agg #[.slice A1_0 l1_0.length c1_0],.slice Ao25 y3.length co25] rfl lm_ ?_;(with_reducible refine (impl_faultsIn.calls _ _ l0_0 _ _ l1_0 _ _ y3 false _ ?side1 ?side2 ?side3 ?side4 ?side5 ?side6 A4.out).mono ?_);(case side1=>exact cc_ (Kd.C_below HR0_0.out HB.out));(case side2=>exact HC0_0.out);(case side3=>exact cc_ (Kd.C_below HR1_0.out HB.out));(case side4=>exact HC1_0.out);(case side5=>exact cc_ (Kd.R_reads' HO5.out).2.2);(case side6=>exact (Kd.R_reads' HO5.out).2.1);rintro e w26 ⟨rfl,hb⟩;refine ⟨_,rfl,?_⟩;replace HO5:=rb_ HO5 hb;replace BK1:=kb_ BK1 hb;replace BK2:=kb_ BK2 hb;replace HB:=a0_ (below_step hb_ hb);(try clear hb);(try clear hb2);(try clear hk);(try clear hi)))
  go_ret
  exact ⟨by first | rfl | (simp [errW_none,errW_some] <;> rfl) | (simp [*,errW_none,errW_some] <;> rfl),hb_⟩
theorem impl_ShownNext_ev (t : List Cls) (h : List Fau) (f : Int) (hs : smT t = true) (hl : h.length ≤ 2097152) : impl_ShownNext.f t h f = some (shwP t h f):=by
 unfold impl_ShownNext.f
 rw [impl_faultsIn_ev t h f hs hl,Option.bind_some]
 unfold shwP
 cases hq : (vH t h && hasF h f) with
 | false=>rfl
 | true =>
  obtain ⟨_,h0,h1⟩:=good_parts hq
  rw [if_pos rfl,impl_Heap_shown_ev h f h0 h1]
  rfl
end Go.Proofs.Ytmiholmfbjalfaa.P
namespace Go.Proofs.Ytmiholmfbjalfaa.P
open Go.RowKit Go.Proofs.YtmiholmfbjalfaaW.PrintWords Go.Proofs.YtmiholmfbjalfaaW.PrintLast Go.Proofs.YtmiholmfbjalfaaW.PrintMore
attribute [local go_sem] max2_int min2_int max_two min_two max_three min_three max_four min_four
set_option linter.unusedVariables false
set_option linter.unusedSimpArgs false
def laws_isIn.l0 : Nat → List Int → Int → Int → Option (Bool)
 | 0,_,_,_=>none
 | k + 1,x0,x1,x5=>if x5 < (x0.length : Int) then (if 0 ≤ x5 then (if (rd x0 x5) = x1 then (some true) else (laws_isIn.l0 k x0 x1 (wrap64 (x5 + 1)))) else (none)) else (some false)
def laws_isIn.f (k : Nat) (l0 : List Int) (a1 : Int) : Option (Bool):=laws_isIn.l0 k l0 a1 0
theorem laws_isIn.mono_l : ∀ k,(∀ y0 y1 y2,LeO (laws_isIn.l0 k y0 y1 y2) (laws_isIn.l0 (k + 1) y0 y1 y2))
 | 0=>fun _ _ _ r h=>by simp [laws_isIn.l0] at h
 | k + 1=>by
  have ih0:=laws_isIn.mono_l k
  ·intro y0 y1 y2
   unfold laws_isIn.l0
   repeat' first
   | (with_reducible exact ih0 _ _ _)
   | (with_reducible exact LeO.refl _)
   | (with_reducible exact LeO.none _)
   | (with_reducible refine LeO.ite ?_ ?_)
   | (with_reducible refine LeO.bind ?_ (fun _=>?_))
   | exact ih0 _ _ _
   | exact LeO.none _
   | refine LeO.ite ?_ ?_
   | refine LeO.bind ?_ (fun _=>?_)
theorem laws_isIn.mono : ∀ a0 a1 k,LeO (laws_isIn.f k a0 a1) (laws_isIn.f (k + 1) a0 a1):=by
 intro a0 a1 k
 have ih0:=laws_isIn.mono_l k
 unfold laws_isIn.f
 repeat' first
   | (with_reducible exact ih0 _ _ _)
   | (with_reducible exact LeO.refl _)
   | (with_reducible exact LeO.none _)
   | (with_reducible refine LeO.ite ?_ ?_)
   | (with_reducible refine LeO.bind ?_ (fun _=>?_))
   | exact ih0 _ _ _
   | exact LeO.none _
   | refine LeO.ite ?_ ?_
   | refine LeO.bind ?_ (fun _=>?_)
set_option maxHeartbeats 8000000 in
set_option maxRecDepth 100000 in
theorem laws_isIn.calls (k : Nat) (A0 : Option Addr) (c0 : Nat) (l0 : List Int) (a1 : Int) (r : Bool) (w : World) (hr0 : Kd.C (Kd.int .i64) w A0 l0.length l0) (hc0 : l0.length ≤ c0) (h : laws_isIn.f k l0 a1 = some r) :
  Calls Try.prog 15 #[.slice A0 l0.length c0,.int .i64 a1] w fun e w'=>e = .returned (.bool r) ∧ Drawn0 w w':=by
 have HR0:=a0_ hr0
 have HC0:=a0_ hc0
 clear hr0 hc0
 have H : (laws_isIn.l0 k l0 a1 0) = some r:=h
 clear h
 have H':=a0_ H
 clear H
 go_enter Try.func15,Try.ntmps15
 go_wp2
 go_loopg [5] k (fun kq v5 w'=>∃ (x5_1 : Int),v5 = .int .i64 x5_1 ∧ Aside0 (laws_isIn.l0 kq l0 a1 x5_1 = some r) ∧ Aside0 (kq ≤ k) ∧ Drawn0 w w')
 case atStart=>exact ⟨(0),(by first | rfl | (simp;done) | (simp [*];done)),H',⟨Nat.le_refl _⟩,by repeat (first | exact Drawn0.refl _ | apply Drawn0.step)⟩
 case round =>
  clear H'
  try clear c1
  try clear p2
  obtain ⟨x5_1,rfl,HA,HK1,⟨m1,rfl⟩⟩:=hrel
  cases gk with
  | zero=>exact absurd HA.out (by simp [laws_isIn.l0])
  | succ k1 =>
   have H:=HA.out
   clear HA
   simp only [laws_isIn.l0] at H
   by_cases c3 : x5_1 < (l0.length : Int)
   ·rw [if_pos c3] at H
    have c3b0 : decide (x5_1 < (l0.length : Int)) = true:=decide_eq_true c3
    clear c3
    by_cases c4 : 0 ≤ x5_1
    ·rw [if_pos c4] at H
     have c4b0 : decide (0 ≤ x5_1) = true:=decide_eq_true c4
     clear c4
     by_cases c5 : (rd l0 x5_1) = a1
     ·rw [if_pos c5] at H
      have c5b0 : ((rd l0 x5_1) == a1) = true:=beq_iff_eq.mpr c5
      have c5b1 : ((rd l0 x5_1) != a1) = false:=bne_eq_false_iff_eq.mpr c5
      clear c5
      obtain rfl:=Option.some.inj H
      have p1 : 0 ≤ (x5_1 : Int):=of_decide_eq_true (by first | (with_reducible assumption) | assumption)
      have q1 : x5_1 < (l0.length : Int):=of_decide_eq_true (by first | (with_reducible assumption) | assumption)
      obtain ⟨ad1,e1,hx1_0⟩:=Kd.at_int HR0.out x5_1 p1 q1
      cases e1
      replace p1:=eq_true p1
      replace q1:=eq_true q1
      go_wp2
      go_ret
      exact ⟨by first | rfl | (simp;done) | (simp [*];done),by repeat (first | exact Drawn0.refl _ | apply Drawn0.step)⟩
     ·rw [if_neg c5] at H
      have c5b0 : ((rd l0 x5_1) == a1) = false:=beq_eq_false_iff_ne.mpr c5
      have c5b1 : ((rd l0 x5_1) != a1) = true:=bne_iff_ne.mpr c5
      have H':=a0_ H
      clear H
      have p1 : 0 ≤ (x5_1 : Int):=of_decide_eq_true (by first | (with_reducible assumption) | assumption)
      have q1 : x5_1 < (l0.length : Int):=of_decide_eq_true (by first | (with_reducible assumption) | assumption)
      obtain ⟨ad1,e1,hx1_0⟩:=Kd.at_int HR0.out x5_1 p1 q1
      cases e1
      replace p1:=eq_true p1
      replace q1:=eq_true q1
      go_wp2
      go_roundg k1
      case measure=>have:=HK1.out;omega
      case rel=>exact ⟨(wrap64 (x5_1 + 1)),(by first | rfl | (simp;done) | (simp [*];done)),H',⟨by have:=HK1.out;omega⟩,by repeat (first | exact Drawn0.refl _ | apply Drawn0.step)⟩
    ·rw [if_neg c4] at H
     exact absurd H (by simp)
   ·rw [if_neg c3] at H
    have c3b0 : decide (x5_1 < (l0.length : Int)) = false:=decide_eq_false c3
    clear c3
    obtain rfl:=Option.some.inj H
    go_wp2
    go_ret
    exact ⟨by first | rfl | (simp;done) | (simp [*];done),by repeat (first | exact Drawn0.refl _ | apply Drawn0.step)⟩
theorem laws_isIn_ev (l : List Int) (x : Int) (hl : l.length ≤ 9223372036854775806) : Ev (fun k=>laws_isIn.f k l x) (l.contains x):=by
 have key : ∀ d j,j + d = l.length → Ev (fun k=>laws_isIn.l0 k l x (j : Int)) ((l.drop j).contains x):=by
  intro d
  induction d with
  | zero =>
   intro j hj
   refine Ev.succ ?_
   simp only [laws_isIn.l0]
   rw [List.drop_eq_nil_of_le (by omega)]
   exact Ev.neg (by omega) (Ev.const rfl)
  | succ d ih =>
   intro j hj
   refine Ev.succ ?_
   simp only [laws_isIn.l0]
   have hlt : j < l.length:=by omega
   have hr : rd l (j : Int) = l[j]:=by simp [rd,hlt]
   rw [List.drop_eq_getElem_cons hlt,List.contains_cons,hr]
   refine Ev.pos (by omega) (Ev.pos (by omega) ?_)
   by_cases e : l[j] = x
   ·refine Ev.pos e (Ev.const ?_)
    simp [e]
   ·refine Ev.neg e ?_
    rw [show (x == l[j]) = false from beq_eq_false_iff_ne.2 (fun hh=>e hh.symm),Bool.false_or,wrap_succ (i:=(j : Int)) (n:=l.length) (by omega) (by omega) (by omega)]
    exact ih (j + 1) (by omega)
 have:=key l.length 0 (by omega)
 rw [List.drop_zero] at this
 exact this
end Go.Proofs.Ytmiholmfbjalfaa.P
