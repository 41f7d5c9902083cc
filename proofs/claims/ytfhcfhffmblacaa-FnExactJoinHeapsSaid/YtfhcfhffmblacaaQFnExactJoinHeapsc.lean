/- Texts under the proof of FnExactJoinHeaps: helper words, the functions' contracts and the plain laws. No condition. -/
import Derived.Test.YtfhcfhffmblacaaQFnExactJoinHeapsa
import Derived.Test.YtfhcfhffmblacaaQFnExactJoinHeapsb
namespace Go.Proofs.Ytfhcfhffmblacaa.P
open Go.RowKit Go.Proofs.YtfhcfhffmblacaaW.PrintWords Go.Proofs.YtfhcfhffmblacaaW.PrintLast Go.Proofs.YtfhcfhffmblacaaW.PrintMore
attribute [local go_sem] max2_int min2_int max_two min_two max_three min_three max_four min_four
set_option linter.unusedVariables false
set_option linter.unusedSimpArgs false
mutual
def spec_validHeap.l0 : Nat → Int → List (S106) → List (S79) → Option (Bool)
 | 0,_,_,_=>none
 | k + 1,x5,x2000,x3000=>if x5 < (x3000.length : Int) then (if 0 ≤ x5 then ((spec_hasClass.f x2000 ((rd_T79 x3000 x5).f0)).bind fun t5=>(if t5 = true then ((spec_inRange.f ((rd_T79 x3000 x5).f1) 0 99).bind fun t6=>(if t6 = true then ((spec_validLinks.f x3000 x5).bind fun t7=>(if t7 = true then (spec_validHeap.l0 k (wrap64 (x5 + 1)) x2000 x3000) else (some false))) else (some false))) else (some false))) else (none)) else (spec_validHeap.l1 k 0 x2000 x3000)
def spec_validHeap.l1 : Nat → Int → List (S106) → List (S79) → Option (Bool)
 | 0,_,_,_=>none
 | k + 1,x7,x2000,x3000=>if x7 < (x3000.length : Int) then ((spec_contexts.f k x3000 x7).bind fun t8=>(if 0 ≤ (wrap64 ((t8.length : Int) - 1)) then (if (wrap64 ((t8.length : Int) - 1)) < (t8.length : Int) then (if 0 ≤ (rd t8 (wrap64 ((t8.length : Int) - 1))) then (if (rd t8 (wrap64 ((t8.length : Int) - 1))) < (x3000.length : Int) then (if ((rd_T79 x3000 (rd t8 (wrap64 ((t8.length : Int) - 1)))).f3) ≥ 0 then (some false) else (spec_validHeap.l1 k (wrap64 (x7 + 1)) x2000 x3000)) else (none)) else (none)) else (none)) else (none))) else ((spec_validTree.f x2000).bind fun t13=>(if t13 = true then (some (decide ((x3000.length : Int) ≤ 24))) else (some false)))
end
def spec_validHeap.f (k : Nat) (l0_0 : List (S106)) (l1_0 : List (S79)) : Option (Bool):=spec_validHeap.l0 k 0 l0_0 l1_0
theorem spec_validHeap.mono_l : ∀ k,(∀ y0 y1 y2,LeO (spec_validHeap.l0 k y0 y1 y2) (spec_validHeap.l0 (k + 1) y0 y1 y2)) ∧ (∀ y0 y1 y2,LeO (spec_validHeap.l1 k y0 y1 y2) (spec_validHeap.l1 (k + 1) y0 y1 y2))
 | 0=>⟨fun _ _ _ r h=>by simp [spec_validHeap.l0] at h,fun _ _ _ r h=>by simp [spec_validHeap.l1] at h⟩
 | k + 1=>by
  obtain ⟨ih0,ih1⟩:=spec_validHeap.mono_l k
  refine ⟨?_,?_⟩
  ·intro y0 y1 y2
   unfold spec_validHeap.l0
   repeat' first
   | (with_reducible exact ih0 _ _ _)
   | (with_reducible exact ih1 _ _ _)
   | (with_reducible exact spec_contexts.mono _ _ _)
   | (with_reducible exact LeO.refl _)
   | (with_reducible exact LeO.none _)
   | (with_reducible refine LeO.ite ?_ ?_)
   | (with_reducible refine LeO.bind ?_ (fun _=>?_))
   | exact ih0 _ _ _
   | exact ih1 _ _ _
   | exact spec_contexts.mono _ _ _
   | exact LeO.none _
   | refine LeO.ite ?_ ?_
   | refine LeO.bind ?_ (fun _=>?_)
  ·intro y0 y1 y2
   unfold spec_validHeap.l1
   repeat' first
   | (with_reducible exact ih0 _ _ _)
   | (with_reducible exact ih1 _ _ _)
   | (with_reducible exact spec_contexts.mono _ _ _)
   | (with_reducible exact LeO.refl _)
   | (with_reducible exact LeO.none _)
   | (with_reducible refine LeO.ite ?_ ?_)
   | (with_reducible refine LeO.bind ?_ (fun _=>?_))
   | exact ih0 _ _ _
   | exact ih1 _ _ _
   | exact spec_contexts.mono _ _ _
   | exact LeO.none _
   | refine LeO.ite ?_ ?_
   | refine LeO.bind ?_ (fun _=>?_)
theorem spec_validHeap.mono : ∀ a0 a1 k,LeO (spec_validHeap.f k a0 a1) (spec_validHeap.f (k + 1) a0 a1):=by
 intro a0 a1 k
 obtain ⟨ih0,ih1⟩:=spec_validHeap.mono_l k
 unfold spec_validHeap.f
 repeat' first
   | (with_reducible exact ih0 _ _ _)
   | (with_reducible exact ih1 _ _ _)
   | (with_reducible exact spec_contexts.mono _ _ _)
   | (with_reducible exact LeO.refl _)
   | (with_reducible exact LeO.none _)
   | (with_reducible refine LeO.ite ?_ ?_)
   | (with_reducible refine LeO.bind ?_ (fun _=>?_))
   | exact ih0 _ _ _
   | exact ih1 _ _ _
   | exact spec_contexts.mono _ _ _
   | exact LeO.none _
   | refine LeO.ite ?_ ?_
   | refine LeO.bind ?_ (fun _=>?_)
set_option maxHeartbeats 8000000 in
set_option maxRecDepth 100000 in
theorem spec_validHeap.calls (k : Nat) (A0_0 : Option Addr) (c0_0 : Nat) (l0_0 : List (S106)) (A1_0 : Option Addr) (c1_0 : Nat) (l1_0 : List (S79)) (r : Bool) (w : World) (hr0_0 : Kd.C k106 w A0_0 l0_0.length l0_0) (hc0_0 : l0_0.length ≤ c0_0) (hr1_0 : Kd.C k79 w A1_0 l1_0.length l1_0) (hc1_0 : l1_0.length ≤ c1_0) (h : spec_validHeap.f k l0_0 l1_0 = some r) :
  Calls Try.prog 54 #[.agg #[.slice A0_0 l0_0.length c0_0],.agg #[.slice A1_0 l1_0.length c1_0]] w fun e w'=>e = .returned (.bool r) ∧ Below w.heap.size w w':=by
 have hu33:=Try.underlying33
 have hu37:=Try.underlying37
 have hu79:=Try.underlying79
 have HR0_0:=a0_ hr0_0
 have HC0_0:=a0_ hc0_0
 clear hr0_0 hc0_0
 have HR1_0:=a0_ hr1_0
 have HC1_0:=a0_ hc1_0
 clear hr1_0 hc1_0
 have HB:=a0_ (Below.refl w.heap.size w)
 have H : (spec_validHeap.l0 k 0 l0_0 l1_0) = some r:=h
 clear h
 have H':=a0_ H
 clear H
 go_enter Try.func54,Try.ntmps54
 go_wp2_with (first | ((with_reducible refine gate_dst (N:=2) rfl ?_);(try (refine gate_guard (by rfl) ?_;dsimp only));refine box_event ?hg (N:=2) ?hd (cs:=#[.slice A0_0 l0_0.length c0_0]) (t:=33) ?hr ?_;(case hd=>rfl);(case hg=>rfl);(case hr=>first | (go_simp;done) | (go_simp;rfl));intro gb1 hg w3 hbox hb;have BK1:=a0_ (hbox);have GW1:=a0_ ((by rw [hg];exact (below_size hb_) : w.heap.size ≤ gb1));have GE1:=a0_ ((by rw [hg];exact (below_size hb_) : w.heap.size ≤ gb1));replace HB:=a0_ (below_step hb_ hb);clear hb hbox hg) | ((with_reducible refine gate_dst (N:=3) rfl ?_);(try (refine gate_guard (by rfl) ?_;dsimp only));refine box_event ?hg (N:=3) ?hd (cs:=#[.slice A1_0 l1_0.length c1_0]) (t:=37) ?hr ?_;(case hd=>rfl);(case hg=>rfl);(case hr=>first | (go_simp;done) | (go_simp;rfl));intro gb2 hg w4 hbox hb;have n0_:=kb_ BK1 hb;have n1_:=a0_ (below_step hb_ hb);have n2_:=a0_ (hbox);have n3_:=a0_ ((by rw [hg];exact (below_size hb_) : w.heap.size ≤ gb2));have n4_:=a0_ ((by rw [hg];exact (below_size hb_) : w.heap.size ≤ gb2));have n5_:=a0_ ((by rw [hg];exact Nat.ne_of_lt (blk_lt (bb_ BK1.out)) : gb1 ≠ gb2));have n6_:=a0_ ((by rw [hg];exact Nat.ne_of_gt (blk_lt (bb_ BK1.out)) : gb2 ≠ gb1));clear BK1 HB;have BK1:=n0_;have HB:=n1_;have BK2:=n2_;have GW2:=n3_;have GE2:=n4_;have NB1_2:=n5_;have NB2_1:=n6_;clear n0_ n1_ n2_ n3_ n4_ n5_ n6_;clear hb hbox hg))
 repeat (go_quiet (first | ((with_reducible refine gate_dst (N:=2) rfl ?_);(try (refine gate_guard (by rfl) ?_;dsimp only));refine box_event ?hg (N:=2) ?hd (cs:=#[.slice A0_0 l0_0.length c0_0]) (t:=33) ?hr ?_;(case hd=>rfl);(case hg=>rfl);(case hr=>first | (go_simp;done) | (go_simp;rfl));intro gb1 hg w3 hbox hb;have BK1:=a0_ (hbox);have GW1:=a0_ ((by rw [hg];exact (below_size hb_) : w.heap.size ≤ gb1));have GE1:=a0_ ((by rw [hg];exact (below_size hb_) : w.heap.size ≤ gb1));replace HB:=a0_ (below_step hb_ hb);clear hb hbox hg) | ((with_reducible refine gate_dst (N:=3) rfl ?_);(try (refine gate_guard (by rfl) ?_;dsimp only));refine box_event ?hg (N:=3) ?hd (cs:=#[.slice A1_0 l1_0.length c1_0]) (t:=37) ?hr ?_;(case hd=>rfl);(case hg=>rfl);(case hr=>first | (go_simp;done) | (go_simp;rfl));intro gb2 hg w4 hbox hb;have n0_:=kb_ BK1 hb;have n1_:=a0_ (below_step hb_ hb);have n2_:=a0_ (hbox);have n3_:=a0_ ((by rw [hg];exact (below_size hb_) : w.heap.size ≤ gb2));have n4_:=a0_ ((by rw [hg];exact (below_size hb_) : w.heap.size ≤ gb2));have n5_:=a0_ ((by rw [hg];exact Nat.ne_of_lt (blk_lt (bb_ BK1.out)) : gb1 ≠ gb2));have n6_:=a0_ ((by rw [hg];exact Nat.ne_of_gt (blk_lt (bb_ BK1.out)) : gb2 ≠ gb1));clear BK1 HB;have BK1:=n0_;have HB:=n1_;have BK2:=n2_;have GW2:=n3_;have GE2:=n4_;have NB1_2:=n5_;have NB2_1:=n6_;clear n0_ n1_ n2_ n3_ n4_ n5_ n6_;clear hb hbox hg));try go_wp2_with (first | ((with_reducible refine gate_dst (N:=2) rfl ?_);(try (refine gate_guard (by rfl) ?_;dsimp only));refine box_event ?hg (N:=2) ?hd (cs:=#[.slice A0_0 l0_0.length c0_0]) (t:=33) ?hr ?_;(case hd=>rfl);(case hg=>rfl);(case hr=>first | (go_simp;done) | (go_simp;rfl));intro gb1 hg w3 hbox hb;have BK1:=a0_ (hbox);have GW1:=a0_ ((by rw [hg];exact (below_size hb_) : w.heap.size ≤ gb1));have GE1:=a0_ ((by rw [hg];exact (below_size hb_) : w.heap.size ≤ gb1));replace HB:=a0_ (below_step hb_ hb);clear hb hbox hg) | ((with_reducible refine gate_dst (N:=3) rfl ?_);(try (refine gate_guard (by rfl) ?_;dsimp only));refine box_event ?hg (N:=3) ?hd (cs:=#[.slice A1_0 l1_0.length c1_0]) (t:=37) ?hr ?_;(case hd=>rfl);(case hg=>rfl);(case hr=>first | (go_simp;done) | (go_simp;rfl));intro gb2 hg w4 hbox hb;have n0_:=kb_ BK1 hb;have n1_:=a0_ (below_step hb_ hb);have n2_:=a0_ (hbox);have n3_:=a0_ ((by rw [hg];exact (below_size hb_) : w.heap.size ≤ gb2));have n4_:=a0_ ((by rw [hg];exact (below_size hb_) : w.heap.size ≤ gb2));have n5_:=a0_ ((by rw [hg];exact Nat.ne_of_lt (blk_lt (bb_ BK1.out)) : gb1 ≠ gb2));have n6_:=a0_ ((by rw [hg];exact Nat.ne_of_gt (blk_lt (bb_ BK1.out)) : gb2 ≠ gb1));clear BK1 HB;have BK1:=n0_;have HB:=n1_;have BK2:=n2_;have GW2:=n3_;have GE2:=n4_;have NB1_2:=n5_;have NB2_1:=n6_;clear n0_ n1_ n2_ n3_ n4_ n5_ n6_;clear hb hbox hg)))
 go_loopg [5] k (fun kq v5 w'=>∃ (x5_1 : Int),v5 = .int .i64 x5_1 ∧ Aside0 (spec_validHeap.l0 kq x5_1 l0_0 l1_0 = some r) ∧ Aside0 (kq ≤ k) ∧ Aside0 (w'.heap[gb1]? = some (.cells #[(.slice A0_0 l0_0.length c0_0)] 33 (0,0))) ∧ Aside0 (w'.heap[gb2]? = some (.cells #[(.slice A1_0 l1_0.length c1_0)] 37 (0,0))) ∧ Aside0 (Below w.heap.size w w'))
 case atStart=>exact ⟨(0),(by first | rfl | (simp;done) | (simp [*];done)),H',⟨Nat.le_refl _⟩,⟨by (with_reducible repeat (first | refine blk_drewN ?_ _ | refine blk_drew ?_ | refine blk_alloc ?_ _));exact BK1.out⟩,⟨by (with_reducible repeat (first | refine blk_drewN ?_ _ | refine blk_drew ?_ | refine blk_alloc ?_ _));exact BK2.out⟩,⟨hb_⟩⟩
 case round =>
  clear H'
  try clear c1
  try clear p2
  obtain ⟨x5_1,rfl,HA,HK1,BK1,BK2,HB⟩:=hrel
  cases gk with
  | zero=>exact absurd HA.out (by simp [spec_validHeap.l0])
  | succ k1 =>
   have H:=HA.out
   clear HA
   simp only [spec_validHeap.l0] at H
   by_cases c5 : x5_1 < (l1_0.length : Int)
   ·rw [if_pos c5] at H
    have c5b0 : decide (x5_1 < (l1_0.length : Int)) = true:=decide_eq_true c5
    clear c5
    by_cases c6 : 0 ≤ x5_1
    ·rw [if_pos c6] at H
     have c6b0 : decide (0 ≤ x5_1) = true:=decide_eq_true c6
     clear c6
     replace H:=Option.bind_eq_some_iff.mp H
     obtain ⟨t5,A70,H⟩:=H
     try dsimp only at H
     have A7:=a0_ A70
     clear A70
     by_cases c8 : t5 = true
     ·subst c8
      have H1 : ((spec_inRange.f ((rd_T79 l1_0 x5_1).f1) 0 99).bind fun t6=>(if t6 = true then ((spec_validLinks.f l1_0 x5_1).bind fun t7=>(if t7 = true then (spec_validHeap.l0 k1 (wrap64 (x5_1 + 1)) l0_0 l1_0) else (some false))) else (some false))) = some r:=by rw [if_pos rfl] at H;exact H
      clear H
      have H:=H1
      clear H1
      replace H:=Option.bind_eq_some_iff.mp H
      obtain ⟨t6,A90,H⟩:=H
      try dsimp only at H
      have A9:=a0_ A90
      clear A90
      by_cases c10 : t6 = true
      ·subst c10
       have H1 : ((spec_validLinks.f l1_0 x5_1).bind fun t7=>(if t7 = true then (spec_validHeap.l0 k1 (wrap64 (x5_1 + 1)) l0_0 l1_0) else (some false))) = some r:=by rw [if_pos rfl] at H;exact H
       clear H
       have H:=H1
       clear H1
       replace H:=Option.bind_eq_some_iff.mp H
       obtain ⟨t7,A110,H⟩:=H
       try dsimp only at H
       have A11:=a0_ A110
       clear A110
       by_cases c12 : t7 = true
       ·subst c12
        have H1 : (spec_validHeap.l0 k1 (wrap64 (x5_1 + 1)) l0_0 l1_0) = some r:=by rw [if_pos rfl] at H;exact H
        clear H
        have H:=H1
        clear H1
        have H':=a0_ H
        clear H
        have hnb13:=NB2_1.out
        have hnc13:=NB1_2.out
        have hcz14_0 : wr.cell? ⟨gb2,0,none⟩ = some (.slice A1_0 l1_0.length c1_0):=(blk_cell BK2.out 0).trans rfl
        have hfz14_0:=blk_frozen BK2.out 0
        have p3 : 0 ≤ (x5_1 : Int):=of_decide_eq_true (by first | (with_reducible assumption) | assumption)
        have q3 : x5_1 < (l1_0.length : Int):=of_decide_eq_true (by first | (with_reducible assumption) | assumption)
        obtain ⟨ad3,e3,hx3_0,hx3_1,hx3_2,hx3_3,hx3_4⟩:=at_T79 HR1_0.out x5_1 p3 q3
        cases e3
        replace hx3_0:=(HB.out.cell (World.block_lt_of_cell? w _ hx3_0)).trans hx3_0
        replace hx3_1:=(HB.out.cell (World.block_lt_of_cell? w _ hx3_1)).trans hx3_1
        replace hx3_2:=(HB.out.cell (World.block_lt_of_cell? w _ hx3_2)).trans hx3_2
        replace hx3_3:=(HB.out.cell (World.block_lt_of_cell? w _ hx3_3)).trans hx3_3
        replace hx3_4:=(HB.out.cell (World.block_lt_of_cell? w _ hx3_4)).trans hx3_4
        replace p3:=eq_true p3
        replace q3:=eq_true q3
        go_wp2_with (first | ((with_reducible refine gate_dst (N:=6) rfl ?_);(try (refine gate_guard (by rfl) ?_;dsimp only));refine box_event ?hg (N:=6) ?hd (cs:=#[.int .i64 0,.int .i64 0,.int .i64 0,.int .i64 0,.bool false]) (t:=79) ?hr ?_;(case hd=>rfl);(case hg=>rfl);(case hr=>first | (go_simp;done) | (go_simp;rfl));intro gb4 hg w15 hbox hb;have n0_:=kb_ BK1 hb;have n1_:=kb_ BK2 hb;have n2_:=a0_ (below_step hb_ hb);have n3_:=a0_ (hbox);have n4_:=a0_ ((by rw [hg];exact (below_size hb_) : w.heap.size ≤ gb4));have n5_:=a0_ ((by rw [hg];exact (below_size hb_) : w.heap.size ≤ gb4));have n6_:=a0_ ((by rw [hg];exact Nat.ne_of_lt (blk_lt (bb_ BK1.out)) : gb1 ≠ gb4));have n7_:=a0_ ((by rw [hg];exact Nat.ne_of_gt (blk_lt (bb_ BK1.out)) : gb4 ≠ gb1));have n8_:=a0_ ((by rw [hg];exact Nat.ne_of_lt (blk_lt (bb_ BK2.out)) : gb2 ≠ gb4));have n9_:=a0_ ((by rw [hg];exact Nat.ne_of_gt (blk_lt (bb_ BK2.out)) : gb4 ≠ gb2));clear BK1 BK2 HB;have BK1:=n0_;have BK2:=n1_;have HB:=n2_;have BK4:=n3_;have GW4:=n4_;have GE4:=n5_;have NB1_4:=n6_;have NB4_1:=n7_;have NB2_4:=n8_;have NB4_2:=n9_;clear n0_ n1_ n2_ n3_ n4_ n5_ n6_ n7_ n8_ n9_;clear hb hbox hg;have hnb16:=NB4_1.out;have hnc16:=NB1_4.out;have hnb17:=NB4_2.out;have hnc17:=NB2_4.out;have hcz18_0 : w15.cell? ⟨gb4,0,none⟩ = some (.int .i64 0):=(blk_cell BK4.out 0).trans rfl;have hcz18_1 : w15.cell? ⟨gb4,1,none⟩ = some (.int .i64 0):=(blk_cell BK4.out 1).trans rfl;have hcz18_2 : w15.cell? ⟨gb4,2,none⟩ = some (.int .i64 0):=(blk_cell BK4.out 2).trans rfl;have hcz18_3 : w15.cell? ⟨gb4,3,none⟩ = some (.int .i64 0):=(blk_cell BK4.out 3).trans rfl;have hcz18_4 : w15.cell? ⟨gb4,4,none⟩ = some (.bool false):=(blk_cell BK4.out 4).trans rfl;have hfz18_0:=blk_frozen BK4.out 0;have hfz18_1:=blk_frozen BK4.out 1;have hfz18_2:=blk_frozen BK4.out 2;have hfz18_3:=blk_frozen BK4.out 3;have hfz18_4:=blk_frozen BK4.out 4;have hcz19_0 : w15.cell? ⟨gb1,0,none⟩ = some (.slice A0_0 l0_0.length c0_0):=(blk_cell BK1.out 0).trans rfl;have hfz19_0:=blk_frozen BK1.out 0) | (go_at_call 88;(with_reducible refine (spec_hasClass.calls _ _ l0_0 ((rd_T79 l1_0 x5_1).f0) true _ ?side1 ?side2 A7.out).mono ?_);(case side1=>exact Kd.C_below HR0_0.out hb_);(case side2=>exact HC0_0.out);rintro e w20 ⟨rfl,hb⟩;replace BK1:=a0_ (blk_below (g:=gb1) (o:=.cells #[.slice A0_0 l0_0.length c0_0] 33 (0,0)) (bff_ BK1.out) hb);replace BK2:=a0_ (blk_below (g:=gb2) (o:=.cells #[.slice (some ad3) l1_0.length c1_0] 37 (0,0)) (bff_ BK2.out) hb);replace BK4:=a0_ (blk_below (g:=gb4) (o:=.cells #[.int .i64 ((rd_T79 l1_0 x5_1).f0),.int .i64 ((rd_T79 l1_0 x5_1).f1),.int .i64 ((rd_T79 l1_0 x5_1).f2),.int .i64 ((rd_T79 l1_0 x5_1).f3),.bool ((rd_T79 l1_0 x5_1).f4)] 79 (0,0)) (by (with_reducible repeat (first | refine blk_drewN ?_ _ | refine blk_drew ?_ | refine blk_alloc ?_ _));refine blk_put (cs:=#[.int .i64 ((rd_T79 l1_0 x5_1).f0),.int .i64 ((rd_T79 l1_0 x5_1).f1),.int .i64 ((rd_T79 l1_0 x5_1).f2),.int .i64 ((rd_T79 l1_0 x5_1).f3),.bool false]) ?_ 4 _ rfl;(with_reducible repeat (first | refine blk_drewN ?_ _ | refine blk_drew ?_ | refine blk_alloc ?_ _));refine blk_put (cs:=#[.int .i64 ((rd_T79 l1_0 x5_1).f0),.int .i64 ((rd_T79 l1_0 x5_1).f1),.int .i64 ((rd_T79 l1_0 x5_1).f2),.int .i64 0,.bool false]) ?_ 3 _ rfl;(with_reducible repeat (first | refine blk_drewN ?_ _ | refine blk_drew ?_ | refine blk_alloc ?_ _));refine blk_put (cs:=#[.int .i64 ((rd_T79 l1_0 x5_1).f0),.int .i64 ((rd_T79 l1_0 x5_1).f1),.int .i64 0,.int .i64 0,.bool false]) ?_ 2 _ rfl;(with_reducible repeat (first | refine blk_drewN ?_ _ | refine blk_drew ?_ | refine blk_alloc ?_ _));refine blk_put (cs:=#[.int .i64 ((rd_T79 l1_0 x5_1).f0),.int .i64 0,.int .i64 0,.int .i64 0,.bool false]) ?_ 1 _ rfl;(with_reducible repeat (first | refine blk_drewN ?_ _ | refine blk_drew ?_ | refine blk_alloc ?_ _));refine blk_put (cs:=#[.int .i64 0,.int .i64 0,.int .i64 0,.int .i64 0,.bool false]) ?_ 0 _ rfl;(with_reducible repeat (first | refine blk_drewN ?_ _ | refine blk_drew ?_ | refine blk_alloc ?_ _));exact BK4.out) hb);replace HB:=a0_ (below_step hb_ hb);(try clear hb);have hcz21_0 : w20.cell? ⟨gb4,0,none⟩ = some (.int .i64 ((rd_T79 l1_0 x5_1).f0)):=(blk_cell BK4.out 0).trans rfl;have hcz21_1 : w20.cell? ⟨gb4,1,none⟩ = some (.int .i64 ((rd_T79 l1_0 x5_1).f1)):=(blk_cell BK4.out 1).trans rfl;have hcz21_2 : w20.cell? ⟨gb4,2,none⟩ = some (.int .i64 ((rd_T79 l1_0 x5_1).f2)):=(blk_cell BK4.out 2).trans rfl;have hcz21_3 : w20.cell? ⟨gb4,3,none⟩ = some (.int .i64 ((rd_T79 l1_0 x5_1).f3)):=(blk_cell BK4.out 3).trans rfl;have hcz21_4 : w20.cell? ⟨gb4,4,none⟩ = some (.bool ((rd_T79 l1_0 x5_1).f4)):=(blk_cell BK4.out 4).trans rfl;have hfz21_0:=blk_frozen BK4.out 0;have hfz21_1:=blk_frozen BK4.out 1;have hfz21_2:=blk_frozen BK4.out 2;have hfz21_3:=blk_frozen BK4.out 3;have hfz21_4:=blk_frozen BK4.out 4) | (go_at_call 89;(with_reducible refine (spec_inRange.calls ((rd_T79 l1_0 x5_1).f1) 0 99 true _ A9.out).mono ?_);rintro e w' ⟨rfl,⟨nd,rfl⟩⟩;(try first | exact ⟨rfl,_,World.drewN_drewN _ _ _⟩ | exact ⟨rfl,_,Eq.trans (World.drewN_drewN _ _ _) (congrArg (World.drewN _) (Nat.add_assoc _ _ _))⟩);have hcz22_0 : w20.cell? ⟨gb2,0,none⟩ = some (.slice (some ad3) l1_0.length c1_0):=(blk_cell BK2.out 0).trans rfl;have hfz22_0:=blk_frozen BK2.out 0) | (go_at_call 90;(with_reducible refine (spec_validLinks.calls _ _ l1_0 x5_1 true _ ?side1 ?side2 A11.out).mono ?_);(case side1=>repeat (first | exact (Kd.C_below HR1_0.out hb_) | (with_reducible refine Kd.C_alloc ?_ _) | (with_reducible refine Kd.C_drewN ?_ _) | (with_reducible refine Kd.C_drew ?_)));(case side2=>exact HC1_0.out);rintro e w23 ⟨rfl,hb⟩;replace BK1:=kb_ BK1 hb;replace BK2:=kb_ BK2 hb;replace BK4:=kb_ BK4 hb;replace HB:=a0_ (below_step hb_ hb);(try clear hb);(try clear hb2);(try clear hk);(try clear hi)))
        repeat (go_quiet (first | ((with_reducible refine gate_dst (N:=6) rfl ?_);(try (refine gate_guard (by rfl) ?_;dsimp only));refine box_event ?hg (N:=6) ?hd (cs:=#[.int .i64 0,.int .i64 0,.int .i64 0,.int .i64 0,.bool false]) (t:=79) ?hr ?_;(case hd=>rfl);(case hg=>rfl);(case hr=>first | (go_simp;done) | (go_simp;rfl));intro gb4 hg w15 hbox hb;have n0_:=kb_ BK1 hb;have n1_:=kb_ BK2 hb;have n2_:=a0_ (below_step hb_ hb);have n3_:=a0_ (hbox);have n4_:=a0_ ((by rw [hg];exact (below_size hb_) : w.heap.size ≤ gb4));have n5_:=a0_ ((by rw [hg];exact (below_size hb_) : w.heap.size ≤ gb4));have n6_:=a0_ ((by rw [hg];exact Nat.ne_of_lt (blk_lt (bb_ BK1.out)) : gb1 ≠ gb4));have n7_:=a0_ ((by rw [hg];exact Nat.ne_of_gt (blk_lt (bb_ BK1.out)) : gb4 ≠ gb1));have n8_:=a0_ ((by rw [hg];exact Nat.ne_of_lt (blk_lt (bb_ BK2.out)) : gb2 ≠ gb4));have n9_:=a0_ ((by rw [hg];exact Nat.ne_of_gt (blk_lt (bb_ BK2.out)) : gb4 ≠ gb2));clear BK1 BK2 HB;have BK1:=n0_;have BK2:=n1_;have HB:=n2_;have BK4:=n3_;have GW4:=n4_;have GE4:=n5_;have NB1_4:=n6_;have NB4_1:=n7_;have NB2_4:=n8_;have NB4_2:=n9_;clear n0_ n1_ n2_ n3_ n4_ n5_ n6_ n7_ n8_ n9_;clear hb hbox hg;have hnb16:=NB4_1.out;have hnc16:=NB1_4.out;have hnb17:=NB4_2.out;have hnc17:=NB2_4.out;have hcz18_0 : w15.cell? ⟨gb4,0,none⟩ = some (.int .i64 0):=(blk_cell BK4.out 0).trans rfl;have hcz18_1 : w15.cell? ⟨gb4,1,none⟩ = some (.int .i64 0):=(blk_cell BK4.out 1).trans rfl;have hcz18_2 : w15.cell? ⟨gb4,2,none⟩ = some (.int .i64 0):=(blk_cell BK4.out 2).trans rfl;have hcz18_3 : w15.cell? ⟨gb4,3,none⟩ = some (.int .i64 0):=(blk_cell BK4.out 3).trans rfl;have hcz18_4 : w15.cell? ⟨gb4,4,none⟩ = some (.bool false):=(blk_cell BK4.out 4).trans rfl;have hfz18_0:=blk_frozen BK4.out 0;have hfz18_1:=blk_frozen BK4.out 1;have hfz18_2:=blk_frozen BK4.out 2;have hfz18_3:=blk_frozen BK4.out 3;have hfz18_4:=blk_frozen BK4.out 4;have hcz19_0 : w15.cell? ⟨gb1,0,none⟩ = some (.slice A0_0 l0_0.length c0_0):=(blk_cell BK1.out 0).trans rfl;have hfz19_0:=blk_frozen BK1.out 0) | (go_at_call 88;(with_reducible refine (spec_hasClass.calls _ _ l0_0 ((rd_T79 l1_0 x5_1).f0) true _ ?side1 ?side2 A7.out).mono ?_);(case side1=>exact Kd.C_below HR0_0.out hb_);(case side2=>exact HC0_0.out);rintro e w20 ⟨rfl,hb⟩;replace BK1:=a0_ (blk_below (g:=gb1) (o:=.cells #[.slice A0_0 l0_0.length c0_0] 33 (0,0)) (bff_ BK1.out) hb);replace BK2:=a0_ (blk_below (g:=gb2) (o:=.cells #[.slice (some ad3) l1_0.length c1_0] 37 (0,0)) (bff_ BK2.out) hb);replace BK4:=a0_ (blk_below (g:=gb4) (o:=.cells #[.int .i64 ((rd_T79 l1_0 x5_1).f0),.int .i64 ((rd_T79 l1_0 x5_1).f1),.int .i64 ((rd_T79 l1_0 x5_1).f2),.int .i64 ((rd_T79 l1_0 x5_1).f3),.bool ((rd_T79 l1_0 x5_1).f4)] 79 (0,0)) (by (with_reducible repeat (first | refine blk_drewN ?_ _ | refine blk_drew ?_ | refine blk_alloc ?_ _));refine blk_put (cs:=#[.int .i64 ((rd_T79 l1_0 x5_1).f0),.int .i64 ((rd_T79 l1_0 x5_1).f1),.int .i64 ((rd_T79 l1_0 x5_1).f2),.int .i64 ((rd_T79 l1_0 x5_1).f3),.bool false]) ?_ 4 _ rfl;(with_reducible repeat (first | refine blk_drewN ?_ _ | refine blk_drew ?_ | refine blk_alloc ?_ _));refine blk_put (cs:=#[.int .i64 ((rd_T79 l1_0 x5_1).f0),.int .i64 ((rd_T79 l1_0 x5_1).f1),.int .i64 ((rd_T79 l1_0 x5_1).f2),.int .i64 0,.bool false]) ?_ 3 _ rfl;(with_reducible repeat (first | refine blk_drewN ?_ _ | refine blk_drew ?_ | refine blk_alloc ?_ _));refine blk_put (cs:=#[.int .i64 ((rd_T79 l1_0 x5_1).f0),.int .i64 ((rd_T79 l1_0 x5_1).f1),.int .i64 0,.int .i64 0,.bool false]) ?_ 2 _ rfl;(with_reducible repeat (first | refine blk_drewN ?_ _ | refine blk_drew ?_ | refine blk_alloc ?_ _));refine blk_put (cs:=#[.int .i64 ((rd_T79 l1_0 x5_1).f0),.int .i64 0,.int .i64 0,.int .i64 0,.bool false]) ?_ 1 _ rfl;(with_reducible repeat (first | refine blk_drewN ?_ _ | refine blk_drew ?_ | refine blk_alloc ?_ _));refine blk_put (cs:=#[.int .i64 0,.int .i64 0,.int .i64 0,.int .i64 0,.bool false]) ?_ 0 _ rfl;(with_reducible repeat (first | refine blk_drewN ?_ _ | refine blk_drew ?_ | refine blk_alloc ?_ _));exact BK4.out) hb);replace HB:=a0_ (below_step hb_ hb);(try clear hb);have hcz21_0 : w20.cell? ⟨gb4,0,none⟩ = some (.int .i64 ((rd_T79 l1_0 x5_1).f0)):=(blk_cell BK4.out 0).trans rfl;have hcz21_1 : w20.cell? ⟨gb4,1,none⟩ = some (.int .i64 ((rd_T79 l1_0 x5_1).f1)):=(blk_cell BK4.out 1).trans rfl;have hcz21_2 : w20.cell? ⟨gb4,2,none⟩ = some (.int .i64 ((rd_T79 l1_0 x5_1).f2)):=(blk_cell BK4.out 2).trans rfl;have hcz21_3 : w20.cell? ⟨gb4,3,none⟩ = some (.int .i64 ((rd_T79 l1_0 x5_1).f3)):=(blk_cell BK4.out 3).trans rfl;have hcz21_4 : w20.cell? ⟨gb4,4,none⟩ = some (.bool ((rd_T79 l1_0 x5_1).f4)):=(blk_cell BK4.out 4).trans rfl;have hfz21_0:=blk_frozen BK4.out 0;have hfz21_1:=blk_frozen BK4.out 1;have hfz21_2:=blk_frozen BK4.out 2;have hfz21_3:=blk_frozen BK4.out 3;have hfz21_4:=blk_frozen BK4.out 4) | (go_at_call 89;(with_reducible refine (spec_inRange.calls ((rd_T79 l1_0 x5_1).f1) 0 99 true _ A9.out).mono ?_);rintro e w' ⟨rfl,⟨nd,rfl⟩⟩;(try first | exact ⟨rfl,_,World.drewN_drewN _ _ _⟩ | exact ⟨rfl,_,Eq.trans (World.drewN_drewN _ _ _) (congrArg (World.drewN _) (Nat.add_assoc _ _ _))⟩);have hcz22_0 : w20.cell? ⟨gb2,0,none⟩ = some (.slice (some ad3) l1_0.length c1_0):=(blk_cell BK2.out 0).trans rfl;have hfz22_0:=blk_frozen BK2.out 0) | (go_at_call 90;(with_reducible refine (spec_validLinks.calls _ _ l1_0 x5_1 true _ ?side1 ?side2 A11.out).mono ?_);(case side1=>repeat (first | exact (Kd.C_below HR1_0.out hb_) | (with_reducible refine Kd.C_alloc ?_ _) | (with_reducible refine Kd.C_drewN ?_ _) | (with_reducible refine Kd.C_drew ?_)));(case side2=>exact HC1_0.out);rintro e w23 ⟨rfl,hb⟩;replace BK1:=kb_ BK1 hb;replace BK2:=kb_ BK2 hb;replace BK4:=kb_ BK4 hb;replace HB:=a0_ (below_step hb_ hb);(try clear hb);(try clear hb2);(try clear hk);(try clear hi)));try go_wp2_with (first | ((with_reducible refine gate_dst (N:=6) rfl ?_);(try (refine gate_guard (by rfl) ?_;dsimp only));refine box_event ?hg (N:=6) ?hd (cs:=#[.int .i64 0,.int .i64 0,.int .i64 0,.int .i64 0,.bool false]) (t:=79) ?hr ?_;(case hd=>rfl);(case hg=>rfl);(case hr=>first | (go_simp;done) | (go_simp;rfl));intro gb4 hg w15 hbox hb;have n0_:=kb_ BK1 hb;have n1_:=kb_ BK2 hb;have n2_:=a0_ (below_step hb_ hb);have n3_:=a0_ (hbox);have n4_:=a0_ ((by rw [hg];exact (below_size hb_) : w.heap.size ≤ gb4));have n5_:=a0_ ((by rw [hg];exact (below_size hb_) : w.heap.size ≤ gb4));have n6_:=a0_ ((by rw [hg];exact Nat.ne_of_lt (blk_lt (bb_ BK1.out)) : gb1 ≠ gb4));have n7_:=a0_ ((by rw [hg];exact Nat.ne_of_gt (blk_lt (bb_ BK1.out)) : gb4 ≠ gb1));have n8_:=a0_ ((by rw [hg];exact Nat.ne_of_lt (blk_lt (bb_ BK2.out)) : gb2 ≠ gb4));have n9_:=a0_ ((by rw [hg];exact Nat.ne_of_gt (blk_lt (bb_ BK2.out)) : gb4 ≠ gb2));clear BK1 BK2 HB;have BK1:=n0_;have BK2:=n1_;have HB:=n2_;have BK4:=n3_;have GW4:=n4_;have GE4:=n5_;have NB1_4:=n6_;have NB4_1:=n7_;have NB2_4:=n8_;have NB4_2:=n9_;clear n0_ n1_ n2_ n3_ n4_ n5_ n6_ n7_ n8_ n9_;clear hb hbox hg;have hnb16:=NB4_1.out;have hnc16:=NB1_4.out;have hnb17:=NB4_2.out;have hnc17:=NB2_4.out;have hcz18_0 : w15.cell? ⟨gb4,0,none⟩ = some (.int .i64 0):=(blk_cell BK4.out 0).trans rfl;have hcz18_1 : w15.cell? ⟨gb4,1,none⟩ = some (.int .i64 0):=(blk_cell BK4.out 1).trans rfl;have hcz18_2 : w15.cell? ⟨gb4,2,none⟩ = some (.int .i64 0):=(blk_cell BK4.out 2).trans rfl;have hcz18_3 : w15.cell? ⟨gb4,3,none⟩ = some (.int .i64 0):=(blk_cell BK4.out 3).trans rfl;have hcz18_4 : w15.cell? ⟨gb4,4,none⟩ = some (.bool false):=(blk_cell BK4.out 4).trans rfl;have hfz18_0:=blk_frozen BK4.out 0;have hfz18_1:=blk_frozen BK4.out 1;have hfz18_2:=blk_frozen BK4.out 2;have hfz18_3:=blk_frozen BK4.out 3;have hfz18_4:=blk_frozen BK4.out 4;have hcz19_0 : w15.cell? ⟨gb1,0,none⟩ = some (.slice A0_0 l0_0.length c0_0):=(blk_cell BK1.out 0).trans rfl;have hfz19_0:=blk_frozen BK1.out 0) | (go_at_call 88;(with_reducible refine (spec_hasClass.calls _ _ l0_0 ((rd_T79 l1_0 x5_1).f0) true _ ?side1 ?side2 A7.out).mono ?_);(case side1=>exact Kd.C_below HR0_0.out hb_);(case side2=>exact HC0_0.out);rintro e w20 ⟨rfl,hb⟩;replace BK1:=a0_ (blk_below (g:=gb1) (o:=.cells #[.slice A0_0 l0_0.length c0_0] 33 (0,0)) (bff_ BK1.out) hb);replace BK2:=a0_ (blk_below (g:=gb2) (o:=.cells #[.slice (some ad3) l1_0.length c1_0] 37 (0,0)) (bff_ BK2.out) hb);replace BK4:=a0_ (blk_below (g:=gb4) (o:=.cells #[.int .i64 ((rd_T79 l1_0 x5_1).f0),.int .i64 ((rd_T79 l1_0 x5_1).f1),.int .i64 ((rd_T79 l1_0 x5_1).f2),.int .i64 ((rd_T79 l1_0 x5_1).f3),.bool ((rd_T79 l1_0 x5_1).f4)] 79 (0,0)) (by (with_reducible repeat (first | refine blk_drewN ?_ _ | refine blk_drew ?_ | refine blk_alloc ?_ _));refine blk_put (cs:=#[.int .i64 ((rd_T79 l1_0 x5_1).f0),.int .i64 ((rd_T79 l1_0 x5_1).f1),.int .i64 ((rd_T79 l1_0 x5_1).f2),.int .i64 ((rd_T79 l1_0 x5_1).f3),.bool false]) ?_ 4 _ rfl;(with_reducible repeat (first | refine blk_drewN ?_ _ | refine blk_drew ?_ | refine blk_alloc ?_ _));refine blk_put (cs:=#[.int .i64 ((rd_T79 l1_0 x5_1).f0),.int .i64 ((rd_T79 l1_0 x5_1).f1),.int .i64 ((rd_T79 l1_0 x5_1).f2),.int .i64 0,.bool false]) ?_ 3 _ rfl;(with_reducible repeat (first | refine blk_drewN ?_ _ | refine blk_drew ?_ | refine blk_alloc ?_ _));refine blk_put (cs:=#[.int .i64 ((rd_T79 l1_0 x5_1).f0),.int .i64 ((rd_T79 l1_0 x5_1).f1),.int .i64 0,.int .i64 0,.bool false]) ?_ 2 _ rfl;(with_reducible repeat (first | refine blk_drewN ?_ _ | refine blk_drew ?_ | refine blk_alloc ?_ _));refine blk_put (cs:=#[.int .i64 ((rd_T79 l1_0 x5_1).f0),.int .i64 0,.int .i64 0,.int .i64 0,.bool false]) ?_ 1 _ rfl;(with_reducible repeat (first | refine blk_drewN ?_ _ | refine blk_drew ?_ | refine blk_alloc ?_ _));refine blk_put (cs:=#[.int .i64 0,.int .i64 0,.int .i64 0,.int .i64 0,.bool false]) ?_ 0 _ rfl;(with_reducible repeat (first | refine blk_drewN ?_ _ | refine blk_drew ?_ | refine blk_alloc ?_ _));exact BK4.out) hb);replace HB:=a0_ (below_step hb_ hb);(try clear hb);have hcz21_0 : w20.cell? ⟨gb4,0,none⟩ = some (.int .i64 ((rd_T79 l1_0 x5_1).f0)):=(blk_cell BK4.out 0).trans rfl;have hcz21_1 : w20.cell? ⟨gb4,1,none⟩ = some (.int .i64 ((rd_T79 l1_0 x5_1).f1)):=(blk_cell BK4.out 1).trans rfl;have hcz21_2 : w20.cell? ⟨gb4,2,none⟩ = some (.int .i64 ((rd_T79 l1_0 x5_1).f2)):=(blk_cell BK4.out 2).trans rfl;have hcz21_3 : w20.cell? ⟨gb4,3,none⟩ = some (.int .i64 ((rd_T79 l1_0 x5_1).f3)):=(blk_cell BK4.out 3).trans rfl;have hcz21_4 : w20.cell? ⟨gb4,4,none⟩ = some (.bool ((rd_T79 l1_0 x5_1).f4)):=(blk_cell BK4.out 4).trans rfl;have hfz21_0:=blk_frozen BK4.out 0;have hfz21_1:=blk_frozen BK4.out 1;have hfz21_2:=blk_frozen BK4.out 2;have hfz21_3:=blk_frozen BK4.out 3;have hfz21_4:=blk_frozen BK4.out 4) | (go_at_call 89;(with_reducible refine (spec_inRange.calls ((rd_T79 l1_0 x5_1).f1) 0 99 true _ A9.out).mono ?_);rintro e w' ⟨rfl,⟨nd,rfl⟩⟩;(try first | exact ⟨rfl,_,World.drewN_drewN _ _ _⟩ | exact ⟨rfl,_,Eq.trans (World.drewN_drewN _ _ _) (congrArg (World.drewN _) (Nat.add_assoc _ _ _))⟩);have hcz22_0 : w20.cell? ⟨gb2,0,none⟩ = some (.slice (some ad3) l1_0.length c1_0):=(blk_cell BK2.out 0).trans rfl;have hfz22_0:=blk_frozen BK2.out 0) | (go_at_call 90;(with_reducible refine (spec_validLinks.calls _ _ l1_0 x5_1 true _ ?side1 ?side2 A11.out).mono ?_);(case side1=>repeat (first | exact (Kd.C_below HR1_0.out hb_) | (with_reducible refine Kd.C_alloc ?_ _) | (with_reducible refine Kd.C_drewN ?_ _) | (with_reducible refine Kd.C_drew ?_)));(case side2=>exact HC1_0.out);rintro e w23 ⟨rfl,hb⟩;replace BK1:=kb_ BK1 hb;replace BK2:=kb_ BK2 hb;replace BK4:=kb_ BK4 hb;replace HB:=a0_ (below_step hb_ hb);(try clear hb);(try clear hb2);(try clear hk);(try clear hi))))
        go_roundg k1
        case measure=>have:=HK1.out;omega
        case rel=>exact ⟨(wrap64 (x5_1 + 1)),(by first | rfl | (simp;done) | (simp [*];done)),H',⟨by have:=HK1.out;omega⟩,⟨by (with_reducible repeat (first | refine blk_drewN ?_ _ | refine blk_drew ?_ | refine blk_alloc ?_ _));exact BK1.out⟩,⟨by (with_reducible repeat (first | refine blk_drewN ?_ _ | refine blk_drew ?_ | refine blk_alloc ?_ _));exact BK2.out⟩,⟨hb_⟩⟩
       ·replace c12:=Bool.eq_false_iff.mpr c12
        subst c12
        have H1 : (some false) = some r:=by rw [if_neg (show ¬ (false = true) by decide)] at H;exact H
        clear H
        have H:=H1
        clear H1
        obtain rfl:=Option.some.inj H
        have hnb24:=NB2_1.out
        have hnc24:=NB1_2.out
        have hcz25_0 : wr.cell? ⟨gb2,0,none⟩ = some (.slice A1_0 l1_0.length c1_0):=(blk_cell BK2.out 0).trans rfl
        have hfz25_0:=blk_frozen BK2.out 0
        have p3 : 0 ≤ (x5_1 : Int):=of_decide_eq_true (by first | (with_reducible assumption) | assumption)
        have q3 : x5_1 < (l1_0.length : Int):=of_decide_eq_true (by first | (with_reducible assumption) | assumption)
        obtain ⟨ad3,e3,hx3_0,hx3_1,hx3_2,hx3_3,hx3_4⟩:=at_T79 HR1_0.out x5_1 p3 q3
        cases e3
        replace hx3_0:=(HB.out.cell (World.block_lt_of_cell? w _ hx3_0)).trans hx3_0
        replace hx3_1:=(HB.out.cell (World.block_lt_of_cell? w _ hx3_1)).trans hx3_1
        replace hx3_2:=(HB.out.cell (World.block_lt_of_cell? w _ hx3_2)).trans hx3_2
        replace hx3_3:=(HB.out.cell (World.block_lt_of_cell? w _ hx3_3)).trans hx3_3
        replace hx3_4:=(HB.out.cell (World.block_lt_of_cell? w _ hx3_4)).trans hx3_4
        replace p3:=eq_true p3
        replace q3:=eq_true q3
        go_wp2_with (first | ((with_reducible refine gate_dst (N:=6) rfl ?_);(try (refine gate_guard (by rfl) ?_;dsimp only));refine box_event ?hg (N:=6) ?hd (cs:=#[.int .i64 0,.int .i64 0,.int .i64 0,.int .i64 0,.bool false]) (t:=79) ?hr ?_;(case hd=>rfl);(case hg=>rfl);(case hr=>first | (go_simp;done) | (go_simp;rfl));intro gb4 hg w26 hbox hb;have n0_:=kb_ BK1 hb;have n1_:=kb_ BK2 hb;have n2_:=a0_ (below_step hb_ hb);have n3_:=a0_ (hbox);have n4_:=a0_ ((by rw [hg];exact (below_size hb_) : w.heap.size ≤ gb4));have n5_:=a0_ ((by rw [hg];exact (below_size hb_) : w.heap.size ≤ gb4));have n6_:=a0_ ((by rw [hg];exact Nat.ne_of_lt (blk_lt (bb_ BK1.out)) : gb1 ≠ gb4));have n7_:=a0_ ((by rw [hg];exact Nat.ne_of_gt (blk_lt (bb_ BK1.out)) : gb4 ≠ gb1));have n8_:=a0_ ((by rw [hg];exact Nat.ne_of_lt (blk_lt (bb_ BK2.out)) : gb2 ≠ gb4));have n9_:=a0_ ((by rw [hg];exact Nat.ne_of_gt (blk_lt (bb_ BK2.out)) : gb4 ≠ gb2));clear BK1 BK2 HB;have BK1:=n0_;have BK2:=n1_;have HB:=n2_;have BK4:=n3_;have GW4:=n4_;have GE4:=n5_;have NB1_4:=n6_;have NB4_1:=n7_;have NB2_4:=n8_;have NB4_2:=n9_;clear n0_ n1_ n2_ n3_ n4_ n5_ n6_ n7_ n8_ n9_;clear hb hbox hg;have hnb27:=NB4_1.out;have hnc27:=NB1_4.out;have hnb28:=NB4_2.out;have hnc28:=NB2_4.out;have hcz29_0 : w26.cell? ⟨gb4,0,none⟩ = some (.int .i64 0):=(blk_cell BK4.out 0).trans rfl;have hcz29_1 : w26.cell? ⟨gb4,1,none⟩ = some (.int .i64 0):=(blk_cell BK4.out 1).trans rfl;have hcz29_2 : w26.cell? ⟨gb4,2,none⟩ = some (.int .i64 0):=(blk_cell BK4.out 2).trans rfl;have hcz29_3 : w26.cell? ⟨gb4,3,none⟩ = some (.int .i64 0):=(blk_cell BK4.out 3).trans rfl;have hcz29_4 : w26.cell? ⟨gb4,4,none⟩ = some (.bool false):=(blk_cell BK4.out 4).trans rfl;have hfz29_0:=blk_frozen BK4.out 0;have hfz29_1:=blk_frozen BK4.out 1;have hfz29_2:=blk_frozen BK4.out 2;have hfz29_3:=blk_frozen BK4.out 3;have hfz29_4:=blk_frozen BK4.out 4;have hcz30_0 : w26.cell? ⟨gb1,0,none⟩ = some (.slice A0_0 l0_0.length c0_0):=(blk_cell BK1.out 0).trans rfl;have hfz30_0:=blk_frozen BK1.out 0) | (go_at_call 88;(with_reducible refine (spec_hasClass.calls _ _ l0_0 ((rd_T79 l1_0 x5_1).f0) true _ ?side1 ?side2 A7.out).mono ?_);(case side1=>exact Kd.C_below HR0_0.out hb_);(case side2=>exact HC0_0.out);rintro e w31 ⟨rfl,hb⟩;replace BK1:=a0_ (blk_below (g:=gb1) (o:=.cells #[.slice A0_0 l0_0.length c0_0] 33 (0,0)) (bff_ BK1.out) hb);replace BK2:=a0_ (blk_below (g:=gb2) (o:=.cells #[.slice (some ad3) l1_0.length c1_0] 37 (0,0)) (bff_ BK2.out) hb);replace BK4:=a0_ (blk_below (g:=gb4) (o:=.cells #[.int .i64 ((rd_T79 l1_0 x5_1).f0),.int .i64 ((rd_T79 l1_0 x5_1).f1),.int .i64 ((rd_T79 l1_0 x5_1).f2),.int .i64 ((rd_T79 l1_0 x5_1).f3),.bool ((rd_T79 l1_0 x5_1).f4)] 79 (0,0)) (by (with_reducible repeat (first | refine blk_drewN ?_ _ | refine blk_drew ?_ | refine blk_alloc ?_ _));refine blk_put (cs:=#[.int .i64 ((rd_T79 l1_0 x5_1).f0),.int .i64 ((rd_T79 l1_0 x5_1).f1),.int .i64 ((rd_T79 l1_0 x5_1).f2),.int .i64 ((rd_T79 l1_0 x5_1).f3),.bool false]) ?_ 4 _ rfl;(with_reducible repeat (first | refine blk_drewN ?_ _ | refine blk_drew ?_ | refine blk_alloc ?_ _));refine blk_put (cs:=#[.int .i64 ((rd_T79 l1_0 x5_1).f0),.int .i64 ((rd_T79 l1_0 x5_1).f1),.int .i64 ((rd_T79 l1_0 x5_1).f2),.int .i64 0,.bool false]) ?_ 3 _ rfl;(with_reducible repeat (first | refine blk_drewN ?_ _ | refine blk_drew ?_ | refine blk_alloc ?_ _));refine blk_put (cs:=#[.int .i64 ((rd_T79 l1_0 x5_1).f0),.int .i64 ((rd_T79 l1_0 x5_1).f1),.int .i64 0,.int .i64 0,.bool false]) ?_ 2 _ rfl;(with_reducible repeat (first | refine blk_drewN ?_ _ | refine blk_drew ?_ | refine blk_alloc ?_ _));refine blk_put (cs:=#[.int .i64 ((rd_T79 l1_0 x5_1).f0),.int .i64 0,.int .i64 0,.int .i64 0,.bool false]) ?_ 1 _ rfl;(with_reducible repeat (first | refine blk_drewN ?_ _ | refine blk_drew ?_ | refine blk_alloc ?_ _));refine blk_put (cs:=#[.int .i64 0,.int .i64 0,.int .i64 0,.int .i64 0,.bool false]) ?_ 0 _ rfl;(with_reducible repeat (first | refine blk_drewN ?_ _ | refine blk_drew ?_ | refine blk_alloc ?_ _));exact BK4.out) hb);replace HB:=a0_ (below_step hb_ hb);(try clear hb);have hcz32_0 : w31.cell? ⟨gb4,0,none⟩ = some (.int .i64 ((rd_T79 l1_0 x5_1).f0)):=(blk_cell BK4.out 0).trans rfl;have hcz32_1 : w31.cell? ⟨gb4,1,none⟩ = some (.int .i64 ((rd_T79 l1_0 x5_1).f1)):=(blk_cell BK4.out 1).trans rfl;have hcz32_2 : w31.cell? ⟨gb4,2,none⟩ = some (.int .i64 ((rd_T79 l1_0 x5_1).f2)):=(blk_cell BK4.out 2).trans rfl;have hcz32_3 : w31.cell? ⟨gb4,3,none⟩ = some (.int .i64 ((rd_T79 l1_0 x5_1).f3)):=(blk_cell BK4.out 3).trans rfl;have hcz32_4 : w31.cell? ⟨gb4,4,none⟩ = some (.bool ((rd_T79 l1_0 x5_1).f4)):=(blk_cell BK4.out 4).trans rfl;have hfz32_0:=blk_frozen BK4.out 0;have hfz32_1:=blk_frozen BK4.out 1;have hfz32_2:=blk_frozen BK4.out 2;have hfz32_3:=blk_frozen BK4.out 3;have hfz32_4:=blk_frozen BK4.out 4) | (go_at_call 89;(with_reducible refine (spec_inRange.calls ((rd_T79 l1_0 x5_1).f1) 0 99 true _ A9.out).mono ?_);rintro e w' ⟨rfl,⟨nd,rfl⟩⟩;(try first | exact ⟨rfl,_,World.drewN_drewN _ _ _⟩ | exact ⟨rfl,_,Eq.trans (World.drewN_drewN _ _ _) (congrArg (World.drewN _) (Nat.add_assoc _ _ _))⟩);have hcz33_0 : w31.cell? ⟨gb2,0,none⟩ = some (.slice (some ad3) l1_0.length c1_0):=(blk_cell BK2.out 0).trans rfl;have hfz33_0:=blk_frozen BK2.out 0) | (go_at_call 90;(with_reducible refine (spec_validLinks.calls _ _ l1_0 x5_1 false _ ?side1 ?side2 A11.out).mono ?_);(case side1=>repeat (first | exact (Kd.C_below HR1_0.out hb_) | (with_reducible refine Kd.C_alloc ?_ _) | (with_reducible refine Kd.C_drewN ?_ _) | (with_reducible refine Kd.C_drew ?_)));(case side2=>exact HC1_0.out);rintro e w34 ⟨rfl,hb⟩;replace BK1:=kb_ BK1 hb;replace BK2:=kb_ BK2 hb;replace BK4:=kb_ BK4 hb;replace HB:=a0_ (below_step hb_ hb);(try clear hb);(try clear hb2);(try clear hk);(try clear hi)))
        repeat (go_quiet (first | ((with_reducible refine gate_dst (N:=6) rfl ?_);(try (refine gate_guard (by rfl) ?_;dsimp only));refine box_event ?hg (N:=6) ?hd (cs:=#[.int .i64 0,.int .i64 0,.int .i64 0,.int .i64 0,.bool false]) (t:=79) ?hr ?_;(case hd=>rfl);(case hg=>rfl);(case hr=>first | (go_simp;done) | (go_simp;rfl));intro gb4 hg w26 hbox hb;have n0_:=kb_ BK1 hb;have n1_:=kb_ BK2 hb;have n2_:=a0_ (below_step hb_ hb);have n3_:=a0_ (hbox);have n4_:=a0_ ((by rw [hg];exact (below_size hb_) : w.heap.size ≤ gb4));have n5_:=a0_ ((by rw [hg];exact (below_size hb_) : w.heap.size ≤ gb4));have n6_:=a0_ ((by rw [hg];exact Nat.ne_of_lt (blk_lt (bb_ BK1.out)) : gb1 ≠ gb4));have n7_:=a0_ ((by rw [hg];exact Nat.ne_of_gt (blk_lt (bb_ BK1.out)) : gb4 ≠ gb1));have n8_:=a0_ ((by rw [hg];exact Nat.ne_of_lt (blk_lt (bb_ BK2.out)) : gb2 ≠ gb4));have n9_:=a0_ ((by rw [hg];exact Nat.ne_of_gt (blk_lt (bb_ BK2.out)) : gb4 ≠ gb2));clear BK1 BK2 HB;have BK1:=n0_;have BK2:=n1_;have HB:=n2_;have BK4:=n3_;have GW4:=n4_;have GE4:=n5_;have NB1_4:=n6_;have NB4_1:=n7_;have NB2_4:=n8_;have NB4_2:=n9_;clear n0_ n1_ n2_ n3_ n4_ n5_ n6_ n7_ n8_ n9_;clear hb hbox hg;have hnb27:=NB4_1.out;have hnc27:=NB1_4.out;have hnb28:=NB4_2.out;have hnc28:=NB2_4.out;have hcz29_0 : w26.cell? ⟨gb4,0,none⟩ = some (.int .i64 0):=(blk_cell BK4.out 0).trans rfl;have hcz29_1 : w26.cell? ⟨gb4,1,none⟩ = some (.int .i64 0):=(blk_cell BK4.out 1).trans rfl;have hcz29_2 : w26.cell? ⟨gb4,2,none⟩ = some (.int .i64 0):=(blk_cell BK4.out 2).trans rfl;have hcz29_3 : w26.cell? ⟨gb4,3,none⟩ = some (.int .i64 0):=(blk_cell BK4.out 3).trans rfl;have hcz29_4 : w26.cell? ⟨gb4,4,none⟩ = some (.bool false):=(blk_cell BK4.out 4).trans rfl;have hfz29_0:=blk_frozen BK4.out 0;have hfz29_1:=blk_frozen BK4.out 1;have hfz29_2:=blk_frozen BK4.out 2;have hfz29_3:=blk_frozen BK4.out 3;have hfz29_4:=blk_frozen BK4.out 4;have hcz30_0 : w26.cell? ⟨gb1,0,none⟩ = some (.slice A0_0 l0_0.length c0_0):=(blk_cell BK1.out 0).trans rfl;have hfz30_0:=blk_frozen BK1.out 0) | (go_at_call 88;(with_reducible refine (spec_hasClass.calls _ _ l0_0 ((rd_T79 l1_0 x5_1).f0) true _ ?side1 ?side2 A7.out).mono ?_);(case side1=>exact Kd.C_below HR0_0.out hb_);(case side2=>exact HC0_0.out);rintro e w31 ⟨rfl,hb⟩;replace BK1:=a0_ (blk_below (g:=gb1) (o:=.cells #[.slice A0_0 l0_0.length c0_0] 33 (0,0)) (bff_ BK1.out) hb);replace BK2:=a0_ (blk_below (g:=gb2) (o:=.cells #[.slice (some ad3) l1_0.length c1_0] 37 (0,0)) (bff_ BK2.out) hb);replace BK4:=a0_ (blk_below (g:=gb4) (o:=.cells #[.int .i64 ((rd_T79 l1_0 x5_1).f0),.int .i64 ((rd_T79 l1_0 x5_1).f1),.int .i64 ((rd_T79 l1_0 x5_1).f2),.int .i64 ((rd_T79 l1_0 x5_1).f3),.bool ((rd_T79 l1_0 x5_1).f4)] 79 (0,0)) (by (with_reducible repeat (first | refine blk_drewN ?_ _ | refine blk_drew ?_ | refine blk_alloc ?_ _));refine blk_put (cs:=#[.int .i64 ((rd_T79 l1_0 x5_1).f0),.int .i64 ((rd_T79 l1_0 x5_1).f1),.int .i64 ((rd_T79 l1_0 x5_1).f2),.int .i64 ((rd_T79 l1_0 x5_1).f3),.bool false]) ?_ 4 _ rfl;(with_reducible repeat (first | refine blk_drewN ?_ _ | refine blk_drew ?_ | refine blk_alloc ?_ _));refine blk_put (cs:=#[.int .i64 ((rd_T79 l1_0 x5_1).f0),.int .i64 ((rd_T79 l1_0 x5_1).f1),.int .i64 ((rd_T79 l1_0 x5_1).f2),.int .i64 0,.bool false]) ?_ 3 _ rfl;(with_reducible repeat (first | refine blk_drewN ?_ _ | refine blk_drew ?_ | refine blk_alloc ?_ _));refine blk_put (cs:=#[.int .i64 ((rd_T79 l1_0 x5_1).f0),.int .i64 ((rd_T79 l1_0 x5_1).f1),.int .i64 0,.int .i64 0,.bool false]) ?_ 2 _ rfl;(with_reducible repeat (first | refine blk_drewN ?_ _ | refine blk_drew ?_ | refine blk_alloc ?_ _));refine blk_put (cs:=#[.int .i64 ((rd_T79 l1_0 x5_1).f0),.int .i64 0,.int .i64 0,.int .i64 0,.bool false]) ?_ 1 _ rfl;(with_reducible repeat (first | refine blk_drewN ?_ _ | refine blk_drew ?_ | refine blk_alloc ?_ _));refine blk_put (cs:=#[.int .i64 0,.int .i64 0,.int .i64 0,.int .i64 0,.bool false]) ?_ 0 _ rfl;(with_reducible repeat (first | refine blk_drewN ?_ _ | refine blk_drew ?_ | refine blk_alloc ?_ _));exact BK4.out) hb);replace HB:=a0_ (below_step hb_ hb);(try clear hb);have hcz32_0 : w31.cell? ⟨gb4,0,none⟩ = some (.int .i64 ((rd_T79 l1_0 x5_1).f0)):=(blk_cell BK4.out 0).trans rfl;have hcz32_1 : w31.cell? ⟨gb4,1,none⟩ = some (.int .i64 ((rd_T79 l1_0 x5_1).f1)):=(blk_cell BK4.out 1).trans rfl;have hcz32_2 : w31.cell? ⟨gb4,2,none⟩ = some (.int .i64 ((rd_T79 l1_0 x5_1).f2)):=(blk_cell BK4.out 2).trans rfl;have hcz32_3 : w31.cell? ⟨gb4,3,none⟩ = some (.int .i64 ((rd_T79 l1_0 x5_1).f3)):=(blk_cell BK4.out 3).trans rfl;have hcz32_4 : w31.cell? ⟨gb4,4,none⟩ = some (.bool ((rd_T79 l1_0 x5_1).f4)):=(blk_cell BK4.out 4).trans rfl;have hfz32_0:=blk_frozen BK4.out 0;have hfz32_1:=blk_frozen BK4.out 1;have hfz32_2:=blk_frozen BK4.out 2;have hfz32_3:=blk_frozen BK4.out 3;have hfz32_4:=blk_frozen BK4.out 4) | (go_at_call 89;(with_reducible refine (spec_inRange.calls ((rd_T79 l1_0 x5_1).f1) 0 99 true _ A9.out).mono ?_);rintro e w' ⟨rfl,⟨nd,rfl⟩⟩;(try first | exact ⟨rfl,_,World.drewN_drewN _ _ _⟩ | exact ⟨rfl,_,Eq.trans (World.drewN_drewN _ _ _) (congrArg (World.drewN _) (Nat.add_assoc _ _ _))⟩);have hcz33_0 : w31.cell? ⟨gb2,0,none⟩ = some (.slice (some ad3) l1_0.length c1_0):=(blk_cell BK2.out 0).trans rfl;have hfz33_0:=blk_frozen BK2.out 0) | (go_at_call 90;(with_reducible refine (spec_validLinks.calls _ _ l1_0 x5_1 false _ ?side1 ?side2 A11.out).mono ?_);(case side1=>repeat (first | exact (Kd.C_below HR1_0.out hb_) | (with_reducible refine Kd.C_alloc ?_ _) | (with_reducible refine Kd.C_drewN ?_ _) | (with_reducible refine Kd.C_drew ?_)));(case side2=>exact HC1_0.out);rintro e w34 ⟨rfl,hb⟩;replace BK1:=kb_ BK1 hb;replace BK2:=kb_ BK2 hb;replace BK4:=kb_ BK4 hb;replace HB:=a0_ (below_step hb_ hb);(try clear hb);(try clear hb2);(try clear hk);(try clear hi)));try go_wp2_with (first | ((with_reducible refine gate_dst (N:=6) rfl ?_);(try (refine gate_guard (by rfl) ?_;dsimp only));refine box_event ?hg (N:=6) ?hd (cs:=#[.int .i64 0,.int .i64 0,.int .i64 0,.int .i64 0,.bool false]) (t:=79) ?hr ?_;(case hd=>rfl);(case hg=>rfl);(case hr=>first | (go_simp;done) | (go_simp;rfl));intro gb4 hg w26 hbox hb;have n0_:=kb_ BK1 hb;have n1_:=kb_ BK2 hb;have n2_:=a0_ (below_step hb_ hb);have n3_:=a0_ (hbox);have n4_:=a0_ ((by rw [hg];exact (below_size hb_) : w.heap.size ≤ gb4));have n5_:=a0_ ((by rw [hg];exact (below_size hb_) : w.heap.size ≤ gb4));have n6_:=a0_ ((by rw [hg];exact Nat.ne_of_lt (blk_lt (bb_ BK1.out)) : gb1 ≠ gb4));have n7_:=a0_ ((by rw [hg];exact Nat.ne_of_gt (blk_lt (bb_ BK1.out)) : gb4 ≠ gb1));have n8_:=a0_ ((by rw [hg];exact Nat.ne_of_lt (blk_lt (bb_ BK2.out)) : gb2 ≠ gb4));have n9_:=a0_ ((by rw [hg];exact Nat.ne_of_gt (blk_lt (bb_ BK2.out)) : gb4 ≠ gb2));clear BK1 BK2 HB;have BK1:=n0_;have BK2:=n1_;have HB:=n2_;have BK4:=n3_;have GW4:=n4_;have GE4:=n5_;have NB1_4:=n6_;have NB4_1:=n7_;have NB2_4:=n8_;have NB4_2:=n9_;clear n0_ n1_ n2_ n3_ n4_ n5_ n6_ n7_ n8_ n9_;clear hb hbox hg;have hnb27:=NB4_1.out;have hnc27:=NB1_4.out;have hnb28:=NB4_2.out;have hnc28:=NB2_4.out;have hcz29_0 : w26.cell? ⟨gb4,0,none⟩ = some (.int .i64 0):=(blk_cell BK4.out 0).trans rfl;have hcz29_1 : w26.cell? ⟨gb4,1,none⟩ = some (.int .i64 0):=(blk_cell BK4.out 1).trans rfl;have hcz29_2 : w26.cell? ⟨gb4,2,none⟩ = some (.int .i64 0):=(blk_cell BK4.out 2).trans rfl;have hcz29_3 : w26.cell? ⟨gb4,3,none⟩ = some (.int .i64 0):=(blk_cell BK4.out 3).trans rfl;have hcz29_4 : w26.cell? ⟨gb4,4,none⟩ = some (.bool false):=(blk_cell BK4.out 4).trans rfl;have hfz29_0:=blk_frozen BK4.out 0;have hfz29_1:=blk_frozen BK4.out 1;have hfz29_2:=blk_frozen BK4.out 2;have hfz29_3:=blk_frozen BK4.out 3;have hfz29_4:=blk_frozen BK4.out 4;have hcz30_0 : w26.cell? ⟨gb1,0,none⟩ = some (.slice A0_0 l0_0.length c0_0):=(blk_cell BK1.out 0).trans rfl;have hfz30_0:=blk_frozen BK1.out 0) | (go_at_call 88;(with_reducible refine (spec_hasClass.calls _ _ l0_0 ((rd_T79 l1_0 x5_1).f0) true _ ?side1 ?side2 A7.out).mono ?_);(case side1=>exact Kd.C_below HR0_0.out hb_);(case side2=>exact HC0_0.out);rintro e w31 ⟨rfl,hb⟩;replace BK1:=a0_ (blk_below (g:=gb1) (o:=.cells #[.slice A0_0 l0_0.length c0_0] 33 (0,0)) (bff_ BK1.out) hb);replace BK2:=a0_ (blk_below (g:=gb2) (o:=.cells #[.slice (some ad3) l1_0.length c1_0] 37 (0,0)) (bff_ BK2.out) hb);replace BK4:=a0_ (blk_below (g:=gb4) (o:=.cells #[.int .i64 ((rd_T79 l1_0 x5_1).f0),.int .i64 ((rd_T79 l1_0 x5_1).f1),.int .i64 ((rd_T79 l1_0 x5_1).f2),.int .i64 ((rd_T79 l1_0 x5_1).f3),.bool ((rd_T79 l1_0 x5_1).f4)] 79 (0,0)) (by (with_reducible repeat (first | refine blk_drewN ?_ _ | refine blk_drew ?_ | refine blk_alloc ?_ _));refine blk_put (cs:=#[.int .i64 ((rd_T79 l1_0 x5_1).f0),.int .i64 ((rd_T79 l1_0 x5_1).f1),.int .i64 ((rd_T79 l1_0 x5_1).f2),.int .i64 ((rd_T79 l1_0 x5_1).f3),.bool false]) ?_ 4 _ rfl;(with_reducible repeat (first | refine blk_drewN ?_ _ | refine blk_drew ?_ | refine blk_alloc ?_ _));refine blk_put (cs:=#[.int .i64 ((rd_T79 l1_0 x5_1).f0),.int .i64 ((rd_T79 l1_0 x5_1).f1),.int .i64 ((rd_T79 l1_0 x5_1).f2),.int .i64 0,.bool false]) ?_ 3 _ rfl;(with_reducible repeat (first | refine blk_drewN ?_ _ | refine blk_drew ?_ | refine blk_alloc ?_ _));refine blk_put (cs:=#[.int .i64 ((rd_T79 l1_0 x5_1).f0),.int .i64 ((rd_T79 l1_0 x5_1).f1),.int .i64 0,.int .i64 0,.bool false]) ?_ 2 _ rfl;(with_reducible repeat (first | refine blk_drewN ?_ _ | refine blk_drew ?_ | refine blk_alloc ?_ _));refine blk_put (cs:=#[.int .i64 ((rd_T79 l1_0 x5_1).f0),.int .i64 0,.int .i64 0,.int .i64 0,.bool false]) ?_ 1 _ rfl;(with_reducible repeat (first | refine blk_drewN ?_ _ | refine blk_drew ?_ | refine blk_alloc ?_ _));refine blk_put (cs:=#[.int .i64 0,.int .i64 0,.int .i64 0,.int .i64 0,.bool false]) ?_ 0 _ rfl;(with_reducible repeat (first | refine blk_drewN ?_ _ | refine blk_drew ?_ | refine blk_alloc ?_ _));exact BK4.out) hb);replace HB:=a0_ (below_step hb_ hb);(try clear hb);have hcz32_0 : w31.cell? ⟨gb4,0,none⟩ = some (.int .i64 ((rd_T79 l1_0 x5_1).f0)):=(blk_cell BK4.out 0).trans rfl;have hcz32_1 : w31.cell? ⟨gb4,1,none⟩ = some (.int .i64 ((rd_T79 l1_0 x5_1).f1)):=(blk_cell BK4.out 1).trans rfl;have hcz32_2 : w31.cell? ⟨gb4,2,none⟩ = some (.int .i64 ((rd_T79 l1_0 x5_1).f2)):=(blk_cell BK4.out 2).trans rfl;have hcz32_3 : w31.cell? ⟨gb4,3,none⟩ = some (.int .i64 ((rd_T79 l1_0 x5_1).f3)):=(blk_cell BK4.out 3).trans rfl;have hcz32_4 : w31.cell? ⟨gb4,4,none⟩ = some (.bool ((rd_T79 l1_0 x5_1).f4)):=(blk_cell BK4.out 4).trans rfl;have hfz32_0:=blk_frozen BK4.out 0;have hfz32_1:=blk_frozen BK4.out 1;have hfz32_2:=blk_frozen BK4.out 2;have hfz32_3:=blk_frozen BK4.out 3;have hfz32_4:=blk_frozen BK4.out 4) | (go_at_call 89;(with_reducible refine (spec_inRange.calls ((rd_T79 l1_0 x5_1).f1) 0 99 true _ A9.out).mono ?_);rintro e w' ⟨rfl,⟨nd,rfl⟩⟩;(try first | exact ⟨rfl,_,World.drewN_drewN _ _ _⟩ | exact ⟨rfl,_,Eq.trans (World.drewN_drewN _ _ _) (congrArg (World.drewN _) (Nat.add_assoc _ _ _))⟩);have hcz33_0 : w31.cell? ⟨gb2,0,none⟩ = some (.slice (some ad3) l1_0.length c1_0):=(blk_cell BK2.out 0).trans rfl;have hfz33_0:=blk_frozen BK2.out 0) | (go_at_call 90;(with_reducible refine (spec_validLinks.calls _ _ l1_0 x5_1 false _ ?side1 ?side2 A11.out).mono ?_);(case side1=>repeat (first | exact (Kd.C_below HR1_0.out hb_) | (with_reducible refine Kd.C_alloc ?_ _) | (with_reducible refine Kd.C_drewN ?_ _) | (with_reducible refine Kd.C_drew ?_)));(case side2=>exact HC1_0.out);rintro e w34 ⟨rfl,hb⟩;replace BK1:=kb_ BK1 hb;replace BK2:=kb_ BK2 hb;replace BK4:=kb_ BK4 hb;replace HB:=a0_ (below_step hb_ hb);(try clear hb);(try clear hb2);(try clear hk);(try clear hi))))
        go_ret
        exact ⟨by first | rfl | (simp [errW_none,errW_some] <;> rfl) | (simp [*,errW_none,errW_some] <;> rfl),hb_⟩
      ·replace c10:=Bool.eq_false_iff.mpr c10
       subst c10
       have H1 : (some false) = some r:=by rw [if_neg (show ¬ (false = true) by decide)] at H;exact H
       clear H
       have H:=H1
       clear H1
       obtain rfl:=Option.some.inj H
       have hnb35:=NB2_1.out
       have hnc35:=NB1_2.out
       have hcz36_0 : wr.cell? ⟨gb2,0,none⟩ = some (.slice A1_0 l1_0.length c1_0):=(blk_cell BK2.out 0).trans rfl
       have hfz36_0:=blk_frozen BK2.out 0
       have p3 : 0 ≤ (x5_1 : Int):=of_decide_eq_true (by first | (with_reducible assumption) | assumption)
       have q3 : x5_1 < (l1_0.length : Int):=of_decide_eq_true (by first | (with_reducible assumption) | assumption)
       obtain ⟨ad3,e3,hx3_0,hx3_1,hx3_2,hx3_3,hx3_4⟩:=at_T79 HR1_0.out x5_1 p3 q3
       cases e3
       replace hx3_0:=(HB.out.cell (World.block_lt_of_cell? w _ hx3_0)).trans hx3_0
       replace hx3_1:=(HB.out.cell (World.block_lt_of_cell? w _ hx3_1)).trans hx3_1
       replace hx3_2:=(HB.out.cell (World.block_lt_of_cell? w _ hx3_2)).trans hx3_2
       replace hx3_3:=(HB.out.cell (World.block_lt_of_cell? w _ hx3_3)).trans hx3_3
       replace hx3_4:=(HB.out.cell (World.block_lt_of_cell? w _ hx3_4)).trans hx3_4
       replace p3:=eq_true p3
       replace q3:=eq_true q3
       go_wp2_with (first | ((with_reducible refine gate_dst (N:=6) rfl ?_);(try (refine gate_guard (by rfl) ?_;dsimp only));refine box_event ?hg (N:=6) ?hd (cs:=#[.int .i64 0,.int .i64 0,.int .i64 0,.int .i64 0,.bool false]) (t:=79) ?hr ?_;(case hd=>rfl);(case hg=>rfl);(case hr=>first | (go_simp;done) | (go_simp;rfl));intro gb4 hg w37 hbox hb;have n0_:=kb_ BK1 hb;have n1_:=kb_ BK2 hb;have n2_:=a0_ (below_step hb_ hb);have n3_:=a0_ (hbox);have n4_:=a0_ ((by rw [hg];exact (below_size hb_) : w.heap.size ≤ gb4));have n5_:=a0_ ((by rw [hg];exact (below_size hb_) : w.heap.size ≤ gb4));have n6_:=a0_ ((by rw [hg];exact Nat.ne_of_lt (blk_lt (bb_ BK1.out)) : gb1 ≠ gb4));have n7_:=a0_ ((by rw [hg];exact Nat.ne_of_gt (blk_lt (bb_ BK1.out)) : gb4 ≠ gb1));have n8_:=a0_ ((by rw [hg];exact Nat.ne_of_lt (blk_lt (bb_ BK2.out)) : gb2 ≠ gb4));have n9_:=a0_ ((by rw [hg];exact Nat.ne_of_gt (blk_lt (bb_ BK2.out)) : gb4 ≠ gb2));clear BK1 BK2 HB;have BK1:=n0_;have BK2:=n1_;have HB:=n2_;have BK4:=n3_;have GW4:=n4_;have GE4:=n5_;have NB1_4:=n6_;have NB4_1:=n7_;have NB2_4:=n8_;have NB4_2:=n9_;clear n0_ n1_ n2_ n3_ n4_ n5_ n6_ n7_ n8_ n9_;clear hb hbox hg;have hnb38:=NB4_1.out;have hnc38:=NB1_4.out;have hnb39:=NB4_2.out;have hnc39:=NB2_4.out;have hcz40_0 : w37.cell? ⟨gb4,0,none⟩ = some (.int .i64 0):=(blk_cell BK4.out 0).trans rfl;have hcz40_1 : w37.cell? ⟨gb4,1,none⟩ = some (.int .i64 0):=(blk_cell BK4.out 1).trans rfl;have hcz40_2 : w37.cell? ⟨gb4,2,none⟩ = some (.int .i64 0):=(blk_cell BK4.out 2).trans rfl;have hcz40_3 : w37.cell? ⟨gb4,3,none⟩ = some (.int .i64 0):=(blk_cell BK4.out 3).trans rfl;have hcz40_4 : w37.cell? ⟨gb4,4,none⟩ = some (.bool false):=(blk_cell BK4.out 4).trans rfl;have hfz40_0:=blk_frozen BK4.out 0;have hfz40_1:=blk_frozen BK4.out 1;have hfz40_2:=blk_frozen BK4.out 2;have hfz40_3:=blk_frozen BK4.out 3;have hfz40_4:=blk_frozen BK4.out 4;have hcz41_0 : w37.cell? ⟨gb1,0,none⟩ = some (.slice A0_0 l0_0.length c0_0):=(blk_cell BK1.out 0).trans rfl;have hfz41_0:=blk_frozen BK1.out 0) | (go_at_call 88;(with_reducible refine (spec_hasClass.calls _ _ l0_0 ((rd_T79 l1_0 x5_1).f0) true _ ?side1 ?side2 A7.out).mono ?_);(case side1=>exact Kd.C_below HR0_0.out hb_);(case side2=>exact HC0_0.out);rintro e w42 ⟨rfl,hb⟩;replace BK1:=a0_ (blk_below (g:=gb1) (o:=.cells #[.slice A0_0 l0_0.length c0_0] 33 (0,0)) (bff_ BK1.out) hb);replace BK2:=a0_ (blk_below (g:=gb2) (o:=.cells #[.slice (some ad3) l1_0.length c1_0] 37 (0,0)) (bff_ BK2.out) hb);replace BK4:=a0_ (blk_below (g:=gb4) (o:=.cells #[.int .i64 ((rd_T79 l1_0 x5_1).f0),.int .i64 ((rd_T79 l1_0 x5_1).f1),.int .i64 ((rd_T79 l1_0 x5_1).f2),.int .i64 ((rd_T79 l1_0 x5_1).f3),.bool ((rd_T79 l1_0 x5_1).f4)] 79 (0,0)) (by (with_reducible repeat (first | refine blk_drewN ?_ _ | refine blk_drew ?_ | refine blk_alloc ?_ _));refine blk_put (cs:=#[.int .i64 ((rd_T79 l1_0 x5_1).f0),.int .i64 ((rd_T79 l1_0 x5_1).f1),.int .i64 ((rd_T79 l1_0 x5_1).f2),.int .i64 ((rd_T79 l1_0 x5_1).f3),.bool false]) ?_ 4 _ rfl;(with_reducible repeat (first | refine blk_drewN ?_ _ | refine blk_drew ?_ | refine blk_alloc ?_ _));refine blk_put (cs:=#[.int .i64 ((rd_T79 l1_0 x5_1).f0),.int .i64 ((rd_T79 l1_0 x5_1).f1),.int .i64 ((rd_T79 l1_0 x5_1).f2),.int .i64 0,.bool false]) ?_ 3 _ rfl;(with_reducible repeat (first | refine blk_drewN ?_ _ | refine blk_drew ?_ | refine blk_alloc ?_ _));refine blk_put (cs:=#[.int .i64 ((rd_T79 l1_0 x5_1).f0),.int .i64 ((rd_T79 l1_0 x5_1).f1),.int .i64 0,.int .i64 0,.bool false]) ?_ 2 _ rfl;(with_reducible repeat (first | refine blk_drewN ?_ _ | refine blk_drew ?_ | refine blk_alloc ?_ _));refine blk_put (cs:=#[.int .i64 ((rd_T79 l1_0 x5_1).f0),.int .i64 0,.int .i64 0,.int .i64 0,.bool false]) ?_ 1 _ rfl;(with_reducible repeat (first | refine blk_drewN ?_ _ | refine blk_drew ?_ | refine blk_alloc ?_ _));refine blk_put (cs:=#[.int .i64 0,.int .i64 0,.int .i64 0,.int .i64 0,.bool false]) ?_ 0 _ rfl;(with_reducible repeat (first | refine blk_drewN ?_ _ | refine blk_drew ?_ | refine blk_alloc ?_ _));exact BK4.out) hb);replace HB:=a0_ (below_step hb_ hb);(try clear hb);have hcz43_0 : w42.cell? ⟨gb4,0,none⟩ = some (.int .i64 ((rd_T79 l1_0 x5_1).f0)):=(blk_cell BK4.out 0).trans rfl;have hcz43_1 : w42.cell? ⟨gb4,1,none⟩ = some (.int .i64 ((rd_T79 l1_0 x5_1).f1)):=(blk_cell BK4.out 1).trans rfl;have hcz43_2 : w42.cell? ⟨gb4,2,none⟩ = some (.int .i64 ((rd_T79 l1_0 x5_1).f2)):=(blk_cell BK4.out 2).trans rfl;have hcz43_3 : w42.cell? ⟨gb4,3,none⟩ = some (.int .i64 ((rd_T79 l1_0 x5_1).f3)):=(blk_cell BK4.out 3).trans rfl;have hcz43_4 : w42.cell? ⟨gb4,4,none⟩ = some (.bool ((rd_T79 l1_0 x5_1).f4)):=(blk_cell BK4.out 4).trans rfl;have hfz43_0:=blk_frozen BK4.out 0;have hfz43_1:=blk_frozen BK4.out 1;have hfz43_2:=blk_frozen BK4.out 2;have hfz43_3:=blk_frozen BK4.out 3;have hfz43_4:=blk_frozen BK4.out 4) | (go_at_call 89;(with_reducible refine (spec_inRange.calls ((rd_T79 l1_0 x5_1).f1) 0 99 false _ A9.out).mono ?_);rintro e w' ⟨rfl,⟨nd,rfl⟩⟩;(try first | exact ⟨rfl,_,World.drewN_drewN _ _ _⟩ | exact ⟨rfl,_,Eq.trans (World.drewN_drewN _ _ _) (congrArg (World.drewN _) (Nat.add_assoc _ _ _))⟩)))
       repeat (go_quiet (first | ((with_reducible refine gate_dst (N:=6) rfl ?_);(try (refine gate_guard (by rfl) ?_;dsimp only));refine box_event ?hg (N:=6) ?hd (cs:=#[.int .i64 0,.int .i64 0,.int .i64 0,.int .i64 0,.bool false]) (t:=79) ?hr ?_;(case hd=>rfl);(case hg=>rfl);(case hr=>first | (go_simp;done) | (go_simp;rfl));intro gb4 hg w37 hbox hb;have n0_:=kb_ BK1 hb;have n1_:=kb_ BK2 hb;have n2_:=a0_ (below_step hb_ hb);have n3_:=a0_ (hbox);have n4_:=a0_ ((by rw [hg];exact (below_size hb_) : w.heap.size ≤ gb4));have n5_:=a0_ ((by rw [hg];exact (below_size hb_) : w.heap.size ≤ gb4));have n6_:=a0_ ((by rw [hg];exact Nat.ne_of_lt (blk_lt (bb_ BK1.out)) : gb1 ≠ gb4));have n7_:=a0_ ((by rw [hg];exact Nat.ne_of_gt (blk_lt (bb_ BK1.out)) : gb4 ≠ gb1));have n8_:=a0_ ((by rw [hg];exact Nat.ne_of_lt (blk_lt (bb_ BK2.out)) : gb2 ≠ gb4));have n9_:=a0_ ((by rw [hg];exact Nat.ne_of_gt (blk_lt (bb_ BK2.out)) : gb4 ≠ gb2));clear BK1 BK2 HB;have BK1:=n0_;have BK2:=n1_;have HB:=n2_;have BK4:=n3_;have GW4:=n4_;have GE4:=n5_;have NB1_4:=n6_;have NB4_1:=n7_;have NB2_4:=n8_;have NB4_2:=n9_;clear n0_ n1_ n2_ n3_ n4_ n5_ n6_ n7_ n8_ n9_;clear hb hbox hg;have hnb38:=NB4_1.out;have hnc38:=NB1_4.out;have hnb39:=NB4_2.out;have hnc39:=NB2_4.out;have hcz40_0 : w37.cell? ⟨gb4,0,none⟩ = some (.int .i64 0):=(blk_cell BK4.out 0).trans rfl;have hcz40_1 : w37.cell? ⟨gb4,1,none⟩ = some (.int .i64 0):=(blk_cell BK4.out 1).trans rfl;have hcz40_2 : w37.cell? ⟨gb4,2,none⟩ = some (.int .i64 0):=(blk_cell BK4.out 2).trans rfl;have hcz40_3 : w37.cell? ⟨gb4,3,none⟩ = some (.int .i64 0):=(blk_cell BK4.out 3).trans rfl;have hcz40_4 : w37.cell? ⟨gb4,4,none⟩ = some (.bool false):=(blk_cell BK4.out 4).trans rfl;have hfz40_0:=blk_frozen BK4.out 0;have hfz40_1:=blk_frozen BK4.out 1;have hfz40_2:=blk_frozen BK4.out 2;have hfz40_3:=blk_frozen BK4.out 3;have hfz40_4:=blk_frozen BK4.out 4;have hcz41_0 : w37.cell? ⟨gb1,0,none⟩ = some (.slice A0_0 l0_0.length c0_0):=(blk_cell BK1.out 0).trans rfl;have hfz41_0:=blk_frozen BK1.out 0) | (go_at_call 88;(with_reducible refine (spec_hasClass.calls _ _ l0_0 ((rd_T79 l1_0 x5_1).f0) true _ ?side1 ?side2 A7.out).mono ?_);(case side1=>exact Kd.C_below HR0_0.out hb_);(case side2=>exact HC0_0.out);rintro e w42 ⟨rfl,hb⟩;replace BK1:=a0_ (blk_below (g:=gb1) (o:=.cells #[.slice A0_0 l0_0.length c0_0] 33 (0,0)) (bff_ BK1.out) hb);replace BK2:=a0_ (blk_below (g:=gb2) (o:=.cells #[.slice (some ad3) l1_0.length c1_0] 37 (0,0)) (bff_ BK2.out) hb);replace BK4:=a0_ (blk_below (g:=gb4) (o:=.cells #[.int .i64 ((rd_T79 l1_0 x5_1).f0),.int .i64 ((rd_T79 l1_0 x5_1).f1),.int .i64 ((rd_T79 l1_0 x5_1).f2),.int .i64 ((rd_T79 l1_0 x5_1).f3),.bool ((rd_T79 l1_0 x5_1).f4)] 79 (0,0)) (by (with_reducible repeat (first | refine blk_drewN ?_ _ | refine blk_drew ?_ | refine blk_alloc ?_ _));refine blk_put (cs:=#[.int .i64 ((rd_T79 l1_0 x5_1).f0),.int .i64 ((rd_T79 l1_0 x5_1).f1),.int .i64 ((rd_T79 l1_0 x5_1).f2),.int .i64 ((rd_T79 l1_0 x5_1).f3),.bool false]) ?_ 4 _ rfl;(with_reducible repeat (first | refine blk_drewN ?_ _ | refine blk_drew ?_ | refine blk_alloc ?_ _));refine blk_put (cs:=#[.int .i64 ((rd_T79 l1_0 x5_1).f0),.int .i64 ((rd_T79 l1_0 x5_1).f1),.int .i64 ((rd_T79 l1_0 x5_1).f2),.int .i64 0,.bool false]) ?_ 3 _ rfl;(with_reducible repeat (first | refine blk_drewN ?_ _ | refine blk_drew ?_ | refine blk_alloc ?_ _));refine blk_put (cs:=#[.int .i64 ((rd_T79 l1_0 x5_1).f0),.int .i64 ((rd_T79 l1_0 x5_1).f1),.int .i64 0,.int .i64 0,.bool false]) ?_ 2 _ rfl;(with_reducible repeat (first | refine blk_drewN ?_ _ | refine blk_drew ?_ | refine blk_alloc ?_ _));refine blk_put (cs:=#[.int .i64 ((rd_T79 l1_0 x5_1).f0),.int .i64 0,.int .i64 0,.int .i64 0,.bool false]) ?_ 1 _ rfl;(with_reducible repeat (first | refine blk_drewN ?_ _ | refine blk_drew ?_ | refine blk_alloc ?_ _));refine blk_put (cs:=#[.int .i64 0,.int .i64 0,.int .i64 0,.int .i64 0,.bool false]) ?_ 0 _ rfl;(with_reducible repeat (first | refine blk_drewN ?_ _ | refine blk_drew ?_ | refine blk_alloc ?_ _));exact BK4.out) hb);replace HB:=a0_ (below_step hb_ hb);(try clear hb);have hcz43_0 : w42.cell? ⟨gb4,0,none⟩ = some (.int .i64 ((rd_T79 l1_0 x5_1).f0)):=(blk_cell BK4.out 0).trans rfl;have hcz43_1 : w42.cell? ⟨gb4,1,none⟩ = some (.int .i64 ((rd_T79 l1_0 x5_1).f1)):=(blk_cell BK4.out 1).trans rfl;have hcz43_2 : w42.cell? ⟨gb4,2,none⟩ = some (.int .i64 ((rd_T79 l1_0 x5_1).f2)):=(blk_cell BK4.out 2).trans rfl;have hcz43_3 : w42.cell? ⟨gb4,3,none⟩ = some (.int .i64 ((rd_T79 l1_0 x5_1).f3)):=(blk_cell BK4.out 3).trans rfl;have hcz43_4 : w42.cell? ⟨gb4,4,none⟩ = some (.bool ((rd_T79 l1_0 x5_1).f4)):=(blk_cell BK4.out 4).trans rfl;have hfz43_0:=blk_frozen BK4.out 0;have hfz43_1:=blk_frozen BK4.out 1;have hfz43_2:=blk_frozen BK4.out 2;have hfz43_3:=blk_frozen BK4.out 3;have hfz43_4:=blk_frozen BK4.out 4) | (go_at_call 89;(with_reducible refine (spec_inRange.calls ((rd_T79 l1_0 x5_1).f1) 0 99 false _ A9.out).mono ?_);rintro e w' ⟨rfl,⟨nd,rfl⟩⟩;(try first | exact ⟨rfl,_,World.drewN_drewN _ _ _⟩ | exact ⟨rfl,_,Eq.trans (World.drewN_drewN _ _ _) (congrArg (World.drewN _) (Nat.add_assoc _ _ _))⟩)));try go_wp2_with (first | ((with_reducible refine gate_dst (N:=6) rfl ?_);(try (refine gate_guard (by rfl) ?_;dsimp only));refine box_event ?hg (N:=6) ?hd (cs:=#[.int .i64 0,.int .i64 0,.int .i64 0,.int .i64 0,.bool false]) (t:=79) ?hr ?_;(case hd=>rfl);(case hg=>rfl);(case hr=>first | (go_simp;done) | (go_simp;rfl));intro gb4 hg w37 hbox hb;have n0_:=kb_ BK1 hb;have n1_:=kb_ BK2 hb;have n2_:=a0_ (below_step hb_ hb);have n3_:=a0_ (hbox);have n4_:=a0_ ((by rw [hg];exact (below_size hb_) : w.heap.size ≤ gb4));have n5_:=a0_ ((by rw [hg];exact (below_size hb_) : w.heap.size ≤ gb4));have n6_:=a0_ ((by rw [hg];exact Nat.ne_of_lt (blk_lt (bb_ BK1.out)) : gb1 ≠ gb4));have n7_:=a0_ ((by rw [hg];exact Nat.ne_of_gt (blk_lt (bb_ BK1.out)) : gb4 ≠ gb1));have n8_:=a0_ ((by rw [hg];exact Nat.ne_of_lt (blk_lt (bb_ BK2.out)) : gb2 ≠ gb4));have n9_:=a0_ ((by rw [hg];exact Nat.ne_of_gt (blk_lt (bb_ BK2.out)) : gb4 ≠ gb2));clear BK1 BK2 HB;have BK1:=n0_;have BK2:=n1_;have HB:=n2_;have BK4:=n3_;have GW4:=n4_;have GE4:=n5_;have NB1_4:=n6_;have NB4_1:=n7_;have NB2_4:=n8_;have NB4_2:=n9_;clear n0_ n1_ n2_ n3_ n4_ n5_ n6_ n7_ n8_ n9_;clear hb hbox hg;have hnb38:=NB4_1.out;have hnc38:=NB1_4.out;have hnb39:=NB4_2.out;have hnc39:=NB2_4.out;have hcz40_0 : w37.cell? ⟨gb4,0,none⟩ = some (.int .i64 0):=(blk_cell BK4.out 0).trans rfl;have hcz40_1 : w37.cell? ⟨gb4,1,none⟩ = some (.int .i64 0):=(blk_cell BK4.out 1).trans rfl;have hcz40_2 : w37.cell? ⟨gb4,2,none⟩ = some (.int .i64 0):=(blk_cell BK4.out 2).trans rfl;have hcz40_3 : w37.cell? ⟨gb4,3,none⟩ = some (.int .i64 0):=(blk_cell BK4.out 3).trans rfl;have hcz40_4 : w37.cell? ⟨gb4,4,none⟩ = some (.bool false):=(blk_cell BK4.out 4).trans rfl;have hfz40_0:=blk_frozen BK4.out 0;have hfz40_1:=blk_frozen BK4.out 1;have hfz40_2:=blk_frozen BK4.out 2;have hfz40_3:=blk_frozen BK4.out 3;have hfz40_4:=blk_frozen BK4.out 4;have hcz41_0 : w37.cell? ⟨gb1,0,none⟩ = some (.slice A0_0 l0_0.length c0_0):=(blk_cell BK1.out 0).trans rfl;have hfz41_0:=blk_frozen BK1.out 0) | (go_at_call 88;(with_reducible refine (spec_hasClass.calls _ _ l0_0 ((rd_T79 l1_0 x5_1).f0) true _ ?side1 ?side2 A7.out).mono ?_);(case side1=>exact Kd.C_below HR0_0.out hb_);(case side2=>exact HC0_0.out);rintro e w42 ⟨rfl,hb⟩;replace BK1:=a0_ (blk_below (g:=gb1) (o:=.cells #[.slice A0_0 l0_0.length c0_0] 33 (0,0)) (bff_ BK1.out) hb);replace BK2:=a0_ (blk_below (g:=gb2) (o:=.cells #[.slice (some ad3) l1_0.length c1_0] 37 (0,0)) (bff_ BK2.out) hb);replace BK4:=a0_ (blk_below (g:=gb4) (o:=.cells #[.int .i64 ((rd_T79 l1_0 x5_1).f0),.int .i64 ((rd_T79 l1_0 x5_1).f1),.int .i64 ((rd_T79 l1_0 x5_1).f2),.int .i64 ((rd_T79 l1_0 x5_1).f3),.bool ((rd_T79 l1_0 x5_1).f4)] 79 (0,0)) (by (with_reducible repeat (first | refine blk_drewN ?_ _ | refine blk_drew ?_ | refine blk_alloc ?_ _));refine blk_put (cs:=#[.int .i64 ((rd_T79 l1_0 x5_1).f0),.int .i64 ((rd_T79 l1_0 x5_1).f1),.int .i64 ((rd_T79 l1_0 x5_1).f2),.int .i64 ((rd_T79 l1_0 x5_1).f3),.bool false]) ?_ 4 _ rfl;(with_reducible repeat (first | refine blk_drewN ?_ _ | refine blk_drew ?_ | refine blk_alloc ?_ _));refine blk_put (cs:=#[.int .i64 ((rd_T79 l1_0 x5_1).f0),.int .i64 ((rd_T79 l1_0 x5_1).f1),.int .i64 ((rd_T79 l1_0 x5_1).f2),.int .i64 0,.bool false]) ?_ 3 _ rfl;(with_reducible repeat (first | refine blk_drewN ?_ _ | refine blk_drew ?_ | refine blk_alloc ?_ _));refine blk_put (cs:=#[.int .i64 ((rd_T79 l1_0 x5_1).f0),.int .i64 ((rd_T79 l1_0 x5_1).f1),.int .i64 0,.int .i64 0,.bool false]) ?_ 2 _ rfl;(with_reducible repeat (first | refine blk_drewN ?_ _ | refine blk_drew ?_ | refine blk_alloc ?_ _));refine blk_put (cs:=#[.int .i64 ((rd_T79 l1_0 x5_1).f0),.int .i64 0,.int .i64 0,.int .i64 0,.bool false]) ?_ 1 _ rfl;(with_reducible repeat (first | refine blk_drewN ?_ _ | refine blk_drew ?_ | refine blk_alloc ?_ _));refine blk_put (cs:=#[.int .i64 0,.int .i64 0,.int .i64 0,.int .i64 0,.bool false]) ?_ 0 _ rfl;(with_reducible repeat (first | refine blk_drewN ?_ _ | refine blk_drew ?_ | refine blk_alloc ?_ _));exact BK4.out) hb);replace HB:=a0_ (below_step hb_ hb);(try clear hb);have hcz43_0 : w42.cell? ⟨gb4,0,none⟩ = some (.int .i64 ((rd_T79 l1_0 x5_1).f0)):=(blk_cell BK4.out 0).trans rfl;have hcz43_1 : w42.cell? ⟨gb4,1,none⟩ = some (.int .i64 ((rd_T79 l1_0 x5_1).f1)):=(blk_cell BK4.out 1).trans rfl;have hcz43_2 : w42.cell? ⟨gb4,2,none⟩ = some (.int .i64 ((rd_T79 l1_0 x5_1).f2)):=(blk_cell BK4.out 2).trans rfl;have hcz43_3 : w42.cell? ⟨gb4,3,none⟩ = some (.int .i64 ((rd_T79 l1_0 x5_1).f3)):=(blk_cell BK4.out 3).trans rfl;have hcz43_4 : w42.cell? ⟨gb4,4,none⟩ = some (.bool ((rd_T79 l1_0 x5_1).f4)):=(blk_cell BK4.out 4).trans rfl;have hfz43_0:=blk_frozen BK4.out 0;have hfz43_1:=blk_frozen BK4.out 1;have hfz43_2:=blk_frozen BK4.out 2;have hfz43_3:=blk_frozen BK4.out 3;have hfz43_4:=blk_frozen BK4.out 4) | (go_at_call 89;(with_reducible refine (spec_inRange.calls ((rd_T79 l1_0 x5_1).f1) 0 99 false _ A9.out).mono ?_);rintro e w' ⟨rfl,⟨nd,rfl⟩⟩;(try first | exact ⟨rfl,_,World.drewN_drewN _ _ _⟩ | exact ⟨rfl,_,Eq.trans (World.drewN_drewN _ _ _) (congrArg (World.drewN _) (Nat.add_assoc _ _ _))⟩))))
       go_ret
       exact ⟨by first | rfl | (simp [errW_none,errW_some] <;> rfl) | (simp [*,errW_none,errW_some] <;> rfl),hb_⟩
     ·replace c8:=Bool.eq_false_iff.mpr c8
      subst c8
      have H1 : (some false) = some r:=by rw [if_neg (show ¬ (false = true) by decide)] at H;exact H
      clear H
      have H:=H1
      clear H1
      obtain rfl:=Option.some.inj H
      have hnb44:=NB2_1.out
      have hnc44:=NB1_2.out
      have hcz45_0 : wr.cell? ⟨gb2,0,none⟩ = some (.slice A1_0 l1_0.length c1_0):=(blk_cell BK2.out 0).trans rfl
      have hfz45_0:=blk_frozen BK2.out 0
      have p3 : 0 ≤ (x5_1 : Int):=of_decide_eq_true (by first | (with_reducible assumption) | assumption)
      have q3 : x5_1 < (l1_0.length : Int):=of_decide_eq_true (by first | (with_reducible assumption) | assumption)
      obtain ⟨ad3,e3,hx3_0,hx3_1,hx3_2,hx3_3,hx3_4⟩:=at_T79 HR1_0.out x5_1 p3 q3
      cases e3
      replace hx3_0:=(HB.out.cell (World.block_lt_of_cell? w _ hx3_0)).trans hx3_0
      replace hx3_1:=(HB.out.cell (World.block_lt_of_cell? w _ hx3_1)).trans hx3_1
      replace hx3_2:=(HB.out.cell (World.block_lt_of_cell? w _ hx3_2)).trans hx3_2
      replace hx3_3:=(HB.out.cell (World.block_lt_of_cell? w _ hx3_3)).trans hx3_3
      replace hx3_4:=(HB.out.cell (World.block_lt_of_cell? w _ hx3_4)).trans hx3_4
      replace p3:=eq_true p3
      replace q3:=eq_true q3
      go_wp2_with (first | ((with_reducible refine gate_dst (N:=6) rfl ?_);(try (refine gate_guard (by rfl) ?_;dsimp only));refine box_event ?hg (N:=6) ?hd (cs:=#[.int .i64 0,.int .i64 0,.int .i64 0,.int .i64 0,.bool false]) (t:=79) ?hr ?_;(case hd=>rfl);(case hg=>rfl);(case hr=>first | (go_simp;done) | (go_simp;rfl));intro gb4 hg w46 hbox hb;have n0_:=kb_ BK1 hb;have n1_:=kb_ BK2 hb;have n2_:=a0_ (below_step hb_ hb);have n3_:=a0_ (hbox);have n4_:=a0_ ((by rw [hg];exact (below_size hb_) : w.heap.size ≤ gb4));have n5_:=a0_ ((by rw [hg];exact (below_size hb_) : w.heap.size ≤ gb4));have n6_:=a0_ ((by rw [hg];exact Nat.ne_of_lt (blk_lt (bb_ BK1.out)) : gb1 ≠ gb4));have n7_:=a0_ ((by rw [hg];exact Nat.ne_of_gt (blk_lt (bb_ BK1.out)) : gb4 ≠ gb1));have n8_:=a0_ ((by rw [hg];exact Nat.ne_of_lt (blk_lt (bb_ BK2.out)) : gb2 ≠ gb4));have n9_:=a0_ ((by rw [hg];exact Nat.ne_of_gt (blk_lt (bb_ BK2.out)) : gb4 ≠ gb2));clear BK1 BK2 HB;have BK1:=n0_;have BK2:=n1_;have HB:=n2_;have BK4:=n3_;have GW4:=n4_;have GE4:=n5_;have NB1_4:=n6_;have NB4_1:=n7_;have NB2_4:=n8_;have NB4_2:=n9_;clear n0_ n1_ n2_ n3_ n4_ n5_ n6_ n7_ n8_ n9_;clear hb hbox hg;have hnb47:=NB4_1.out;have hnc47:=NB1_4.out;have hnb48:=NB4_2.out;have hnc48:=NB2_4.out;have hcz49_0 : w46.cell? ⟨gb4,0,none⟩ = some (.int .i64 0):=(blk_cell BK4.out 0).trans rfl;have hcz49_1 : w46.cell? ⟨gb4,1,none⟩ = some (.int .i64 0):=(blk_cell BK4.out 1).trans rfl;have hcz49_2 : w46.cell? ⟨gb4,2,none⟩ = some (.int .i64 0):=(blk_cell BK4.out 2).trans rfl;have hcz49_3 : w46.cell? ⟨gb4,3,none⟩ = some (.int .i64 0):=(blk_cell BK4.out 3).trans rfl;have hcz49_4 : w46.cell? ⟨gb4,4,none⟩ = some (.bool false):=(blk_cell BK4.out 4).trans rfl;have hfz49_0:=blk_frozen BK4.out 0;have hfz49_1:=blk_frozen BK4.out 1;have hfz49_2:=blk_frozen BK4.out 2;have hfz49_3:=blk_frozen BK4.out 3;have hfz49_4:=blk_frozen BK4.out 4;have hcz50_0 : w46.cell? ⟨gb1,0,none⟩ = some (.slice A0_0 l0_0.length c0_0):=(blk_cell BK1.out 0).trans rfl;have hfz50_0:=blk_frozen BK1.out 0) | (go_at_call 88;(with_reducible refine (spec_hasClass.calls _ _ l0_0 ((rd_T79 l1_0 x5_1).f0) false _ ?side1 ?side2 A7.out).mono ?_);(case side1=>exact Kd.C_below HR0_0.out hb_);(case side2=>exact HC0_0.out);rintro e w51 ⟨rfl,hb⟩;replace BK1:=a0_ (blk_below (g:=gb1) (o:=.cells #[.slice A0_0 l0_0.length c0_0] 33 (0,0)) (bff_ BK1.out) hb);replace BK2:=a0_ (blk_below (g:=gb2) (o:=.cells #[.slice (some ad3) l1_0.length c1_0] 37 (0,0)) (bff_ BK2.out) hb);replace BK4:=a0_ (blk_below (g:=gb4) (o:=.cells #[.int .i64 ((rd_T79 l1_0 x5_1).f0),.int .i64 ((rd_T79 l1_0 x5_1).f1),.int .i64 ((rd_T79 l1_0 x5_1).f2),.int .i64 ((rd_T79 l1_0 x5_1).f3),.bool ((rd_T79 l1_0 x5_1).f4)] 79 (0,0)) (by (with_reducible repeat (first | refine blk_drewN ?_ _ | refine blk_drew ?_ | refine blk_alloc ?_ _));refine blk_put (cs:=#[.int .i64 ((rd_T79 l1_0 x5_1).f0),.int .i64 ((rd_T79 l1_0 x5_1).f1),.int .i64 ((rd_T79 l1_0 x5_1).f2),.int .i64 ((rd_T79 l1_0 x5_1).f3),.bool false]) ?_ 4 _ rfl;(with_reducible repeat (first | refine blk_drewN ?_ _ | refine blk_drew ?_ | refine blk_alloc ?_ _));refine blk_put (cs:=#[.int .i64 ((rd_T79 l1_0 x5_1).f0),.int .i64 ((rd_T79 l1_0 x5_1).f1),.int .i64 ((rd_T79 l1_0 x5_1).f2),.int .i64 0,.bool false]) ?_ 3 _ rfl;(with_reducible repeat (first | refine blk_drewN ?_ _ | refine blk_drew ?_ | refine blk_alloc ?_ _));refine blk_put (cs:=#[.int .i64 ((rd_T79 l1_0 x5_1).f0),.int .i64 ((rd_T79 l1_0 x5_1).f1),.int .i64 0,.int .i64 0,.bool false]) ?_ 2 _ rfl;(with_reducible repeat (first | refine blk_drewN ?_ _ | refine blk_drew ?_ | refine blk_alloc ?_ _));refine blk_put (cs:=#[.int .i64 ((rd_T79 l1_0 x5_1).f0),.int .i64 0,.int .i64 0,.int .i64 0,.bool false]) ?_ 1 _ rfl;(with_reducible repeat (first | refine blk_drewN ?_ _ | refine blk_drew ?_ | refine blk_alloc ?_ _));refine blk_put (cs:=#[.int .i64 0,.int .i64 0,.int .i64 0,.int .i64 0,.bool false]) ?_ 0 _ rfl;(with_reducible repeat (first | refine blk_drewN ?_ _ | refine blk_drew ?_ | refine blk_alloc ?_ _));exact BK4.out) hb);replace HB:=a0_ (below_step hb_ hb);(try clear hb);(try clear hb2);(try clear hk);(try clear hi)))
      repeat (go_quiet (first | ((with_reducible refine gate_dst (N:=6) rfl ?_);(try (refine gate_guard (by rfl) ?_;dsimp only));refine box_event ?hg (N:=6) ?hd (cs:=#[.int .i64 0,.int .i64 0,.int .i64 0,.int .i64 0,.bool false]) (t:=79) ?hr ?_;(case hd=>rfl);(case hg=>rfl);(case hr=>first | (go_simp;done) | (go_simp;rfl));intro gb4 hg w46 hbox hb;have n0_:=kb_ BK1 hb;have n1_:=kb_ BK2 hb;have n2_:=a0_ (below_step hb_ hb);have n3_:=a0_ (hbox);have n4_:=a0_ ((by rw [hg];exact (below_size hb_) : w.heap.size ≤ gb4));have n5_:=a0_ ((by rw [hg];exact (below_size hb_) : w.heap.size ≤ gb4));have n6_:=a0_ ((by rw [hg];exact Nat.ne_of_lt (blk_lt (bb_ BK1.out)) : gb1 ≠ gb4));have n7_:=a0_ ((by rw [hg];exact Nat.ne_of_gt (blk_lt (bb_ BK1.out)) : gb4 ≠ gb1));have n8_:=a0_ ((by rw [hg];exact Nat.ne_of_lt (blk_lt (bb_ BK2.out)) : gb2 ≠ gb4));have n9_:=a0_ ((by rw [hg];exact Nat.ne_of_gt (blk_lt (bb_ BK2.out)) : gb4 ≠ gb2));clear BK1 BK2 HB;have BK1:=n0_;have BK2:=n1_;have HB:=n2_;have BK4:=n3_;have GW4:=n4_;have GE4:=n5_;have NB1_4:=n6_;have NB4_1:=n7_;have NB2_4:=n8_;have NB4_2:=n9_;clear n0_ n1_ n2_ n3_ n4_ n5_ n6_ n7_ n8_ n9_;clear hb hbox hg;have hnb47:=NB4_1.out;have hnc47:=NB1_4.out;have hnb48:=NB4_2.out;have hnc48:=NB2_4.out;have hcz49_0 : w46.cell? ⟨gb4,0,none⟩ = some (.int .i64 0):=(blk_cell BK4.out 0).trans rfl;have hcz49_1 : w46.cell? ⟨gb4,1,none⟩ = some (.int .i64 0):=(blk_cell BK4.out 1).trans rfl;have hcz49_2 : w46.cell? ⟨gb4,2,none⟩ = some (.int .i64 0):=(blk_cell BK4.out 2).trans rfl;have hcz49_3 : w46.cell? ⟨gb4,3,none⟩ = some (.int .i64 0):=(blk_cell BK4.out 3).trans rfl;have hcz49_4 : w46.cell? ⟨gb4,4,none⟩ = some (.bool false):=(blk_cell BK4.out 4).trans rfl;have hfz49_0:=blk_frozen BK4.out 0;have hfz49_1:=blk_frozen BK4.out 1;have hfz49_2:=blk_frozen BK4.out 2;have hfz49_3:=blk_frozen BK4.out 3;have hfz49_4:=blk_frozen BK4.out 4;have hcz50_0 : w46.cell? ⟨gb1,0,none⟩ = some (.slice A0_0 l0_0.length c0_0):=(blk_cell BK1.out 0).trans rfl;have hfz50_0:=blk_frozen BK1.out 0) | (go_at_call 88;(with_reducible refine (spec_hasClass.calls _ _ l0_0 ((rd_T79 l1_0 x5_1).f0) false _ ?side1 ?side2 A7.out).mono ?_);(case side1=>exact Kd.C_below HR0_0.out hb_);(case side2=>exact HC0_0.out);rintro e w51 ⟨rfl,hb⟩;replace BK1:=a0_ (blk_below (g:=gb1) (o:=.cells #[.slice A0_0 l0_0.length c0_0] 33 (0,0)) (bff_ BK1.out) hb);replace BK2:=a0_ (blk_below (g:=gb2) (o:=.cells #[.slice (some ad3) l1_0.length c1_0] 37 (0,0)) (bff_ BK2.out) hb);replace BK4:=a0_ (blk_below (g:=gb4) (o:=.cells #[.int .i64 ((rd_T79 l1_0 x5_1).f0),.int .i64 ((rd_T79 l1_0 x5_1).f1),.int .i64 ((rd_T79 l1_0 x5_1).f2),.int .i64 ((rd_T79 l1_0 x5_1).f3),.bool ((rd_T79 l1_0 x5_1).f4)] 79 (0,0)) (by (with_reducible repeat (first | refine blk_drewN ?_ _ | refine blk_drew ?_ | refine blk_alloc ?_ _));refine blk_put (cs:=#[.int .i64 ((rd_T79 l1_0 x5_1).f0),.int .i64 ((rd_T79 l1_0 x5_1).f1),.int .i64 ((rd_T79 l1_0 x5_1).f2),.int .i64 ((rd_T79 l1_0 x5_1).f3),.bool false]) ?_ 4 _ rfl;(with_reducible repeat (first | refine blk_drewN ?_ _ | refine blk_drew ?_ | refine blk_alloc ?_ _));refine blk_put (cs:=#[.int .i64 ((rd_T79 l1_0 x5_1).f0),.int .i64 ((rd_T79 l1_0 x5_1).f1),.int .i64 ((rd_T79 l1_0 x5_1).f2),.int .i64 0,.bool false]) ?_ 3 _ rfl;(with_reducible repeat (first | refine blk_drewN ?_ _ | refine blk_drew ?_ | refine blk_alloc ?_ _));refine blk_put (cs:=#[.int .i64 ((rd_T79 l1_0 x5_1).f0),.int .i64 ((rd_T79 l1_0 x5_1).f1),.int .i64 0,.int .i64 0,.bool false]) ?_ 2 _ rfl;(with_reducible repeat (first | refine blk_drewN ?_ _ | refine blk_drew ?_ | refine blk_alloc ?_ _));refine blk_put (cs:=#[.int .i64 ((rd_T79 l1_0 x5_1).f0),.int .i64 0,.int .i64 0,.int .i64 0,.bool false]) ?_ 1 _ rfl;(with_reducible repeat (first | refine blk_drewN ?_ _ | refine blk_drew ?_ | refine blk_alloc ?_ _));refine blk_put (cs:=#[.int .i64 0,.int .i64 0,.int .i64 0,.int .i64 0,.bool false]) ?_ 0 _ rfl;(with_reducible repeat (first | refine blk_drewN ?_ _ | refine blk_drew ?_ | refine blk_alloc ?_ _));exact BK4.out) hb);replace HB:=a0_ (below_step hb_ hb);(try clear hb);(try clear hb2);(try clear hk);(try clear hi)));try go_wp2_with (first | ((with_reducible refine gate_dst (N:=6) rfl ?_);(try (refine gate_guard (by rfl) ?_;dsimp only));refine box_event ?hg (N:=6) ?hd (cs:=#[.int .i64 0,.int .i64 0,.int .i64 0,.int .i64 0,.bool false]) (t:=79) ?hr ?_;(case hd=>rfl);(case hg=>rfl);(case hr=>first | (go_simp;done) | (go_simp;rfl));intro gb4 hg w46 hbox hb;have n0_:=kb_ BK1 hb;have n1_:=kb_ BK2 hb;have n2_:=a0_ (below_step hb_ hb);have n3_:=a0_ (hbox);have n4_:=a0_ ((by rw [hg];exact (below_size hb_) : w.heap.size ≤ gb4));have n5_:=a0_ ((by rw [hg];exact (below_size hb_) : w.heap.size ≤ gb4));have n6_:=a0_ ((by rw [hg];exact Nat.ne_of_lt (blk_lt (bb_ BK1.out)) : gb1 ≠ gb4));have n7_:=a0_ ((by rw [hg];exact Nat.ne_of_gt (blk_lt (bb_ BK1.out)) : gb4 ≠ gb1));have n8_:=a0_ ((by rw [hg];exact Nat.ne_of_lt (blk_lt (bb_ BK2.out)) : gb2 ≠ gb4));have n9_:=a0_ ((by rw [hg];exact Nat.ne_of_gt (blk_lt (bb_ BK2.out)) : gb4 ≠ gb2));clear BK1 BK2 HB;have BK1:=n0_;have BK2:=n1_;have HB:=n2_;have BK4:=n3_;have GW4:=n4_;have GE4:=n5_;have NB1_4:=n6_;have NB4_1:=n7_;have NB2_4:=n8_;have NB4_2:=n9_;clear n0_ n1_ n2_ n3_ n4_ n5_ n6_ n7_ n8_ n9_;clear hb hbox hg;have hnb47:=NB4_1.out;have hnc47:=NB1_4.out;have hnb48:=NB4_2.out;have hnc48:=NB2_4.out;have hcz49_0 : w46.cell? ⟨gb4,0,none⟩ = some (.int .i64 0):=(blk_cell BK4.out 0).trans rfl;have hcz49_1 : w46.cell? ⟨gb4,1,none⟩ = some (.int .i64 0):=(blk_cell BK4.out 1).trans rfl;have hcz49_2 : w46.cell? ⟨gb4,2,none⟩ = some (.int .i64 0):=(blk_cell BK4.out 2).trans rfl;have hcz49_3 : w46.cell? ⟨gb4,3,none⟩ = some (.int .i64 0):=(blk_cell BK4.out 3).trans rfl;have hcz49_4 : w46.cell? ⟨gb4,4,none⟩ = some (.bool false):=(blk_cell BK4.out 4).trans rfl;have hfz49_0:=blk_frozen BK4.out 0;have hfz49_1:=blk_frozen BK4.out 1;have hfz49_2:=blk_frozen BK4.out 2;have hfz49_3:=blk_frozen BK4.out 3;have hfz49_4:=blk_frozen BK4.out 4;have hcz50_0 : w46.cell? ⟨gb1,0,none⟩ = some (.slice A0_0 l0_0.length c0_0):=(blk_cell BK1.out 0).trans rfl;have hfz50_0:=blk_frozen BK1.out 0) | (go_at_call 88;(with_reducible refine (spec_hasClass.calls _ _ l0_0 ((rd_T79 l1_0 x5_1).f0) false _ ?side1 ?side2 A7.out).mono ?_);(case side1=>exact Kd.C_below HR0_0.out hb_);(case side2=>exact HC0_0.out);rintro e w51 ⟨rfl,hb⟩;replace BK1:=a0_ (blk_below (g:=gb1) (o:=.cells #[.slice A0_0 l0_0.length c0_0] 33 (0,0)) (bff_ BK1.out) hb);replace BK2:=a0_ (blk_below (g:=gb2) (o:=.cells #[.slice (some ad3) l1_0.length c1_0] 37 (0,0)) (bff_ BK2.out) hb);replace BK4:=a0_ (blk_below (g:=gb4) (o:=.cells #[.int .i64 ((rd_T79 l1_0 x5_1).f0),.int .i64 ((rd_T79 l1_0 x5_1).f1),.int .i64 ((rd_T79 l1_0 x5_1).f2),.int .i64 ((rd_T79 l1_0 x5_1).f3),.bool ((rd_T79 l1_0 x5_1).f4)] 79 (0,0)) (by (with_reducible repeat (first | refine blk_drewN ?_ _ | refine blk_drew ?_ | refine blk_alloc ?_ _));refine blk_put (cs:=#[.int .i64 ((rd_T79 l1_0 x5_1).f0),.int .i64 ((rd_T79 l1_0 x5_1).f1),.int .i64 ((rd_T79 l1_0 x5_1).f2),.int .i64 ((rd_T79 l1_0 x5_1).f3),.bool false]) ?_ 4 _ rfl;(with_reducible repeat (first | refine blk_drewN ?_ _ | refine blk_drew ?_ | refine blk_alloc ?_ _));refine blk_put (cs:=#[.int .i64 ((rd_T79 l1_0 x5_1).f0),.int .i64 ((rd_T79 l1_0 x5_1).f1),.int .i64 ((rd_T79 l1_0 x5_1).f2),.int .i64 0,.bool false]) ?_ 3 _ rfl;(with_reducible repeat (first | refine blk_drewN ?_ _ | refine blk_drew ?_ | refine blk_alloc ?_ _));refine blk_put (cs:=#[.int .i64 ((rd_T79 l1_0 x5_1).f0),.int .i64 ((rd_T79 l1_0 x5_1).f1),.int .i64 0,.int .i64 0,.bool false]) ?_ 2 _ rfl;(with_reducible repeat (first | refine blk_drewN ?_ _ | refine blk_drew ?_ | refine blk_alloc ?_ _));refine blk_put (cs:=#[.int .i64 ((rd_T79 l1_0 x5_1).f0),.int .i64 0,.int .i64 0,.int .i64 0,.bool false]) ?_ 1 _ rfl;(with_reducible repeat (first | refine blk_drewN ?_ _ | refine blk_drew ?_ | refine blk_alloc ?_ _));refine blk_put (cs:=#[.int .i64 0,.int .i64 0,.int .i64 0,.int .i64 0,.bool false]) ?_ 0 _ rfl;(with_reducible repeat (first | refine blk_drewN ?_ _ | refine blk_drew ?_ | refine blk_alloc ?_ _));exact BK4.out) hb);replace HB:=a0_ (below_step hb_ hb);(try clear hb);(try clear hb2);(try clear hk);(try clear hi))))
      go_ret
      exact ⟨by first | rfl | (simp [errW_none,errW_some] <;> rfl) | (simp [*,errW_none,errW_some] <;> rfl),hb_⟩
    ·rw [if_neg c6] at H
     exact absurd H (by simp)
   ·rw [if_neg c5] at H
    have c5b0 : decide (x5_1 < (l1_0.length : Int)) = false:=decide_eq_false c5
    clear c5
    have H':=a0_ H
    clear H
    have hnb52:=NB2_1.out
    have hnc52:=NB1_2.out
    have hcz53_0 : wr.cell? ⟨gb2,0,none⟩ = some (.slice A1_0 l1_0.length c1_0):=(blk_cell BK2.out 0).trans rfl
    have hfz53_0:=blk_frozen BK2.out 0
    go_wp2
    repeat (go_quiet (fail);try go_wp2)
    go_loopg [7] k1 (fun kq v7 w'=>∃ (x7_2 : Int),v7 = .int .i64 x7_2 ∧ Aside0 (spec_validHeap.l1 kq x7_2 l0_0 l1_0 = some r) ∧ Aside0 (kq ≤ k1) ∧ Aside0 (w'.heap[gb1]? = some (.cells #[(.slice A0_0 l0_0.length c0_0)] 33 (0,0))) ∧ Aside0 (w'.heap[gb2]? = some (.cells #[(.slice A1_0 l1_0.length c1_0)] 37 (0,0))) ∧ Aside0 (Below w.heap.size w w'))
    case atStart=>exact ⟨(0),(by first | rfl | (simp;done) | (simp [*];done)),H',⟨Nat.le_refl _⟩,⟨by (with_reducible repeat (first | refine blk_drewN ?_ _ | refine blk_drew ?_ | refine blk_alloc ?_ _));exact BK1.out⟩,⟨by (with_reducible repeat (first | refine blk_drewN ?_ _ | refine blk_drew ?_ | refine blk_alloc ?_ _));exact BK2.out⟩,⟨hb_⟩⟩
    case round =>
     clear H'
     try clear c1
     try clear c2
     try clear p2
     try clear c3
     try clear p3
     try clear q3
     try clear hx3
     try clear c4
     try clear c5
     try clear c5b0
     try clear c6
     try clear c6b0
     try clear p6
     try clear c8
     try clear c10
     try clear c12
     try clear c13
     try clear c16
     try clear c17
     try clear c24
     try clear c27
     try clear c28
     try clear c35
     try clear c38
     try clear c39
     try clear c44
     try clear c47
     try clear c48
     try clear c52
     try clear hcz14_0
     try clear hcz18_0
     try clear hcz18_1
     try clear hcz18_2
     try clear hcz18_3
     try clear hcz18_4
     try clear hcz19_0
     try clear hcz21_0
     try clear hcz21_1
     try clear hcz21_2
     try clear hcz21_3
     try clear hcz21_4
     try clear hcz22_0
     try clear hcz25_0
     try clear hcz29_0
     try clear hcz29_1
     try clear hcz29_2
     try clear hcz29_3
     try clear hcz29_4
     try clear hcz30_0
     try clear hcz32_0
     try clear hcz32_1
     try clear hcz32_2
     try clear hcz32_3
     try clear hcz32_4
     try clear hcz33_0
     try clear hcz36_0
     try clear hcz40_0
     try clear hcz40_1
     try clear hcz40_2
     try clear hcz40_3
     try clear hcz40_4
     try clear hcz41_0
     try clear hcz43_0
     try clear hcz43_1
     try clear hcz43_2
     try clear hcz43_3
     try clear hcz43_4
     try clear hcz45_0
     try clear hcz49_0
     try clear hcz49_1
     try clear hcz49_2
     try clear hcz49_3
     try clear hcz49_4
     try clear hcz50_0
     try clear hcz53_0
     try clear hfz14_0
     try clear hfz18_0
     try clear hfz18_1
     try clear hfz18_2
     try clear hfz18_3
     try clear hfz18_4
     try clear hfz19_0
     try clear hfz21_0
     try clear hfz21_1
     try clear hfz21_2
     try clear hfz21_3
     try clear hfz21_4
     try clear hfz22_0
     try clear hfz25_0
     try clear hfz29_0
     try clear hfz29_1
     try clear hfz29_2
     try clear hfz29_3
     try clear hfz29_4
     try clear hfz30_0
     try clear hfz32_0
     try clear hfz32_1
     try clear hfz32_2
     try clear hfz32_3
     try clear hfz32_4
     try clear hfz33_0
     try clear hfz36_0
     try clear hfz40_0
     try clear hfz40_1
     try clear hfz40_2
     try clear hfz40_3
     try clear hfz40_4
     try clear hfz41_0
     try clear hfz43_0
     try clear hfz43_1
     try clear hfz43_2
     try clear hfz43_3
     try clear hfz43_4
     try clear hfz45_0
     try clear hfz49_0
     try clear hfz49_1
     try clear hfz49_2
     try clear hfz49_3
     try clear hfz49_4
     try clear hfz50_0
     try clear hfz53_0
     try clear hx3_0
     try clear hx3_1
     try clear hx3_2
     try clear hx3_3
     try clear hx3_4
     try clear p2
     try clear p3
     try clear q3
     obtain ⟨x7_2,rfl,HA,HK2,BK1,BK2,HB⟩:=hrel
     cases gk with
     | zero=>exact absurd HA.out (by simp [spec_validHeap.l1])
     | succ k2 =>
      have H:=HA.out
      clear HA
      simp only [spec_validHeap.l1] at H
      by_cases c54 : x7_2 < (l1_0.length : Int)
      ·rw [if_pos c54] at H
       have c54b0 : decide (x7_2 < (l1_0.length : Int)) = true:=decide_eq_true c54
       clear c54
       replace H:=Option.bind_eq_some_iff.mp H
       obtain ⟨t8,A550,H⟩:=H
       try dsimp only at H
       have A55:=a0_ A550
       clear A550
       obtain ⟨ji56,hji56⟩ : ∃ j_ : Int,(wrap64 ((t8.length : Int) - 1)) = j_:=⟨_,rfl⟩
       replace H : (if 0 ≤ (ji56) then (if (ji56) < (t8.length : Int) then (if 0 ≤ (rd t8 (ji56)) then (if (rd t8 (ji56)) < (l1_0.length : Int) then (if ((rd_T79 l1_0 (rd t8 (ji56))).f3) ≥ 0 then (some false) else (spec_validHeap.l1 k2 (wrap64 (x7_2 + 1)) l0_0 l1_0)) else (none)) else (none)) else (none)) else (none)) = some r:=by first | (rw [hji56] at H;exact H) | (simp only [hji56] at H ⊢;exact H)
       (try rw [hji56] at A55)
       have hji56w : (IntKind.i64.wrap ((t8.length : Int) - 1)) = ji56:=(i64_w _).trans hji56
       by_cases c57 : 0 ≤ (ji56)
       ·rw [if_pos c57] at H
        have c57b0 : decide (0 ≤ (ji56)) = true:=decide_eq_true c57
        clear c57
        by_cases c58 : (ji56) < (t8.length : Int)
        ·rw [if_pos c58] at H
         have c58b0 : decide ((ji56) < (t8.length : Int)) = true:=decide_eq_true c58
         clear c58
         by_cases c59 : 0 ≤ (rd t8 (ji56))
         ·rw [if_pos c59] at H
          have c59b0 : decide (0 ≤ (rd t8 (ji56))) = true:=decide_eq_true c59
          clear c59
          by_cases c60 : (rd t8 (ji56)) < (l1_0.length : Int)
          ·rw [if_pos c60] at H
           have c60b0 : decide ((rd t8 (ji56)) < (l1_0.length : Int)) = true:=decide_eq_true c60
           clear c60
           by_cases c61 : ((rd_T79 l1_0 (rd t8 (ji56))).f3) ≥ 0
           ·rw [if_pos c61] at H
            have c61b0 : decide (0 ≤ ((rd_T79 l1_0 (rd t8 (ji56))).f3)) = true:=decide_eq_true c61
            clear c61
            obtain rfl:=Option.some.inj H
            have hnb62:=NB2_1.out
            have hnc62:=NB1_2.out
            have hcz63_0 : wr.cell? ⟨gb2,0,none⟩ = some (.slice A1_0 l1_0.length c1_0):=(blk_cell BK2.out 0).trans rfl
            have hfz63_0:=blk_frozen BK2.out 0
            go_wp2_with (first | (go_at_call 73;(with_reducible refine (spec_contexts.calls k2 _ _ l1_0 x7_2 t8 _ ?side1 ?side2 A55.out).mono ?_);(case side1=>exact cc_ (Kd.C_below HR1_0.out HB.out));(case side2=>exact HC1_0.out);rintro e w64 ⟨v9,rfl,ho0,hb⟩;have HO10:=a0_ (Kd.R_lower ho0 (below_size hb_));replace BK1:=kb_ BK1 hb;replace BK2:=kb_ BK2 hb;replace HB:=a0_ (below_step hb_ hb);(try clear hb);(try clear ho0);have hcz65_0 : w64.cell? ⟨gb2,0,none⟩ = some (.slice A1_0 l1_0.length c1_0):=(blk_cell BK2.out 0).trans rfl;have hfz65_0:=blk_frozen BK2.out 0;obtain ⟨Ao66,co66,eo66⟩:=Kd.R_slice HO10.out;subst eo66;have p11 : 0 ≤ ((ji56) : Int):=of_decide_eq_true (by first | (with_reducible assumption) | assumption);have q11 : (ji56) < (t8.length : Int):=of_decide_eq_true (by first | (with_reducible assumption) | assumption);obtain ⟨ad11,e11,hx11_0⟩:=Kd.at_int (Kd.R_reads' HO10.out).2.2 (ji56) p11 q11;cases e11;replace p11:=eq_true p11;replace q11:=eq_true q11;have p12 : 0 ≤ ((rd t8 (ji56)) : Int):=of_decide_eq_true (by first | (with_reducible assumption) | assumption);have q12 : (rd t8 (ji56)) < (l1_0.length : Int):=of_decide_eq_true (by first | (with_reducible assumption) | assumption);obtain ⟨ad12,e12,hx12_0,hx12_1,hx12_2,hx12_3,hx12_4⟩:=at_T79 HR1_0.out (rd t8 (ji56)) p12 q12;cases e12;replace hx12_0:=(HB.out.cell (World.block_lt_of_cell? w _ hx12_0)).trans hx12_0;replace hx12_1:=(HB.out.cell (World.block_lt_of_cell? w _ hx12_1)).trans hx12_1;replace hx12_2:=(HB.out.cell (World.block_lt_of_cell? w _ hx12_2)).trans hx12_2;replace hx12_3:=(HB.out.cell (World.block_lt_of_cell? w _ hx12_3)).trans hx12_3;replace hx12_4:=(HB.out.cell (World.block_lt_of_cell? w _ hx12_4)).trans hx12_4;replace p12:=eq_true p12;replace q12:=eq_true q12))
            repeat (go_quiet (first | (go_at_call 73;(with_reducible refine (spec_contexts.calls k2 _ _ l1_0 x7_2 t8 _ ?side1 ?side2 A55.out).mono ?_);(case side1=>exact cc_ (Kd.C_below HR1_0.out HB.out));(case side2=>exact HC1_0.out);rintro e w64 ⟨v9,rfl,ho0,hb⟩;have HO10:=a0_ (Kd.R_lower ho0 (below_size hb_));replace BK1:=kb_ BK1 hb;replace BK2:=kb_ BK2 hb;replace HB:=a0_ (below_step hb_ hb);(try clear hb);(try clear ho0);have hcz65_0 : w64.cell? ⟨gb2,0,none⟩ = some (.slice A1_0 l1_0.length c1_0):=(blk_cell BK2.out 0).trans rfl;have hfz65_0:=blk_frozen BK2.out 0;obtain ⟨Ao66,co66,eo66⟩:=Kd.R_slice HO10.out;subst eo66;have p11 : 0 ≤ ((ji56) : Int):=of_decide_eq_true (by first | (with_reducible assumption) | assumption);have q11 : (ji56) < (t8.length : Int):=of_decide_eq_true (by first | (with_reducible assumption) | assumption);obtain ⟨ad11,e11,hx11_0⟩:=Kd.at_int (Kd.R_reads' HO10.out).2.2 (ji56) p11 q11;cases e11;replace p11:=eq_true p11;replace q11:=eq_true q11;have p12 : 0 ≤ ((rd t8 (ji56)) : Int):=of_decide_eq_true (by first | (with_reducible assumption) | assumption);have q12 : (rd t8 (ji56)) < (l1_0.length : Int):=of_decide_eq_true (by first | (with_reducible assumption) | assumption);obtain ⟨ad12,e12,hx12_0,hx12_1,hx12_2,hx12_3,hx12_4⟩:=at_T79 HR1_0.out (rd t8 (ji56)) p12 q12;cases e12;replace hx12_0:=(HB.out.cell (World.block_lt_of_cell? w _ hx12_0)).trans hx12_0;replace hx12_1:=(HB.out.cell (World.block_lt_of_cell? w _ hx12_1)).trans hx12_1;replace hx12_2:=(HB.out.cell (World.block_lt_of_cell? w _ hx12_2)).trans hx12_2;replace hx12_3:=(HB.out.cell (World.block_lt_of_cell? w _ hx12_3)).trans hx12_3;replace hx12_4:=(HB.out.cell (World.block_lt_of_cell? w _ hx12_4)).trans hx12_4;replace p12:=eq_true p12;replace q12:=eq_true q12));try go_wp2_with (first | (go_at_call 73;(with_reducible refine (spec_contexts.calls k2 _ _ l1_0 x7_2 t8 _ ?side1 ?side2 A55.out).mono ?_);(case side1=>exact cc_ (Kd.C_below HR1_0.out HB.out));(case side2=>exact HC1_0.out);rintro e w64 ⟨v9,rfl,ho0,hb⟩;have HO10:=a0_ (Kd.R_lower ho0 (below_size hb_));replace BK1:=kb_ BK1 hb;replace BK2:=kb_ BK2 hb;replace HB:=a0_ (below_step hb_ hb);(try clear hb);(try clear ho0);have hcz65_0 : w64.cell? ⟨gb2,0,none⟩ = some (.slice A1_0 l1_0.length c1_0):=(blk_cell BK2.out 0).trans rfl;have hfz65_0:=blk_frozen BK2.out 0;obtain ⟨Ao66,co66,eo66⟩:=Kd.R_slice HO10.out;subst eo66;have p11 : 0 ≤ ((ji56) : Int):=of_decide_eq_true (by first | (with_reducible assumption) | assumption);have q11 : (ji56) < (t8.length : Int):=of_decide_eq_true (by first | (with_reducible assumption) | assumption);obtain ⟨ad11,e11,hx11_0⟩:=Kd.at_int (Kd.R_reads' HO10.out).2.2 (ji56) p11 q11;cases e11;replace p11:=eq_true p11;replace q11:=eq_true q11;have p12 : 0 ≤ ((rd t8 (ji56)) : Int):=of_decide_eq_true (by first | (with_reducible assumption) | assumption);have q12 : (rd t8 (ji56)) < (l1_0.length : Int):=of_decide_eq_true (by first | (with_reducible assumption) | assumption);obtain ⟨ad12,e12,hx12_0,hx12_1,hx12_2,hx12_3,hx12_4⟩:=at_T79 HR1_0.out (rd t8 (ji56)) p12 q12;cases e12;replace hx12_0:=(HB.out.cell (World.block_lt_of_cell? w _ hx12_0)).trans hx12_0;replace hx12_1:=(HB.out.cell (World.block_lt_of_cell? w _ hx12_1)).trans hx12_1;replace hx12_2:=(HB.out.cell (World.block_lt_of_cell? w _ hx12_2)).trans hx12_2;replace hx12_3:=(HB.out.cell (World.block_lt_of_cell? w _ hx12_3)).trans hx12_3;replace hx12_4:=(HB.out.cell (World.block_lt_of_cell? w _ hx12_4)).trans hx12_4;replace p12:=eq_true p12;replace q12:=eq_true q12)))
            go_ret
            exact ⟨by first | rfl | (simp [errW_none,errW_some] <;> rfl) | (simp only [← hji56];first | rfl | (simp [errW_none,errW_some] <;> rfl)) | (simp [*,errW_none,errW_some] <;> rfl),hb_⟩
           ·rw [if_neg c61] at H
            have c61b0 : decide (0 ≤ ((rd_T79 l1_0 (rd t8 (ji56))).f3)) = false:=decide_eq_false c61
            clear c61
            have H':=a0_ H
            clear H
            have hnb67:=NB2_1.out
            have hnc67:=NB1_2.out
            have hcz68_0 : wr.cell? ⟨gb2,0,none⟩ = some (.slice A1_0 l1_0.length c1_0):=(blk_cell BK2.out 0).trans rfl
            have hfz68_0:=blk_frozen BK2.out 0
            go_wp2_with (first | (go_at_call 73;(with_reducible refine (spec_contexts.calls k2 _ _ l1_0 x7_2 t8 _ ?side1 ?side2 A55.out).mono ?_);(case side1=>exact cc_ (Kd.C_below HR1_0.out HB.out));(case side2=>exact HC1_0.out);rintro e w69 ⟨v9,rfl,ho0,hb⟩;have HO10:=a0_ (Kd.R_lower ho0 (below_size hb_));replace BK1:=kb_ BK1 hb;replace BK2:=kb_ BK2 hb;replace HB:=a0_ (below_step hb_ hb);(try clear hb);(try clear ho0);have hcz70_0 : w69.cell? ⟨gb2,0,none⟩ = some (.slice A1_0 l1_0.length c1_0):=(blk_cell BK2.out 0).trans rfl;have hfz70_0:=blk_frozen BK2.out 0;obtain ⟨Ao71,co71,eo71⟩:=Kd.R_slice HO10.out;subst eo71;have p11 : 0 ≤ ((ji56) : Int):=of_decide_eq_true (by first | (with_reducible assumption) | assumption);have q11 : (ji56) < (t8.length : Int):=of_decide_eq_true (by first | (with_reducible assumption) | assumption);obtain ⟨ad11,e11,hx11_0⟩:=Kd.at_int (Kd.R_reads' HO10.out).2.2 (ji56) p11 q11;cases e11;replace p11:=eq_true p11;replace q11:=eq_true q11;have p12 : 0 ≤ ((rd t8 (ji56)) : Int):=of_decide_eq_true (by first | (with_reducible assumption) | assumption);have q12 : (rd t8 (ji56)) < (l1_0.length : Int):=of_decide_eq_true (by first | (with_reducible assumption) | assumption);obtain ⟨ad12,e12,hx12_0,hx12_1,hx12_2,hx12_3,hx12_4⟩:=at_T79 HR1_0.out (rd t8 (ji56)) p12 q12;cases e12;replace hx12_0:=(HB.out.cell (World.block_lt_of_cell? w _ hx12_0)).trans hx12_0;replace hx12_1:=(HB.out.cell (World.block_lt_of_cell? w _ hx12_1)).trans hx12_1;replace hx12_2:=(HB.out.cell (World.block_lt_of_cell? w _ hx12_2)).trans hx12_2;replace hx12_3:=(HB.out.cell (World.block_lt_of_cell? w _ hx12_3)).trans hx12_3;replace hx12_4:=(HB.out.cell (World.block_lt_of_cell? w _ hx12_4)).trans hx12_4;replace p12:=eq_true p12;replace q12:=eq_true q12))
            repeat (go_quiet (first | (go_at_call 73;(with_reducible refine (spec_contexts.calls k2 _ _ l1_0 x7_2 t8 _ ?side1 ?side2 A55.out).mono ?_);(case side1=>exact cc_ (Kd.C_below HR1_0.out HB.out));(case side2=>exact HC1_0.out);rintro e w69 ⟨v9,rfl,ho0,hb⟩;have HO10:=a0_ (Kd.R_lower ho0 (below_size hb_));replace BK1:=kb_ BK1 hb;replace BK2:=kb_ BK2 hb;replace HB:=a0_ (below_step hb_ hb);(try clear hb);(try clear ho0);have hcz70_0 : w69.cell? ⟨gb2,0,none⟩ = some (.slice A1_0 l1_0.length c1_0):=(blk_cell BK2.out 0).trans rfl;have hfz70_0:=blk_frozen BK2.out 0;obtain ⟨Ao71,co71,eo71⟩:=Kd.R_slice HO10.out;subst eo71;have p11 : 0 ≤ ((ji56) : Int):=of_decide_eq_true (by first | (with_reducible assumption) | assumption);have q11 : (ji56) < (t8.length : Int):=of_decide_eq_true (by first | (with_reducible assumption) | assumption);obtain ⟨ad11,e11,hx11_0⟩:=Kd.at_int (Kd.R_reads' HO10.out).2.2 (ji56) p11 q11;cases e11;replace p11:=eq_true p11;replace q11:=eq_true q11;have p12 : 0 ≤ ((rd t8 (ji56)) : Int):=of_decide_eq_true (by first | (with_reducible assumption) | assumption);have q12 : (rd t8 (ji56)) < (l1_0.length : Int):=of_decide_eq_true (by first | (with_reducible assumption) | assumption);obtain ⟨ad12,e12,hx12_0,hx12_1,hx12_2,hx12_3,hx12_4⟩:=at_T79 HR1_0.out (rd t8 (ji56)) p12 q12;cases e12;replace hx12_0:=(HB.out.cell (World.block_lt_of_cell? w _ hx12_0)).trans hx12_0;replace hx12_1:=(HB.out.cell (World.block_lt_of_cell? w _ hx12_1)).trans hx12_1;replace hx12_2:=(HB.out.cell (World.block_lt_of_cell? w _ hx12_2)).trans hx12_2;replace hx12_3:=(HB.out.cell (World.block_lt_of_cell? w _ hx12_3)).trans hx12_3;replace hx12_4:=(HB.out.cell (World.block_lt_of_cell? w _ hx12_4)).trans hx12_4;replace p12:=eq_true p12;replace q12:=eq_true q12));try go_wp2_with (first | (go_at_call 73;(with_reducible refine (spec_contexts.calls k2 _ _ l1_0 x7_2 t8 _ ?side1 ?side2 A55.out).mono ?_);(case side1=>exact cc_ (Kd.C_below HR1_0.out HB.out));(case side2=>exact HC1_0.out);rintro e w69 ⟨v9,rfl,ho0,hb⟩;have HO10:=a0_ (Kd.R_lower ho0 (below_size hb_));replace BK1:=kb_ BK1 hb;replace BK2:=kb_ BK2 hb;replace HB:=a0_ (below_step hb_ hb);(try clear hb);(try clear ho0);have hcz70_0 : w69.cell? ⟨gb2,0,none⟩ = some (.slice A1_0 l1_0.length c1_0):=(blk_cell BK2.out 0).trans rfl;have hfz70_0:=blk_frozen BK2.out 0;obtain ⟨Ao71,co71,eo71⟩:=Kd.R_slice HO10.out;subst eo71;have p11 : 0 ≤ ((ji56) : Int):=of_decide_eq_true (by first | (with_reducible assumption) | assumption);have q11 : (ji56) < (t8.length : Int):=of_decide_eq_true (by first | (with_reducible assumption) | assumption);obtain ⟨ad11,e11,hx11_0⟩:=Kd.at_int (Kd.R_reads' HO10.out).2.2 (ji56) p11 q11;cases e11;replace p11:=eq_true p11;replace q11:=eq_true q11;have p12 : 0 ≤ ((rd t8 (ji56)) : Int):=of_decide_eq_true (by first | (with_reducible assumption) | assumption);have q12 : (rd t8 (ji56)) < (l1_0.length : Int):=of_decide_eq_true (by first | (with_reducible assumption) | assumption);obtain ⟨ad12,e12,hx12_0,hx12_1,hx12_2,hx12_3,hx12_4⟩:=at_T79 HR1_0.out (rd t8 (ji56)) p12 q12;cases e12;replace hx12_0:=(HB.out.cell (World.block_lt_of_cell? w _ hx12_0)).trans hx12_0;replace hx12_1:=(HB.out.cell (World.block_lt_of_cell? w _ hx12_1)).trans hx12_1;replace hx12_2:=(HB.out.cell (World.block_lt_of_cell? w _ hx12_2)).trans hx12_2;replace hx12_3:=(HB.out.cell (World.block_lt_of_cell? w _ hx12_3)).trans hx12_3;replace hx12_4:=(HB.out.cell (World.block_lt_of_cell? w _ hx12_4)).trans hx12_4;replace p12:=eq_true p12;replace q12:=eq_true q12)))
            go_roundg k2
            case measure=>have:=HK1.out;have:=HK2.out;omega
            case rel=>exact ⟨(wrap64 (x7_2 + 1)),(by first | rfl | (simp;done) | (simp [*];done)),H',⟨by have:=HK1.out;have:=HK2.out;omega⟩,⟨by (with_reducible repeat (first | refine blk_drewN ?_ _ | refine blk_drew ?_ | refine blk_alloc ?_ _));exact BK1.out⟩,⟨by (with_reducible repeat (first | refine blk_drewN ?_ _ | refine blk_drew ?_ | refine blk_alloc ?_ _));exact BK2.out⟩,⟨hb_⟩⟩
          ·rw [if_neg c60] at H
           exact absurd H (by simp)
         ·rw [if_neg c59] at H
          exact absurd H (by simp)
        ·rw [if_neg c58] at H
         exact absurd H (by simp)
       ·rw [if_neg c57] at H
        exact absurd H (by simp)
      ·rw [if_neg c54] at H
       have c54b0 : decide (x7_2 < (l1_0.length : Int)) = false:=decide_eq_false c54
       clear c54
       replace H:=Option.bind_eq_some_iff.mp H
       obtain ⟨t13,A720,H⟩:=H
       try dsimp only at H
       have A72:=a0_ A720
       clear A720
       by_cases c73 : t13 = true
       ·subst c73
        have H1 : (some (decide ((l1_0.length : Int) ≤ 24))) = some r:=by rw [if_pos rfl] at H;exact H
        clear H
        have H:=H1
        clear H1
        obtain rfl:=Option.some.inj H
        have hnb74:=NB2_1.out
        have hnc74:=NB1_2.out
        have hcz75_0 : wr.cell? ⟨gb2,0,none⟩ = some (.slice A1_0 l1_0.length c1_0):=(blk_cell BK2.out 0).trans rfl
        have hfz75_0:=blk_frozen BK2.out 0
        have hcz76_0 : wr.cell? ⟨gb1,0,none⟩ = some (.slice A0_0 l0_0.length c0_0):=(blk_cell BK1.out 0).trans rfl
        have hfz76_0:=blk_frozen BK1.out 0
        go_wp2_with (first | (go_at_call 85;(with_reducible refine (spec_validTree.calls _ _ l0_0 true _ ?side1 ?side2 A72.out).mono ?_);(case side1=>exact cc_ (Kd.C_below HR0_0.out HB.out));(case side2=>exact HC0_0.out);rintro e w77 ⟨rfl,hb⟩;replace BK1:=kb_ BK1 hb;replace BK2:=kb_ BK2 hb;replace HB:=a0_ (below_step hb_ hb);(try clear hb);have hcz78_0 : w77.cell? ⟨gb2,0,none⟩ = some (.slice A1_0 l1_0.length c1_0):=(blk_cell BK2.out 0).trans rfl;have hfz78_0:=blk_frozen BK2.out 0))
        repeat (go_quiet (first | (go_at_call 85;(with_reducible refine (spec_validTree.calls _ _ l0_0 true _ ?side1 ?side2 A72.out).mono ?_);(case side1=>exact cc_ (Kd.C_below HR0_0.out HB.out));(case side2=>exact HC0_0.out);rintro e w77 ⟨rfl,hb⟩;replace BK1:=kb_ BK1 hb;replace BK2:=kb_ BK2 hb;replace HB:=a0_ (below_step hb_ hb);(try clear hb);have hcz78_0 : w77.cell? ⟨gb2,0,none⟩ = some (.slice A1_0 l1_0.length c1_0):=(blk_cell BK2.out 0).trans rfl;have hfz78_0:=blk_frozen BK2.out 0));try go_wp2_with (first | (go_at_call 85;(with_reducible refine (spec_validTree.calls _ _ l0_0 true _ ?side1 ?side2 A72.out).mono ?_);(case side1=>exact cc_ (Kd.C_below HR0_0.out HB.out));(case side2=>exact HC0_0.out);rintro e w77 ⟨rfl,hb⟩;replace BK1:=kb_ BK1 hb;replace BK2:=kb_ BK2 hb;replace HB:=a0_ (below_step hb_ hb);(try clear hb);have hcz78_0 : w77.cell? ⟨gb2,0,none⟩ = some (.slice A1_0 l1_0.length c1_0):=(blk_cell BK2.out 0).trans rfl;have hfz78_0:=blk_frozen BK2.out 0)))
        go_ret
        exact ⟨by first | rfl | (simp [errW_none,errW_some] <;> rfl) | (simp [*,errW_none,errW_some] <;> rfl),hb_⟩
       ·replace c73:=Bool.eq_false_iff.mpr c73
        subst c73
        have H1 : (some false) = some r:=by rw [if_neg (show ¬ (false = true) by decide)] at H;exact H
        clear H
        have H:=H1
        clear H1
        obtain rfl:=Option.some.inj H
        have hnb79:=NB2_1.out
        have hnc79:=NB1_2.out
        have hcz80_0 : wr.cell? ⟨gb2,0,none⟩ = some (.slice A1_0 l1_0.length c1_0):=(blk_cell BK2.out 0).trans rfl
        have hfz80_0:=blk_frozen BK2.out 0
        have hcz81_0 : wr.cell? ⟨gb1,0,none⟩ = some (.slice A0_0 l0_0.length c0_0):=(blk_cell BK1.out 0).trans rfl
        have hfz81_0:=blk_frozen BK1.out 0
        go_wp2_with (first | (go_at_call 85;(with_reducible refine (spec_validTree.calls _ _ l0_0 false _ ?side1 ?side2 A72.out).mono ?_);(case side1=>exact cc_ (Kd.C_below HR0_0.out HB.out));(case side2=>exact HC0_0.out);rintro e w82 ⟨rfl,hb⟩;replace BK1:=kb_ BK1 hb;replace BK2:=kb_ BK2 hb;replace HB:=a0_ (below_step hb_ hb);(try clear hb);(try clear hb2);(try clear hk);(try clear hi)))
        repeat (go_quiet (first | (go_at_call 85;(with_reducible refine (spec_validTree.calls _ _ l0_0 false _ ?side1 ?side2 A72.out).mono ?_);(case side1=>exact cc_ (Kd.C_below HR0_0.out HB.out));(case side2=>exact HC0_0.out);rintro e w82 ⟨rfl,hb⟩;replace BK1:=kb_ BK1 hb;replace BK2:=kb_ BK2 hb;replace HB:=a0_ (below_step hb_ hb);(try clear hb);(try clear hb2);(try clear hk);(try clear hi)));try go_wp2_with (first | (go_at_call 85;(with_reducible refine (spec_validTree.calls _ _ l0_0 false _ ?side1 ?side2 A72.out).mono ?_);(case side1=>exact cc_ (Kd.C_below HR0_0.out HB.out));(case side2=>exact HC0_0.out);rintro e w82 ⟨rfl,hb⟩;replace BK1:=kb_ BK1 hb;replace BK2:=kb_ BK2 hb;replace HB:=a0_ (below_step hb_ hb);(try clear hb);(try clear hb2);(try clear hk);(try clear hi))))
        go_ret
        exact ⟨by first | rfl | (simp [errW_none,errW_some] <;> rfl) | (simp [*,errW_none,errW_some] <;> rfl),hb_⟩
theorem spec_validHeap_l1 (t : List Cls) (h : List Fau) (hs : smT t = true) (hl : h.length ≤ 2097152) (hf : fsH t h = true) : ∀ d i,i + d = h.length → Ev (fun k=>spec_validHeap.l1 k (i : Int) t h) ((List.range' i d).all (endB h) && (vT t && decide (h.length ≤ 24))):=by
 intro d
 induction d with
 | zero =>
  intro i hi
  refine Ev.succ ?_
  simp only [spec_validHeap.l1]
  refine Ev.neg (by omega) (Ev.bind (Ev.const (show spec_validTree.f t = some (vT t) by rw [spec_validTree.f,if_pos hs])) ?_)
  have e : decide ((h.length : Int) ≤ 24) = decide (h.length ≤ 24):=decide_eq_decide.2 (by omega)
  cases vT t with
  | true=>exact Ev.pos rfl (Ev.const (by rw [e];simp))
  | false=>exact Ev.neg (by simp) (Ev.const (by simp))
 | succ d ih =>
  intro i hi
  have hlt : i < h.length:=by omega
  have hn:=ih (i + 1) (by omega)
  have hpos:=ctxL_pos h (i : Int) (by omega) (by omega)
  have hlen:=ctxL_len h (i : Int)
  have hlast:=ctxL_mem (fun x h0 h1=>(fsH_ctx hf x h0 h1).2) (i : Int) (by omega) _ (lastI_mem hpos)
  have hw : wrap64 (((ctxL h (i : Int)).length : Int) - 1) = (((ctxL h (i : Int)).length - 1 : Nat) : Int):=by rw [wrap_in (by omega) (by omega)];omega
  have hrd : rd (ctxL h (i : Int)) ((((ctxL h (i : Int)).length - 1 : Nat) : Int)) = lastI (ctxL h (i : Int)):=rd_nat _ _ (by omega)
  have hcx : (rd_T79 h (lastI (ctxL h (i : Int)))).f3 = ctxN h (lastI (ctxL h (i : Int))):=by simp [rd_T79,ctxN]
  rw [List.range'_succ,List.all_cons]
  refine Ev.succ ?_
  simp only [spec_validHeap.l1]
  refine Ev.pos (by omega) (Ev.bind (spec_contexts_ev h hl (fun x h0 h1=>(fsH_ctx hf x h0 h1).2) (i : Int) (by omega)) ?_)
  rw [hw,hrd,hcx]
  refine Ev.pos (by omega) (Ev.pos (by omega) (Ev.pos hlast.1 (Ev.pos hlast.2 ?_)))
  by_cases hq : ctxN h (lastI (ctxL h (i : Int))) ≥ 0
  ·rw [show endB h i = false from decide_eq_false (by omega)]
   exact Ev.pos hq (Ev.const (by simp))
  ·rw [show endB h i = true from decide_eq_true (by omega),wrap_succ (i:=(i : Int)) (n:=h.length) (by omega) (by omega) (by omega)]
   exact Ev.neg hq (by simpa using hn)
theorem spec_validHeap_l0 (t : List Cls) (h : List Fau) (hs : smT t = true) (ht : t.length ≤ 9223372036854775807) (hl : h.length ≤ 2097152) : ∀ d i,i + d = h.length → (∀ j,j < i → okF t h j (h.getD j z79) = true) → Ev (fun k=>spec_validHeap.l0 k (i : Int) t h) (vH t h):=by
 intro d
 induction d with
 | zero =>
  intro i hi hA
  obtain rfl : i = h.length:=by omega
  have hfs : fsH t h = true:=all_of hA
  refine Ev.succ ?_
  simp only [spec_validHeap.l0]
  refine Ev.neg (by omega) ?_
  have:=spec_validHeap_l1 t h hs hl hfs h.length 0 (by omega)
  unfold vH esH
  rw [hfs,Bool.true_and,List.range_eq_range']
  exact this
 | succ d ih =>
  intro i hi hA
  have hlt : i < h.length:=by omega
  have hrd : rd_T79 h (i : Int) = h.getD i z79:=by simp [rd_T79]
  refine Ev.succ ?_
  simp only [spec_validHeap.l0,hrd]
  have hdf : okF t h i (h.getD i z79) = (hasC t (h.getD i z79).f0 && ((decide (0 ≤ (h.getD i z79).f1) && decide ((h.getD i z79).f1 ≤ 99)) && (lnkB h (i : Int) (h.getD i z79).f2 && lnkB h (i : Int) (h.getD i z79).f3))):=rfl
  have hfl : okF t h i (h.getD i z79) = false → vH t h = false:=fun e=>by unfold vH fsH;rw [all_false hlt e];rfl
  refine Ev.pos (by omega) (Ev.pos (by omega) (Ev.bind (Ev.const (spec_hasClass_ev t _ ht)) ?_))
  cases q1 : hasC t (h.getD i z79).f0 with
  | false =>
   rw [hfl (by rw [hdf,q1];rfl)]
   exact Ev.neg (by simp) (Ev.const rfl)
  | true =>
   refine Ev.pos rfl (Ev.bind (Ev.const (spec_inRange_ev _ _ _)) ?_)
   cases q2 : (decide (0 ≤ (h.getD i z79).f1) && decide ((h.getD i z79).f1 ≤ 99)) with
   | false =>
    rw [hfl (by rw [hdf,q1,q2];rfl)]
    exact Ev.neg (by simp) (Ev.const rfl)
   | true =>
    refine Ev.pos rfl (Ev.bind (Ev.const (spec_validLinks_ev h i hlt (by omega))) ?_)
    cases q3 : (lnkB h (i : Int) (h.getD i z79).f2 && lnkB h (i : Int) (h.getD i z79).f3) with
    | false =>
     rw [hfl (by rw [hdf,q1,q2,q3];rfl)]
     exact Ev.neg (by simp) (Ev.const rfl)
    | true =>
     refine Ev.pos rfl ?_
     rw [wrap_succ (i:=(i : Int)) (n:=h.length) (by omega) (by omega) (by omega)]
     refine ih (i + 1) (by omega) (fun j hj=>?_)
     by_cases e : j = i
     ·subst e;rw [hdf,q1,q2,q3];rfl
     ·exact hA j (by omega)
theorem spec_validHeap_ev (t : List Cls) (h : List Fau) (hs : smT t = true) (ht : t.length ≤ 9223372036854775807) (hl : h.length ≤ 2097152) : Ev (fun k=>spec_validHeap.f k t h) (vH t h):=by
 have:=spec_validHeap_l0 t h hs ht hl h.length 0 (by omega) (fun j hj=>absurd hj (Nat.not_lt_zero _))
 exact this
end Go.Proofs.Ytfhcfhffmblacaa.P
namespace Go.Proofs.Ytfhcfhffmblacaa.P
open Go.RowKit Go.Proofs.YtfhcfhffmblacaaW.PrintWords Go.Proofs.YtfhcfhffmblacaaW.PrintLast Go.Proofs.YtfhcfhffmblacaaW.PrintMore
attribute [local go_sem] max2_int min2_int max_two min_two max_three min_three max_four min_four
set_option linter.unusedVariables false
set_option linter.unusedSimpArgs false
def spec_copyHeap.f (l0_0 : List (S79)) : Option ((List (S79))):=(some (([] : List (S79)) : List (S79))).bind fun y3=>(if y3.length + l0_0.length < 3518437208883 then (some (y3 ++ l0_0)) else (none))
set_option maxHeartbeats 8000000 in
set_option maxRecDepth 100000 in
theorem spec_copyHeap.calls (A0_0 : Option Addr) (c0_0 : Nat) (l0_0 : List (S79)) (r : List (S79)) (w : World) (hr0_0 : Kd.C k79 w A0_0 l0_0.length l0_0) (hc0_0 : l0_0.length ≤ c0_0) (h : spec_copyHeap.f l0_0 = some r) :
  Calls Try.prog 74 #[.agg #[.slice A0_0 l0_0.length c0_0]] w fun e w'=>∃ v0_ : Value,e = .returned (.agg #[v0_]) ∧ Kd.R k79 79 w' w.heap.size (fun _=>True) v0_ r ∧ Below w.heap.size w w':=by
 have hu37:=Try.underlying37
 have HR0_0:=a0_ hr0_0
 have HC0_0:=a0_ hc0_0
 clear hr0_0 hc0_0
 have HB:=a0_ (Below.refl w.heap.size w)
 have H : ((some (([] : List (S79)) : List (S79))).bind fun y3=>(if y3.length + l0_0.length < 3518437208883 then (some (y3 ++ l0_0)) else (none))) = some r:=h
 clear h
 obtain ⟨y3,hy3⟩ : ∃ y_ : List (S79),y_ = (([] : List (S79))):=⟨_,rfl⟩
 replace H : (if y3.length + l0_0.length < 3518437208883 then (some (y3 ++ l0_0)) else (none)) = some r:=by first | (rw [hy3];with_reducible exact H) | (have H2_:=(Option.bind_some _ _).symm.trans H;rw [hy3];with_reducible exact H2_) | (have H2_:=(Option.bind_some _ _).symm.trans H;with_reducible exact H2_) | with_reducible exact H | (rw [hy3];exact H) | exact H
 have Ny3:=a0_ hy3
 clear hy3
 by_cases c2 : y3.length + l0_0.length < 3518437208883
 ·rw [if_pos c2] at H
  have LMc2:=a0_ c2
  clear c2
  obtain ⟨y6,hy6⟩ : ∃ y_ : List (S79),y_ = (y3 ++ l0_0):=⟨_,rfl⟩
  replace H : (some y6) = some r:=by first | (rw [hy6];with_reducible exact H) | (have H2_:=(Option.bind_some _ _).symm.trans H;rw [hy6];with_reducible exact H2_) | (have H2_:=(Option.bind_some _ _).symm.trans H;with_reducible exact H2_) | with_reducible exact H | (rw [hy6];exact H) | exact H
  have Ny6:=a0_ hy6
  clear hy6
  obtain rfl:=Option.some.inj H
  go_enter Try.func74,Try.ntmps74
  go_wp2_with (first | ((with_reducible refine gate_dst (N:=1) rfl ?_);refine box_event ?hg (N:=1) ?hd (cs:=#[.slice A0_0 l0_0.length c0_0]) (t:=37) ?hr ?_;(case hd=>rfl);(case hg=>rfl);(case hr=>first | (go_simp;done) | (go_simp;rfl));intro gb1 hg w3 hbox hb;have BK1:=a0_ (hbox);have GW1:=a0_ ((by rw [hg];exact (below_size hb_) : w.heap.size ≤ gb1));have GE1:=a0_ ((by rw [hg];exact (below_size hb_) : w.heap.size ≤ gb1));replace HB:=a0_ (below_step hb_ hb);clear hb hbox hg) | ((with_reducible refine gate_dst (N:=2) rfl ?_);refine box_event ?hg (N:=2) ?hd (cs:=#[.slice none 0 0]) (t:=37) ?hr ?_;(case hd=>rfl);(case hg=>rfl);(case hr=>first | (go_simp;done) | (go_simp;rfl));intro gb2 hg w4 hbox hb;have n0_:=kb_ BK1 hb;have n1_:=a0_ (below_step hb_ hb);have n2_:=a0_ (hbox);have n3_:=a0_ ((by rw [hg];exact (below_size hb_) : w.heap.size ≤ gb2));have n4_:=a0_ ((by rw [hg];exact (below_size hb_) : w.heap.size ≤ gb2));have n5_:=a0_ ((by rw [hg];exact Nat.ne_of_lt (blk_lt (bb_ BK1.out)) : gb1 ≠ gb2));have n6_:=a0_ ((by rw [hg];exact Nat.ne_of_gt (blk_lt (bb_ BK1.out)) : gb2 ≠ gb1));clear BK1 HB;have BK1:=n0_;have HB:=n1_;have BK2:=n2_;have GW2:=n3_;have GE2:=n4_;have NB1_2:=n5_;have NB2_1:=n6_;clear n0_ n1_ n2_ n3_ n4_ n5_ n6_;clear hb hbox hg) | ((with_reducible refine gate_dst (N:=3) rfl ?_);refine Kd.R_lit k79 _ 79 ?hg (N:=3) ?hd (xs:=([] : List (S79))) (inner:=[]) (ok:=fun _=>True) (okp:=fun _=>True) ?hr ?hp (fun _ hk=>hk) trivial (Below.refl _ _) (Nat.le_refl _) (by simp) ?_;(case hd=>rfl);(case hg=>rfl);(case hr=>first | (go_simp;done) | (go_simp;rfl));(case hp=>exact (Reps.none _ _));intro v4 w5 ho6 hb hg_ hnew_;clear hg_ hnew_;(first | rw [← Ny3.out] at ho6 | (simp only [Int.reduceToNat] at ho6;rw [← Ny3.out] at ho6));have HO5:=a0_ (Kd.R_lower ho6 (below_size hb_));replace BK1:=kb_ BK1 hb;replace BK2:=kb_ BK2 hb;replace HB:=a0_ (below_step hb_ hb);clear hb ho6;have hnb7:=NB1_2.out;have hnc7:=NB2_1.out;have hcz8_0 : w5.cell? ⟨gb1,0,none⟩ = some (.slice A0_0 l0_0.length c0_0):=(blk_cell BK1.out 0).trans rfl;have hfz8_0:=blk_frozen BK1.out 0) | ((with_reducible refine gate_builtin (b:=.append) (xs:=#[.tmp 3,.tmp 5]) rfl ?_);at_builtin;refine Kd.R_append_rows k79 (w0:=w) w.heap.size rfl (.tmp 3) (.tmp 5) 35 79 (.agg #[(.int .i64 0),(.int .i64 0),(.int .i64 0),(.int .i64 0),(.bool false)]) 40 rfl Try.underlying35 info79 rfl (by decide) (by omega) v4 y3 l0_0 _ _ _ (fun _=>True) (fun _=>False) rfl rfl ?aO ?aR (fun _ _ h=>h) (fun _ h=>h.elim) ?aF ?aB ?aS ?aL ?_;(case aR=>exact cc_ (Kd.C_below HR0_0.out HB.out));(case aB=>exact hb_);(case aF=>exact (fun _ _=>trivial));(case aO=>exact (rr_ HO5.out));(case aS=>exact (below_size hb_));(case aL=>have:=LMc2.out;omega);intro v7 w9 ho hb hg hat;rw [← Ny6.out] at ho;replace BK1:=a0_ (blk_grown (bb_ BK1.out) hg (Kd.R_ne HO5.out BK1.out (by decide)));replace BK2:=a0_ (blk_grown (bb_ BK2.out) hg (Kd.R_ne HO5.out BK2.out (by decide)));have HO8:=a0_ (ho);replace HB:=a0_ (hb);clear HO5;clear ho hb hg hat;obtain ⟨Ao10,co10,eo10⟩:=Kd.R_slice HO8.out;subst eo10;have hcz11_0 : w9.cell? ⟨gb2,0,none⟩ = some (.slice none 0 0):=(blk_cell BK2.out 0).trans rfl;have hfz11_0:=blk_frozen BK2.out 0))
  refine bodyPost_ret (results_cell_row rfl _ _ gb2 37 #[.slice Ao10 y6.length co10] (0,0) _ rfl (by (with_reducible repeat (first | refine blk_drewN ?_ _ | refine blk_drew ?_ | refine blk_alloc ?_ _));refine blk_put (cs:=#[.slice none 0 0]) ?_ 0 _ rfl;(with_reducible repeat (first | refine blk_drewN ?_ _ | refine blk_drew ?_ | refine blk_alloc ?_ _));exact BK2.out) Try.underlying37 rfl (by kernel_rfl)) rfl ?_
  exact ⟨_,by first | rfl | (simp [errW_none,errW_some] <;> rfl) | (simp [*,errW_none,errW_some] <;> rfl),by (with_reducible repeat (first | apply Kd.R_alloc | apply Kd.R_drewN | apply Kd.R_drew));exact Kd.R_mono (Kd.R_far (p:=⟨gb2,0,none⟩) (Kd.R_types HO8.out BK2.out (by decide)) (fun _ hk=>hk.2) (.slice Ao10 y6.length co10)) (fun _ hk=>trivial),hb_⟩
 ·rw [if_neg c2] at H
  exact absurd H (by simp)
theorem spec_copyHeap_ev (h : List Fau) (hl : h.length ≤ 2097152) : spec_copyHeap.f h = some h:=by
 unfold spec_copyHeap.f
 rw [Option.bind_some,if_pos (by simp;omega)]
 rfl
end Go.Proofs.Ytfhcfhffmblacaa.P
namespace Go.Proofs.Ytfhcfhffmblacaa.P
open Go.RowKit Go.Proofs.YtfhcfhffmblacaaW.PrintWords Go.Proofs.YtfhcfhffmblacaaW.PrintLast Go.Proofs.YtfhcfhffmblacaaW.PrintMore
attribute [local go_sem] max2_int min2_int max_two min_two max_three min_three max_four min_four
set_option linter.unusedVariables false
set_option linter.unusedSimpArgs false
def spec_JoinHeaps.f (l0_0 : List Cls) (l1_0 l2_0 : List Fau) : Option (List Fau × Bool):=if smT l0_0 = true ∧ (l1_0.length ≤ 2097152 ∧ l2_0.length ≤ 2097152) then some (joiP l0_0 l1_0 l2_0) else none
set_option maxHeartbeats 4000000 in
set_option maxRecDepth 100000 in
theorem spec_JoinHeaps.calls (A0_0 : Option Addr) (c0_0 : Nat) (l0_0 : List (S106)) (A1_0 : Option Addr) (c1_0 : Nat) (l1_0 : List (S79)) (A2_0 : Option Addr) (c2_0 : Nat) (l2_0 : List (S79)) (r1 : List (S79)) (r2 : Bool) (w : World) (hr0_0 : Kd.C k106 w A0_0 l0_0.length l0_0) (hc0_0 : l0_0.length ≤ c0_0) (hr1_0 : Kd.C k79 w A1_0 l1_0.length l1_0) (hc1_0 : l1_0.length ≤ c1_0) (hr2_0 : Kd.C k79 w A2_0 l2_0.length l2_0) (hc2_0 : l2_0.length ≤ c2_0) (h : spec_JoinHeaps.f l0_0 l1_0 l2_0 = some (r1,r2)) :
  Calls Try.prog 44 #[.agg #[.slice A0_0 l0_0.length c0_0],.agg #[.slice A1_0 l1_0.length c1_0],.agg #[.slice A2_0 l2_0.length c2_0]] w fun e w'=>∃ v0_ : Value,e = .returned (.tuple #[.agg #[v0_],.bool r2]) ∧ Kd.R k79 79 w' w.heap.size (fun _=>True) v0_ r1 ∧ Below w.heap.size w w':=by
 have hu33:=Try.underlying33
 have hu37:=Try.underlying37
 have hu79:=Try.underlying79
 have hsm : smT l0_0 = true ∧ (l1_0.length ≤ 2097152 ∧ l2_0.length ≤ 2097152):=by
  apply Classical.byContradiction
  intro hn
  rw [spec_JoinHeaps.f,if_neg hn] at h
  cases h
 rw [spec_JoinHeaps.f,if_pos hsm] at h
 have hR:=Option.some.inj h
 clear h
 obtain ⟨kv1,hv1⟩:=(spec_validHeap_ev l0_0 l1_0 hsm.1 hr0_0.2.1 hsm.2.1).out
 obtain ⟨kv2,hv2⟩:=(spec_validHeap_ev l0_0 l2_0 hsm.1 hr0_0.2.1 hsm.2.2).out
 have HV1:=a0_ (fun (W : World) (hb : Below w.heap.size w W)=>spec_validHeap.calls kv1 A0_0 c0_0 l0_0 A1_0 c1_0 l1_0 (vH l0_0 l1_0) W (Kd.C_below hr0_0 hb) hc0_0 (Kd.C_below hr1_0 hb) hc1_0 hv1)
 have HV2:=a0_ (fun (W : World) (hb : Below w.heap.size w W)=>spec_validHeap.calls kv2 A0_0 c0_0 l0_0 A2_0 c2_0 l2_0 (vH l0_0 l2_0) W (Kd.C_below hr0_0 hb) hc0_0 (Kd.C_below hr2_0 hb) hc2_0 hv2)
 have HV3:=a0_ (fun (W : World) (hb : Below w.heap.size w W) (A : Option Addr) (c : Nat) (l : List Fau) (hl : l.length ≤ 2097152) (hr : Kd.C k79 W A l.length l) (hc : l.length ≤ c)=>show Calls Try.prog 54 #[.agg #[.slice A0_0 l0_0.length c0_0],.agg #[.slice A l.length c]] W (fun e w'=>e = .returned (.bool (vH l0_0 l)) ∧ Below W.heap.size W w') from by
  obtain ⟨kv,hv⟩:=(spec_validHeap_ev l0_0 l hsm.1 hr0_0.2.1 hl).out
  exact spec_validHeap.calls kv A0_0 c0_0 l0_0 A c l (vH l0_0 l) W (Kd.C_below hr0_0 hb) hc0_0 hr hc hv)
 have HCL:=a0_ (fun (W : World) (hb : Below w.heap.size w W)=>spec_copyHeap.calls A1_0 c1_0 l1_0 l1_0 W (Kd.C_below hr1_0 hb) hc1_0 (spec_copyHeap_ev l1_0 hsm.2.1))
 have HR2:=a0_ hr2_0
 clear hv1 hv2
 have BT:=a0_ (blk_alloc (blk_alloc (heap_old2 w (.cells #[.slice A0_0 l0_0.length c0_0] 33) (.cells #[.slice A1_0 l1_0.length c1_0] 37)) (.cells #[.slice A2_0 l2_0.length c2_0] 37)) (.cells #[.slice none 0 0] 37))
 have BH:=a0_ (blk_alloc (blk_alloc (heap_new2 w (.cells #[.slice A0_0 l0_0.length c0_0] 33) (.cells #[.slice A1_0 l1_0.length c1_0] 37)) (.cells #[.slice A2_0 l2_0.length c2_0] 37)) (.cells #[.slice none 0 0] 37))
 have BG:=a0_ (show ((((w.alloc (.cells #[.slice A0_0 l0_0.length c0_0] 33)).alloc (.cells #[.slice A1_0 l1_0.length c1_0] 37)).alloc (.cells #[.slice A2_0 l2_0.length c2_0] 37)).alloc (.cells #[.slice none 0 0] 37)).heap[w.heap.size + 1 + 1]? = some (.cells #[.slice A2_0 l2_0.length c2_0] 37 (0,0)) by
  have:=blk_alloc (heap_new1 ((w.alloc (.cells #[.slice A0_0 l0_0.length c0_0] 33)).alloc (.cells #[.slice A1_0 l1_0.length c1_0] 37)) (.cells #[.slice A2_0 l2_0.length c2_0] 37)) (.cells #[.slice none 0 0] 37)
  simpa using this)
 have BZ:=a0_ (show ((((w.alloc (.cells #[.slice A0_0 l0_0.length c0_0] 33)).alloc (.cells #[.slice A1_0 l1_0.length c1_0] 37)).alloc (.cells #[.slice A2_0 l2_0.length c2_0] 37)).alloc (.cells #[.slice none 0 0] 37)).heap[w.heap.size + 1 + 1 + 1]? = some (.cells #[.slice none 0 0] 37 (0,0)) by
  have:=heap_new1 (((w.alloc (.cells #[.slice A0_0 l0_0.length c0_0] 33)).alloc (.cells #[.slice A1_0 l1_0.length c1_0] 37)).alloc (.cells #[.slice A2_0 l2_0.length c2_0] 37)) (.cells #[.slice none 0 0] 37)
  simpa using this)
 have HB:=a0_ (below_alloc (below_alloc (below2 w (.cells #[.slice A0_0 l0_0.length c0_0] 33) (.cells #[.slice A1_0 l1_0.length c1_0] 37)) (.cells #[.slice A2_0 l2_0.length c2_0] 37)) (.cells #[.slice none 0 0] 37))
 clear hr0_0 hr1_0 hr2_0 hsm
 go_enter Try.func44,Try.ntmps44
 go_upto_region 1 with (fail)
 generalize ((((w.alloc (.cells #[.slice A0_0 l0_0.length c0_0] 33)).alloc (.cells #[.slice A1_0 l1_0.length c1_0] 37)).alloc (.cells #[.slice A2_0 l2_0.length c2_0] 37)).alloc (.cells #[.slice none 0 0] 37)) = W0 at BT BH BG BZ HB ⊢
 have hct:=(blk_cell BT.out 0).trans rfl
 have hch:=(blk_cell BH.out 0).trans rfl
 have hcg:=(blk_cell BG.out 0).trans rfl
 have hcz : W0.cell? ⟨w.heap.size + 1 + 1 + 1,0,none⟩ = some (.slice none 0 0):=(blk_cell BZ.out 0).trans rfl
 have hfz:=blk_frozen BZ.out 0
 cases hq1 : vH l0_0 l1_0 with
 | false =>
  rw [joiP_no (by rw [hq1];simp)] at hR
  rw [hq1] at HV1
  clear hq1
  obtain ⟨rfl,rfl⟩:=Prod.mk.inj hR
  go_wp2_with (first | (go_at_call 54;(with_reducible refine (HV1.out _ HB.out).mono ?_);rintro e w' ⟨rfl,hb'⟩;replace BT:=a0_ (blk_keptB BT.out hb');replace BH:=a0_ (blk_keptB BH.out hb');replace BG:=a0_ (blk_keptB BG.out hb');replace BZ:=a0_ (blk_keptB BZ.out hb');replace HB:=a0_ (below_step HB.out hb');clear hb';clear hct hch hcg hcz hfz;have hct:=(blk_cell BT.out 0).trans rfl;have hch:=(blk_cell BH.out 0).trans rfl;have hcg:=(blk_cell BG.out 0).trans rfl;have hcz : w'.cell? ⟨w.heap.size + 1 + 1 + 1,0,none⟩ = some (.slice none 0 0):=(blk_cell BZ.out 0).trans rfl;have hfz:=blk_frozen BZ.out 0) | (go_at_call 54;(with_reducible refine (HV2.out _ HB.out).mono ?_);rintro e w' ⟨rfl,hb'⟩;replace BT:=a0_ (blk_keptB BT.out hb');replace BH:=a0_ (blk_keptB BH.out hb');replace BG:=a0_ (blk_keptB BG.out hb');replace BZ:=a0_ (blk_keptB BZ.out hb');replace HB:=a0_ (below_step HB.out hb');clear hb';clear hct hch hcg hcz hfz;have hct:=(blk_cell BT.out 0).trans rfl;have hch:=(blk_cell BH.out 0).trans rfl;have hcg:=(blk_cell BG.out 0).trans rfl;have hcz : w'.cell? ⟨w.heap.size + 1 + 1 + 1,0,none⟩ = some (.slice none 0 0):=(blk_cell BZ.out 0).trans rfl;have hfz:=blk_frozen BZ.out 0))
  refine bodyPost_ret (results_ct rfl _ _ (w.heap.size + 1 + 1 + 1) 37 #[.slice none 0 0] (0,0) _ rfl (blk_put BZ.out 0 _ rfl) Try.underlying37 rfl (by kernel_rfl)) rfl ?_
  exact ⟨_,rfl,Kd.R_nil _ _ _ _ _,below_set HB.out (by omega)⟩
 | true =>
  cases hq2 : vH l0_0 l2_0 with
  | false =>
   rw [joiP_no (by rw [hq2];simp)] at hR
   rw [hq1] at HV1
   rw [hq2] at HV2
   clear hq1 hq2
   obtain ⟨rfl,rfl⟩:=Prod.mk.inj hR
   go_wp2_with (first | (go_at_call 54;(with_reducible refine (HV1.out _ HB.out).mono ?_);rintro e w' ⟨rfl,hb'⟩;replace BT:=a0_ (blk_keptB BT.out hb');replace BH:=a0_ (blk_keptB BH.out hb');replace BG:=a0_ (blk_keptB BG.out hb');replace BZ:=a0_ (blk_keptB BZ.out hb');replace HB:=a0_ (below_step HB.out hb');clear hb';clear hct hch hcg hcz hfz;have hct:=(blk_cell BT.out 0).trans rfl;have hch:=(blk_cell BH.out 0).trans rfl;have hcg:=(blk_cell BG.out 0).trans rfl;have hcz : w'.cell? ⟨w.heap.size + 1 + 1 + 1,0,none⟩ = some (.slice none 0 0):=(blk_cell BZ.out 0).trans rfl;have hfz:=blk_frozen BZ.out 0) | (go_at_call 54;(with_reducible refine (HV2.out _ HB.out).mono ?_);rintro e w' ⟨rfl,hb'⟩;replace BT:=a0_ (blk_keptB BT.out hb');replace BH:=a0_ (blk_keptB BH.out hb');replace BG:=a0_ (blk_keptB BG.out hb');replace BZ:=a0_ (blk_keptB BZ.out hb');replace HB:=a0_ (below_step HB.out hb');clear hb';clear hct hch hcg hcz hfz;have hct:=(blk_cell BT.out 0).trans rfl;have hch:=(blk_cell BH.out 0).trans rfl;have hcg:=(blk_cell BG.out 0).trans rfl;have hcz : w'.cell? ⟨w.heap.size + 1 + 1 + 1,0,none⟩ = some (.slice none 0 0):=(blk_cell BZ.out 0).trans rfl;have hfz:=blk_frozen BZ.out 0))
   refine bodyPost_ret (results_ct rfl _ _ (w.heap.size + 1 + 1 + 1) 37 #[.slice none 0 0] (0,0) _ rfl (blk_put BZ.out 0 _ rfl) Try.underlying37 rfl (by kernel_rfl)) rfl ?_
   exact ⟨_,rfl,Kd.R_nil _ _ _ _ _,below_set HB.out (by omega)⟩
  | true =>
   have hp1:=vH_parts hq1
   have hp2:=vH_parts hq2
   rw [joiP_yes hq1 hq2] at hR
   rw [hq1] at HV1
   rw [hq2] at HV2
   have hl1:=hp1.2.2.2
   have hl2:=hp2.2.2.2
   have HFS:=a0_ hp2.1
   clear hq1 hq2 hp1 hp2
   go_upto_region 4 with (first | (go_at_call 54;(with_reducible refine (HV1.out _ HB.out).mono ?_);rintro e w' ⟨rfl,hb'⟩;replace BT:=a0_ (blk_keptB BT.out hb');replace BH:=a0_ (blk_keptB BH.out hb');replace BG:=a0_ (blk_keptB BG.out hb');replace BZ:=a0_ (blk_keptB BZ.out hb');replace HB:=a0_ (below_step HB.out hb');clear hb';clear hct hch hcg hcz hfz;have hct:=(blk_cell BT.out 0).trans rfl;have hch:=(blk_cell BH.out 0).trans rfl;have hcg:=(blk_cell BG.out 0).trans rfl;have hcz : w'.cell? ⟨w.heap.size + 1 + 1 + 1,0,none⟩ = some (.slice none 0 0):=(blk_cell BZ.out 0).trans rfl;have hfz:=blk_frozen BZ.out 0) | (go_at_call 54;(with_reducible refine (HV2.out _ HB.out).mono ?_);rintro e w' ⟨rfl,hb'⟩;replace BT:=a0_ (blk_keptB BT.out hb');replace BH:=a0_ (blk_keptB BH.out hb');replace BG:=a0_ (blk_keptB BG.out hb');replace BZ:=a0_ (blk_keptB BZ.out hb');replace HB:=a0_ (below_step HB.out hb');clear hb';clear hct hch hcg hcz hfz;have hct:=(blk_cell BT.out 0).trans rfl;have hch:=(blk_cell BH.out 0).trans rfl;have hcg:=(blk_cell BG.out 0).trans rfl;have hcz : w'.cell? ⟨w.heap.size + 1 + 1 + 1,0,none⟩ = some (.slice none 0 0):=(blk_cell BZ.out 0).trans rfl;have hfz:=blk_frozen BZ.out 0) | (go_at_call 74;refine (HCL.out _ HB.out).mono ?_;rintro e w' ⟨v0,rfl,ho4,hb'⟩;have HO4:=a0_ (Kd.R_lower ho4 (below_size HB.out));obtain ⟨A4,c4,e4⟩:=Kd.R_slice ho4;subst e4;clear ho4;replace BT:=a0_ (blk_keptB BT.out hb');replace BH:=a0_ (blk_keptB BH.out hb');replace BG:=a0_ (blk_keptB BG.out hb');replace BZ:=a0_ (blk_keptB BZ.out hb');replace HB:=a0_ (below_step HB.out hb');clear hb';clear hct hch hcg hcz hfz;have hct:=(blk_cell BT.out 0).trans rfl;have hch:=(blk_cell BH.out 0).trans rfl;have hcg:=(blk_cell BG.out 0).trans rfl;have hcz : w'.cell? ⟨w.heap.size + 1 + 1 + 1,0,none⟩ = some (.slice none 0 0):=(blk_cell BZ.out 0).trans rfl;have hfz:=blk_frozen BZ.out 0) | ((with_reducible refine gate_dst (N:=8) rfl ?_);refine box_event ?hg (N:=8) ?hd (cs:=#[.slice none 0 0]) (t:=37) ?hr ?_;(case hd=>rfl);(case hg=>rfl);(case hr=>first | (go_simp;done) | (go_simp;rfl));intro g8 hg w' hbox hb';have GE8:=a0_ ((by rw [hg];exact below_size HB.out) : w.heap.size ≤ g8);have HO8:=a0_ (Kd.R_below HO4.out hb');have B8:=a0_ hbox;have NT:=a0_ ((by rw [hg];exact Nat.ne_of_lt (blk_lt BT.out)) : w.heap.size ≠ g8);have NG:=a0_ ((by rw [hg];exact Nat.ne_of_lt (blk_lt BG.out)) : w.heap.size + 1 + 1 ≠ g8);have NZ:=a0_ ((by rw [hg];exact Nat.ne_of_lt (blk_lt BZ.out)) : w.heap.size + 1 + 1 + 1 ≠ g8);have NH:=a0_ ((by rw [hg];exact Nat.ne_of_lt (blk_lt BH.out)) : w.heap.size + 1 ≠ g8);clear hbox HO4 hg;have ht1:=NT.out;have ht2:=Ne.symm NT.out;have hg1:=NG.out;have hg2:=Ne.symm NG.out;have hz1:=NZ.out;have hz2:=Ne.symm NZ.out;have hh1:=NH.out;have hh2:=Ne.symm NH.out;replace BT:=a0_ (blk_keptB BT.out hb');replace BH:=a0_ (blk_keptB BH.out hb');replace BG:=a0_ (blk_keptB BG.out hb');replace BZ:=a0_ (blk_keptB BZ.out hb');replace HB:=a0_ (below_step HB.out hb');clear hb';clear hct hch hcg hcz hfz;have hct:=(blk_cell BT.out 0).trans rfl;have hch:=(blk_cell BH.out 0).trans rfl;have hcg:=(blk_cell BG.out 0).trans rfl;have hcz : w'.cell? ⟨w.heap.size + 1 + 1 + 1,0,none⟩ = some (.slice none 0 0):=(blk_cell BZ.out 0).trans rfl;have hfz:=blk_frozen BZ.out 0;have hc8 : w'.cell? ⟨g8,0,none⟩ = some (.slice none 0 0):=(blk_cell B8.out 0).trans rfl;have hf8:=blk_frozen B8.out 0))
   have h3:=Kd.R_set HO8.out B8.out (by decide) 0 (.slice A4 l1_0.length c4)
   go_wp2
   go_loopg [10] l2_0.length (fun gg s10 wr=>∃ (kk : Nat) (u8 : Value),kk ≤ l2_0.length ∧ l2_0.length - kk ≤ gg ∧ s10 = .int .i64 kk ∧ Aside0 (Kd.R k79 79 wr w.heap.size (fun _=>True) u8 (l1_0 ++ (l2_0.take kk).map (shF l1_0.length))) ∧ Aside0 (wr.heap[g8]? = some (.cells #[u8] 37 (0,0))) ∧ Aside0 (Below w.heap.size w wr) ∧ Aside0 (wr.heap[w.heap.size]? = some (.cells #[.slice A0_0 l0_0.length c0_0] 33 (0,0))) ∧ Aside0 (wr.heap[w.heap.size + 1 + 1]? = some (.cells #[.slice A2_0 l2_0.length c2_0] 37 (0,0))) ∧ Aside0 (wr.heap[w.heap.size + 1 + 1 + 1]? = some (.cells #[.slice none 0 0] 37 (0,0))))
   case atStart =>
    exact ⟨0,_,Nat.zero_le _,by omega,rfl,⟨by simpa using h3⟩,⟨blk_put B8.out 0 _ rfl⟩,⟨below_set HB.out GE8.out⟩,⟨blk_far BT.out NT.out _⟩,⟨blk_far BG.out NG.out _⟩,⟨blk_far BZ.out NZ.out _⟩⟩
   case round =>
    clear HB BH BZ BT BG B8 HO8 h3 hct hch hcg hcz hfz hc8 hf8
    obtain ⟨kk,u8,hkk,hg,rfl,HO,B8,HB,BT,BG,BZ⟩:=hrel
    have hcg:=(blk_cell BG.out 0).trans rfl
    have hc8 : wr.cell? ⟨g8,0,none⟩ = some u8:=(blk_cell B8.out 0).trans rfl
    have hf8:=blk_frozen B8.out 0
    by_cases hlt : kk < l2_0.length
    ·have hltz : (kk : Int) < (l2_0.length : Int):=by omega
     obtain ⟨ad,ea,hx0,hx1,hx2,hx3,hx4⟩:=at_T79 HR2.out (kk : Int) (by omega) (by omega)
     cases ea
     have hrd : rd_T79 l2_0 (kk : Int) = l2_0[kk]:=by simp [rd_T79,hlt]
     rw [hrd] at hx0 hx1 hx2 hx3 hx4
     rw [Int.toNat_natCast] at hx0 hx1 hx2 hx3 hx4
     replace hx0:=(HB.out.cell (World.block_lt_of_cell? w _ hx0)).trans hx0
     replace hx1:=(HB.out.cell (World.block_lt_of_cell? w _ hx1)).trans hx1
     replace hx2:=(HB.out.cell (World.block_lt_of_cell? w _ hx2)).trans hx2
     replace hx3:=(HB.out.cell (World.block_lt_of_cell? w _ hx3)).trans hx3
     replace hx4:=(HB.out.cell (World.block_lt_of_cell? w _ hx4)).trans hx4
     have hst:=shF_take l1_0 l2_0 kk hlt
     have hlen : (l1_0 ++ (l2_0.take kk).map (shF l1_0.length)).length ≤ 48:=by simp;omega
     have b2:=fsH_cause HFS.out (kk : Int) (by omega) hltz
     have b3:=fsH_ctx HFS.out (kk : Int) (by omega) hltz
     unfold ctxN at b3
     have hgd : l2_0.getD (kk : Int).toNat z79 = l2_0[kk]:=by simp [hlt]
     rw [hgd] at b2 b3
     clear hrd hgd
     generalize l1_0 ++ (l2_0.take kk).map (shF l1_0.length) = acc at HO hst hlen
     generalize l2_0[kk] = y at hx0 hx1 hx2 hx3 hx4 hst b2 b3
     obtain ⟨y0,y1,y2,y3,y4⟩:=y
     simp only at b2 b3
     have hsf : shF l1_0.length ⟨y0,y1,y2,y3,y4⟩ = ⟨y0,y1,if 0 ≤ y2 then y2 + (l1_0.length : Int) else y2,if 0 ≤ y3 then y3 + (l1_0.length : Int) else y3,y4⟩:=rfl
     rw [hsf] at hst
     clear hsf
     obtain ⟨A8,c8,e8⟩:=Kd.R_slice HO.out
     subst e8
     skip
     go_upto_region 9 with (first | ((with_reducible refine gate_dst (N:=11) rfl ?_);refine box_event ?hg (N:=11) ?hd (cs:=#[.int .i64 0,.int .i64 0,.int .i64 0,.int .i64 0,.bool false]) (t:=79) ?hr ?_;(case hd=>rfl);(case hg=>rfl);(case hr=>first | (go_simp;done) | (go_simp;rfl));intro g9 hg w' hbox hb';have GE9:=a0_ ((by rw [hg];exact below_size HB.out) : w.heap.size ≤ g9);replace HO:=a0_ (Kd.R_below (Kd.R_elderB HO.out g9 (Nat.le_of_eq hg.symm)) hb');have B9:=a0_ hbox;have MT:=a0_ ((by rw [hg];exact Nat.ne_of_lt (blk_lt BT.out)) : w.heap.size ≠ g9);have MG:=a0_ ((by rw [hg];exact Nat.ne_of_lt (blk_lt BG.out)) : w.heap.size + 1 + 1 ≠ g9);have MZ:=a0_ ((by rw [hg];exact Nat.ne_of_lt (blk_lt BZ.out)) : w.heap.size + 1 + 1 + 1 ≠ g9);have M8:=a0_ ((by rw [hg];exact Nat.ne_of_lt (blk_lt B8.out)) : g8 ≠ g9);clear hbox hg;have mt1:=MT.out;have mt2:=Ne.symm MT.out;have mg1:=MG.out;have mg2:=Ne.symm MG.out;have mz1:=MZ.out;have mz2:=Ne.symm MZ.out;have m81:=M8.out;have m82:=Ne.symm M8.out;replace BT:=a0_ (blk_keptB BT.out hb');replace BG:=a0_ (blk_keptB BG.out hb');replace BZ:=a0_ (blk_keptB BZ.out hb');replace B8:=a0_ (blk_keptB B8.out hb');replace HB:=a0_ (below_step HB.out hb');clear hb' hcg hc8 hf8;have hz0 : w'.cell? ⟨g9,0,none⟩ = some (.int .i64 0):=(blk_cell B9.out 0).trans rfl;have hw0:=blk_frozen B9.out 0 ;have hz1 : w'.cell? ⟨g9,1,none⟩ = some (.int .i64 0):=(blk_cell B9.out 1).trans rfl;have hw1:=blk_frozen B9.out 1 ;have hz2 : w'.cell? ⟨g9,2,none⟩ = some (.int .i64 0):=(blk_cell B9.out 2).trans rfl;have hw2:=blk_frozen B9.out 2 ;have hz3 : w'.cell? ⟨g9,3,none⟩ = some (.int .i64 0):=(blk_cell B9.out 3).trans rfl;have hw3:=blk_frozen B9.out 3 ;have hz4 : w'.cell? ⟨g9,4,none⟩ = some (.bool false):=(blk_cell B9.out 4).trans rfl;have hw4:=blk_frozen B9.out 4))
     have HOx:=(Kd.R_far (p:=⟨g9,4,none⟩) (Kd.R_far (p:=⟨g9,3,none⟩) (Kd.R_far (p:=⟨g9,2,none⟩) (Kd.R_far (p:=⟨g9,1,none⟩) (Kd.R_far (p:=⟨g9,0,none⟩) HO.out (fun _ hk=>hk.2) (.int .i64 y0)) (fun _ hk=>hk.2) (.int .i64 y1)) (fun _ hk=>hk.2) (.int .i64 y2)) (fun _ hk=>hk.2) (.int .i64 y3)) (fun _ hk=>hk.2) (.bool y4))
     have B9x:=(blk_put (cs':=#[.int .i64 y0,.int .i64 y1,.int .i64 y2,.int .i64 y3,.bool y4]) (blk_put (cs':=#[.int .i64 y0,.int .i64 y1,.int .i64 y2,.int .i64 y3,.bool false]) (blk_put (cs':=#[.int .i64 y0,.int .i64 y1,.int .i64 y2,.int .i64 0,.bool false]) (blk_put (cs':=#[.int .i64 y0,.int .i64 y1,.int .i64 0,.int .i64 0,.bool false]) (blk_put (cs':=#[.int .i64 y0,.int .i64 0,.int .i64 0,.int .i64 0,.bool false]) B9.out 0 (.int .i64 y0) rfl) 1 (.int .i64 y1) rfl) 2 (.int .i64 y2) rfl) 3 (.int .i64 y3) rfl) 4 (.bool y4) rfl)
     have BTx:=(blk_far (p:=⟨g9,4,none⟩) (blk_far (p:=⟨g9,3,none⟩) (blk_far (p:=⟨g9,2,none⟩) (blk_far (p:=⟨g9,1,none⟩) (blk_far (p:=⟨g9,0,none⟩) BT.out MT.out (.int .i64 y0)) MT.out (.int .i64 y1)) MT.out (.int .i64 y2)) MT.out (.int .i64 y3)) MT.out (.bool y4))
     have BGx:=(blk_far (p:=⟨g9,4,none⟩) (blk_far (p:=⟨g9,3,none⟩) (blk_far (p:=⟨g9,2,none⟩) (blk_far (p:=⟨g9,1,none⟩) (blk_far (p:=⟨g9,0,none⟩) BG.out MG.out (.int .i64 y0)) MG.out (.int .i64 y1)) MG.out (.int .i64 y2)) MG.out (.int .i64 y3)) MG.out (.bool y4))
     have BZx:=(blk_far (p:=⟨g9,4,none⟩) (blk_far (p:=⟨g9,3,none⟩) (blk_far (p:=⟨g9,2,none⟩) (blk_far (p:=⟨g9,1,none⟩) (blk_far (p:=⟨g9,0,none⟩) BZ.out MZ.out (.int .i64 y0)) MZ.out (.int .i64 y1)) MZ.out (.int .i64 y2)) MZ.out (.int .i64 y3)) MZ.out (.bool y4))
     have B8x:=(blk_far (p:=⟨g9,4,none⟩) (blk_far (p:=⟨g9,3,none⟩) (blk_far (p:=⟨g9,2,none⟩) (blk_far (p:=⟨g9,1,none⟩) (blk_far (p:=⟨g9,0,none⟩) B8.out M8.out (.int .i64 y0)) M8.out (.int .i64 y1)) M8.out (.int .i64 y2)) M8.out (.int .i64 y3)) M8.out (.bool y4))
     have HBx:=(below_set (j:=4) (v:=.bool y4) (below_set (j:=3) (v:=.int .i64 y3) (below_set (j:=2) (v:=.int .i64 y2) (below_set (j:=1) (v:=.int .i64 y1) (below_set (j:=0) (v:=.int .i64 y0) HB.out GE9.out) GE9.out) GE9.out) GE9.out) GE9.out)
     clear HO B9 BT BG BZ B8 HB hx0 hx1 hx2 hx3 hx4 hz0 hz1 hz2 hz3 hz4 hw0 hw1 hw2 hw3 hw4
     have HO:=a0_ HOx
     have B9:=a0_ B9x
     have BT:=a0_ BTx
     have BG:=a0_ BGx
     have BZ:=a0_ BZx
     have B8:=a0_ B8x
     have HB:=a0_ HBx
     clear HOx B9x BTx BGx BZx B8x HBx
     generalize hW5 : (((((w'.setCell ⟨g9,0,none⟩ (.int .i64 y0)).setCell ⟨g9,1,none⟩ (.int .i64 y1)).setCell ⟨g9,2,none⟩ (.int .i64 y2)).setCell ⟨g9,3,none⟩ (.int .i64 y3)).setCell ⟨g9,4,none⟩ (.bool y4)) = W5 at HO B9 BT BG BZ B8 HB ⊢
     clear hW5
     have hy0 : W5.cell? ⟨g9,0,none⟩ = some (.int .i64 y0):=(blk_cell B9.out 0).trans rfl
     have hy1 : W5.cell? ⟨g9,1,none⟩ = some (.int .i64 y1):=(blk_cell B9.out 1).trans rfl
     have hy2 : W5.cell? ⟨g9,2,none⟩ = some (.int .i64 y2):=(blk_cell B9.out 2).trans rfl
     have hy3 : W5.cell? ⟨g9,3,none⟩ = some (.int .i64 y3):=(blk_cell B9.out 3).trans rfl
     have hy4 : W5.cell? ⟨g9,4,none⟩ = some (.bool y4):=(blk_cell B9.out 4).trans rfl
     have hw2:=blk_frozen B9.out 2
     have hw3:=blk_frozen B9.out 3
     have hc8 : W5.cell? ⟨g8,0,none⟩ = some (.slice A8 acc.length c8):=(blk_cell B8.out 0).trans rfl
     have hf8:=blk_frozen B8.out 0
     by_cases h2 : 0 ≤ y2
     ·rw [if_pos h2] at hst
      have d2 : decide (0 ≤ y2) = true:=decide_eq_true h2
      clear h2
      have o2:=wrap_in (i:=y2 + (l1_0.length : Int)) (by omega) (by omega)
      go_upto_region 11 with (fail)
      have HOx:=Kd.R_far (p:=⟨g9,2,none⟩) HO.out (fun _ hk=>hk.2) (.int .i64 (y2 + (l1_0.length : Int)))
      have B9x:=blk_put (cs':=#[.int .i64 y0,.int .i64 y1,.int .i64 (y2 + (l1_0.length : Int)),.int .i64 y3,.bool y4]) B9.out 2 (.int .i64 (y2 + (l1_0.length : Int))) rfl
      have BTx:=blk_far (p:=⟨g9,2,none⟩) BT.out MT.out (.int .i64 (y2 + (l1_0.length : Int)))
      have BGx:=blk_far (p:=⟨g9,2,none⟩) BG.out MG.out (.int .i64 (y2 + (l1_0.length : Int)))
      have BZx:=blk_far (p:=⟨g9,2,none⟩) BZ.out MZ.out (.int .i64 (y2 + (l1_0.length : Int)))
      have B8x:=blk_far (p:=⟨g9,2,none⟩) B8.out M8.out (.int .i64 (y2 + (l1_0.length : Int)))
      have HBx:=below_set (j:=2) (v:=.int .i64 (y2 + (l1_0.length : Int))) HB.out GE9.out
      clear HO B9 BT BG BZ B8 HB
      have HO:=a0_ HOx
      have B9:=a0_ B9x
      have BT:=a0_ BTx
      have BG:=a0_ BGx
      have BZ:=a0_ BZx
      have B8:=a0_ B8x
      have HB:=a0_ HBx
      clear HOx B9x BTx BGx BZx B8x HBx hy0 hy1 hy2 hy3 hy4 hc8 hf8 hw2 hw3
      generalize W5.setCell ⟨g9,2,none⟩ (.int .i64 (y2 + (l1_0.length : Int))) = W6 at HO B9 BT BG BZ B8 HB ⊢
      have hy0 : W6.cell? ⟨g9,0,none⟩ = some (.int .i64 y0):=(blk_cell B9.out 0).trans rfl
      have hy1 : W6.cell? ⟨g9,1,none⟩ = some (.int .i64 y1):=(blk_cell B9.out 1).trans rfl
      have hy2 : W6.cell? ⟨g9,2,none⟩ = some (.int .i64 (y2 + (l1_0.length : Int))):=(blk_cell B9.out 2).trans rfl
      have hy3 : W6.cell? ⟨g9,3,none⟩ = some (.int .i64 y3):=(blk_cell B9.out 3).trans rfl
      have hy4 : W6.cell? ⟨g9,4,none⟩ = some (.bool y4):=(blk_cell B9.out 4).trans rfl
      have hw2:=blk_frozen B9.out 2
      have hw3:=blk_frozen B9.out 3
      have hc8 : W6.cell? ⟨g8,0,none⟩ = some (.slice A8 acc.length c8):=(blk_cell B8.out 0).trans rfl
      have hf8:=blk_frozen B8.out 0
      by_cases h3 : 0 ≤ y3
      ·rw [if_pos h3] at hst
       have d3 : decide (0 ≤ y3) = true:=decide_eq_true h3
       clear h3
       have o3:=wrap_in (i:=y3 + (l1_0.length : Int)) (by omega) (by omega)
       go_upto_region 13 with (fail)
       skip
       have HOx:=Kd.R_far (p:=⟨g9,3,none⟩) HO.out (fun _ hk=>hk.2) (.int .i64 (y3 + (l1_0.length : Int)))
       have B9x:=blk_put (cs':=#[.int .i64 y0,.int .i64 y1,.int .i64 (y2 + (l1_0.length : Int)),.int .i64 (y3 + (l1_0.length : Int)),.bool y4]) B9.out 3 (.int .i64 (y3 + (l1_0.length : Int))) rfl
       have BTx:=blk_far (p:=⟨g9,3,none⟩) BT.out MT.out (.int .i64 (y3 + (l1_0.length : Int)))
       have BGx:=blk_far (p:=⟨g9,3,none⟩) BG.out MG.out (.int .i64 (y3 + (l1_0.length : Int)))
       have BZx:=blk_far (p:=⟨g9,3,none⟩) BZ.out MZ.out (.int .i64 (y3 + (l1_0.length : Int)))
       have B8x:=blk_far (p:=⟨g9,3,none⟩) B8.out M8.out (.int .i64 (y3 + (l1_0.length : Int)))
       have HBx:=below_set (j:=3) (v:=.int .i64 (y3 + (l1_0.length : Int))) HB.out GE9.out
       clear HO B9 BT BG BZ B8 HB
       have HO:=a0_ HOx
       have B9:=a0_ B9x
       have BT:=a0_ BTx
       have BG:=a0_ BGx
       have BZ:=a0_ BZx
       have B8:=a0_ B8x
       have HB:=a0_ HBx
       clear HOx B9x BTx BGx BZx B8x HBx hy0 hy1 hy2 hy3 hy4 hc8 hf8 hw2 hw3
       generalize W6.setCell ⟨g9,3,none⟩ (.int .i64 (y3 + (l1_0.length : Int))) = W6b at HO B9 BT BG BZ B8 HB ⊢
       have hy0 : W6b.cell? ⟨g9,0,none⟩ = some (.int .i64 y0):=(blk_cell B9.out 0).trans rfl
       have hy1 : W6b.cell? ⟨g9,1,none⟩ = some (.int .i64 y1):=(blk_cell B9.out 1).trans rfl
       have hy2 : W6b.cell? ⟨g9,2,none⟩ = some (.int .i64 (y2 + (l1_0.length : Int))):=(blk_cell B9.out 2).trans rfl
       have hy3 : W6b.cell? ⟨g9,3,none⟩ = some (.int .i64 (y3 + (l1_0.length : Int))):=(blk_cell B9.out 3).trans rfl
       have hy4 : W6b.cell? ⟨g9,4,none⟩ = some (.bool y4):=(blk_cell B9.out 4).trans rfl
       have hw2:=blk_frozen B9.out 2
       have hw3:=blk_frozen B9.out 3
       have hc8 : W6b.cell? ⟨g8,0,none⟩ = some (.slice A8 acc.length c8):=(blk_cell B8.out 0).trans rfl
       have hf8:=blk_frozen B8.out 0
       go_wp2_with ((with_reducible refine gate_builtin (b:=.append) (xs:=#[.tmp 57,.tmp 59]) rfl ?_);at_builtin;refine Kd.R_append k79 (w0:=w) w.heap.size rfl (.tmp 57) (.tmp 59) 35 79 (.agg #[(.int .i64 0),(.int .i64 0),(.int .i64 0),(.int .i64 0),(.bool false)]) 40 rfl Try.underlying35 info79 rfl (by decide) (by omega) (.slice A8 acc.length c8) acc (⟨y0,y1,(y2 + (l1_0.length : Int)),(y3 + (l1_0.length : Int)),y4⟩ : S79) [.int .i64 y0,.int .i64 y1,.int .i64 (y2 + (l1_0.length : Int)),.int .i64 (y3 + (l1_0.length : Int)),.bool y4] (fun k_=>k_ ≠ g9) (fun _=>False) rfl ?aV ?aP (fun _ hk=>hk.elim) ?aF ?aO HB.out (below_size HB.out) (by omega) ?_;(case aV=>first | (go_simp;done) | (go_simp;rfl));(case aP=>exact k79_mkM _ _ _ (⟨y0,y1,(y2 + (l1_0.length : Int)),(y3 + (l1_0.length : Int)),y4⟩ : S79));(case aF=>exact fun k_ hk=>Kd.freshB B9.out k_ hk);(case aO=>exact Kd.R_mono HO.out (fun _ hk=>hk.2));intro v3 w3 ho hb hg3 hat;replace B8:=a0_ (blk_grown B8.out hg3 (Kd.R_ne HO.out B8.out (by decide)));replace BT:=a0_ (blk_grown BT.out hg3 (Kd.R_ne HO.out BT.out (by decide)));replace BG:=a0_ (blk_grown BG.out hg3 (Kd.R_ne HO.out BG.out (by decide)));replace BZ:=a0_ (blk_grown BZ.out hg3 (Kd.R_ne HO.out BZ.out (by decide)));have HO3:=a0_ (Kd.R_mono ho (fun _ _=>trivial));replace HB:=a0_ hb;obtain ⟨A3,c3,e3⟩:=Kd.R_slice ho;subst e3;clear ho hb hg3 hat HO B9 hc8 hf8 hy0 hy1 hy2 hy3 hy4 hw2 hw3;have hc8 : w3.cell? ⟨g8,0,none⟩ = some (.slice A8 acc.length c8):=(blk_cell B8.out 0).trans rfl;have hf8:=blk_frozen B8.out 0)
       go_roundg (l2_0.length - (kk + 1))
       case measure=>omega
       case rel =>
        refine ⟨kk + 1,_,by omega,by omega,by go_num,⟨?_⟩,⟨blk_put B8.out 0 _ rfl⟩,⟨below_set HB.out GE8.out⟩,⟨blk_far BT.out NT.out _⟩,⟨blk_far BG.out NG.out _⟩,⟨blk_far BZ.out NZ.out _⟩⟩
        have h3:=Kd.R_set HO3.out B8.out (by decide) 0 (.slice A3 (acc ++ [(⟨y0,y1,(y2 + (l1_0.length : Int)),(y3 + (l1_0.length : Int)),y4⟩ : S79)]).length c3)
        rw [hst]
        rw [List.length_append] at h3
        exact h3
      ·rw [if_neg h3] at hst
       have d3 : decide (0 ≤ y3) = false:=decide_eq_false h3
       clear h3
       go_wp2_with ((with_reducible refine gate_builtin (b:=.append) (xs:=#[.tmp 57,.tmp 59]) rfl ?_);at_builtin;refine Kd.R_append k79 (w0:=w) w.heap.size rfl (.tmp 57) (.tmp 59) 35 79 (.agg #[(.int .i64 0),(.int .i64 0),(.int .i64 0),(.int .i64 0),(.bool false)]) 40 rfl Try.underlying35 info79 rfl (by decide) (by omega) (.slice A8 acc.length c8) acc (⟨y0,y1,(y2 + (l1_0.length : Int)),y3,y4⟩ : S79) [.int .i64 y0,.int .i64 y1,.int .i64 (y2 + (l1_0.length : Int)),.int .i64 y3,.bool y4] (fun k_=>k_ ≠ g9) (fun _=>False) rfl ?aV ?aP (fun _ hk=>hk.elim) ?aF ?aO HB.out (below_size HB.out) (by omega) ?_;(case aV=>first | (go_simp;done) | (go_simp;rfl));(case aP=>exact k79_mkM _ _ _ (⟨y0,y1,(y2 + (l1_0.length : Int)),y3,y4⟩ : S79));(case aF=>exact fun k_ hk=>Kd.freshB B9.out k_ hk);(case aO=>exact Kd.R_mono HO.out (fun _ hk=>hk.2));intro v3 w3 ho hb hg3 hat;replace B8:=a0_ (blk_grown B8.out hg3 (Kd.R_ne HO.out B8.out (by decide)));replace BT:=a0_ (blk_grown BT.out hg3 (Kd.R_ne HO.out BT.out (by decide)));replace BG:=a0_ (blk_grown BG.out hg3 (Kd.R_ne HO.out BG.out (by decide)));replace BZ:=a0_ (blk_grown BZ.out hg3 (Kd.R_ne HO.out BZ.out (by decide)));have HO3:=a0_ (Kd.R_mono ho (fun _ _=>trivial));replace HB:=a0_ hb;obtain ⟨A3,c3,e3⟩:=Kd.R_slice ho;subst e3;clear ho hb hg3 hat HO B9 hc8 hf8 hy0 hy1 hy2 hy3 hy4 hw2 hw3;have hc8 : w3.cell? ⟨g8,0,none⟩ = some (.slice A8 acc.length c8):=(blk_cell B8.out 0).trans rfl;have hf8:=blk_frozen B8.out 0)
       go_roundg (l2_0.length - (kk + 1))
       case measure=>omega
       case rel =>
        refine ⟨kk + 1,_,by omega,by omega,by go_num,⟨?_⟩,⟨blk_put B8.out 0 _ rfl⟩,⟨below_set HB.out GE8.out⟩,⟨blk_far BT.out NT.out _⟩,⟨blk_far BG.out NG.out _⟩,⟨blk_far BZ.out NZ.out _⟩⟩
        have h3:=Kd.R_set HO3.out B8.out (by decide) 0 (.slice A3 (acc ++ [(⟨y0,y1,(y2 + (l1_0.length : Int)),y3,y4⟩ : S79)]).length c3)
        rw [hst]
        rw [List.length_append] at h3
        exact h3
     ·rw [if_neg h2] at hst
      have d2 : decide (0 ≤ y2) = false:=decide_eq_false h2
      clear h2
      by_cases h3 : 0 ≤ y3
      ·rw [if_pos h3] at hst
       have d3 : decide (0 ≤ y3) = true:=decide_eq_true h3
       clear h3
       have o3:=wrap_in (i:=y3 + (l1_0.length : Int)) (by omega) (by omega)
       go_upto_region 13 with (fail)
       skip
       have HOx:=Kd.R_far (p:=⟨g9,3,none⟩) HO.out (fun _ hk=>hk.2) (.int .i64 (y3 + (l1_0.length : Int)))
       have B9x:=blk_put (cs':=#[.int .i64 y0,.int .i64 y1,.int .i64 y2,.int .i64 (y3 + (l1_0.length : Int)),.bool y4]) B9.out 3 (.int .i64 (y3 + (l1_0.length : Int))) rfl
       have BTx:=blk_far (p:=⟨g9,3,none⟩) BT.out MT.out (.int .i64 (y3 + (l1_0.length : Int)))
       have BGx:=blk_far (p:=⟨g9,3,none⟩) BG.out MG.out (.int .i64 (y3 + (l1_0.length : Int)))
       have BZx:=blk_far (p:=⟨g9,3,none⟩) BZ.out MZ.out (.int .i64 (y3 + (l1_0.length : Int)))
       have B8x:=blk_far (p:=⟨g9,3,none⟩) B8.out M8.out (.int .i64 (y3 + (l1_0.length : Int)))
       have HBx:=below_set (j:=3) (v:=.int .i64 (y3 + (l1_0.length : Int))) HB.out GE9.out
       clear HO B9 BT BG BZ B8 HB
       have HO:=a0_ HOx
       have B9:=a0_ B9x
       have BT:=a0_ BTx
       have BG:=a0_ BGx
       have BZ:=a0_ BZx
       have B8:=a0_ B8x
       have HB:=a0_ HBx
       clear HOx B9x BTx BGx BZx B8x HBx hy0 hy1 hy2 hy3 hy4 hc8 hf8 hw2 hw3
       generalize W5.setCell ⟨g9,3,none⟩ (.int .i64 (y3 + (l1_0.length : Int))) = W5b at HO B9 BT BG BZ B8 HB ⊢
       have hy0 : W5b.cell? ⟨g9,0,none⟩ = some (.int .i64 y0):=(blk_cell B9.out 0).trans rfl
       have hy1 : W5b.cell? ⟨g9,1,none⟩ = some (.int .i64 y1):=(blk_cell B9.out 1).trans rfl
       have hy2 : W5b.cell? ⟨g9,2,none⟩ = some (.int .i64 y2):=(blk_cell B9.out 2).trans rfl
       have hy3 : W5b.cell? ⟨g9,3,none⟩ = some (.int .i64 (y3 + (l1_0.length : Int))):=(blk_cell B9.out 3).trans rfl
       have hy4 : W5b.cell? ⟨g9,4,none⟩ = some (.bool y4):=(blk_cell B9.out 4).trans rfl
       have hw2:=blk_frozen B9.out 2
       have hw3:=blk_frozen B9.out 3
       have hc8 : W5b.cell? ⟨g8,0,none⟩ = some (.slice A8 acc.length c8):=(blk_cell B8.out 0).trans rfl
       have hf8:=blk_frozen B8.out 0
       go_wp2_with ((with_reducible refine gate_builtin (b:=.append) (xs:=#[.tmp 57,.tmp 59]) rfl ?_);at_builtin;refine Kd.R_append k79 (w0:=w) w.heap.size rfl (.tmp 57) (.tmp 59) 35 79 (.agg #[(.int .i64 0),(.int .i64 0),(.int .i64 0),(.int .i64 0),(.bool false)]) 40 rfl Try.underlying35 info79 rfl (by decide) (by omega) (.slice A8 acc.length c8) acc (⟨y0,y1,y2,(y3 + (l1_0.length : Int)),y4⟩ : S79) [.int .i64 y0,.int .i64 y1,.int .i64 y2,.int .i64 (y3 + (l1_0.length : Int)),.bool y4] (fun k_=>k_ ≠ g9) (fun _=>False) rfl ?aV ?aP (fun _ hk=>hk.elim) ?aF ?aO HB.out (below_size HB.out) (by omega) ?_;(case aV=>first | (go_simp;done) | (go_simp;rfl));(case aP=>exact k79_mkM _ _ _ (⟨y0,y1,y2,(y3 + (l1_0.length : Int)),y4⟩ : S79));(case aF=>exact fun k_ hk=>Kd.freshB B9.out k_ hk);(case aO=>exact Kd.R_mono HO.out (fun _ hk=>hk.2));intro v3 w3 ho hb hg3 hat;replace B8:=a0_ (blk_grown B8.out hg3 (Kd.R_ne HO.out B8.out (by decide)));replace BT:=a0_ (blk_grown BT.out hg3 (Kd.R_ne HO.out BT.out (by decide)));replace BG:=a0_ (blk_grown BG.out hg3 (Kd.R_ne HO.out BG.out (by decide)));replace BZ:=a0_ (blk_grown BZ.out hg3 (Kd.R_ne HO.out BZ.out (by decide)));have HO3:=a0_ (Kd.R_mono ho (fun _ _=>trivial));replace HB:=a0_ hb;obtain ⟨A3,c3,e3⟩:=Kd.R_slice ho;subst e3;clear ho hb hg3 hat HO B9 hc8 hf8 hy0 hy1 hy2 hy3 hy4 hw2 hw3;have hc8 : w3.cell? ⟨g8,0,none⟩ = some (.slice A8 acc.length c8):=(blk_cell B8.out 0).trans rfl;have hf8:=blk_frozen B8.out 0)
       go_roundg (l2_0.length - (kk + 1))
       case measure=>omega
       case rel =>
        refine ⟨kk + 1,_,by omega,by omega,by go_num,⟨?_⟩,⟨blk_put B8.out 0 _ rfl⟩,⟨below_set HB.out GE8.out⟩,⟨blk_far BT.out NT.out _⟩,⟨blk_far BG.out NG.out _⟩,⟨blk_far BZ.out NZ.out _⟩⟩
        have h3:=Kd.R_set HO3.out B8.out (by decide) 0 (.slice A3 (acc ++ [(⟨y0,y1,y2,(y3 + (l1_0.length : Int)),y4⟩ : S79)]).length c3)
        rw [hst]
        rw [List.length_append] at h3
        exact h3
      ·rw [if_neg h3] at hst
       have d3 : decide (0 ≤ y3) = false:=decide_eq_false h3
       clear h3
       go_wp2_with ((with_reducible refine gate_builtin (b:=.append) (xs:=#[.tmp 57,.tmp 59]) rfl ?_);at_builtin;refine Kd.R_append k79 (w0:=w) w.heap.size rfl (.tmp 57) (.tmp 59) 35 79 (.agg #[(.int .i64 0),(.int .i64 0),(.int .i64 0),(.int .i64 0),(.bool false)]) 40 rfl Try.underlying35 info79 rfl (by decide) (by omega) (.slice A8 acc.length c8) acc (⟨y0,y1,y2,y3,y4⟩ : S79) [.int .i64 y0,.int .i64 y1,.int .i64 y2,.int .i64 y3,.bool y4] (fun k_=>k_ ≠ g9) (fun _=>False) rfl ?aV ?aP (fun _ hk=>hk.elim) ?aF ?aO HB.out (below_size HB.out) (by omega) ?_;(case aV=>first | (go_simp;done) | (go_simp;rfl));(case aP=>exact k79_mkM _ _ _ (⟨y0,y1,y2,y3,y4⟩ : S79));(case aF=>exact fun k_ hk=>Kd.freshB B9.out k_ hk);(case aO=>exact Kd.R_mono HO.out (fun _ hk=>hk.2));intro v3 w3 ho hb hg3 hat;replace B8:=a0_ (blk_grown B8.out hg3 (Kd.R_ne HO.out B8.out (by decide)));replace BT:=a0_ (blk_grown BT.out hg3 (Kd.R_ne HO.out BT.out (by decide)));replace BG:=a0_ (blk_grown BG.out hg3 (Kd.R_ne HO.out BG.out (by decide)));replace BZ:=a0_ (blk_grown BZ.out hg3 (Kd.R_ne HO.out BZ.out (by decide)));have HO3:=a0_ (Kd.R_mono ho (fun _ _=>trivial));replace HB:=a0_ hb;obtain ⟨A3,c3,e3⟩:=Kd.R_slice ho;subst e3;clear ho hb hg3 hat HO B9 hc8 hf8 hy0 hy1 hy2 hy3 hy4 hw2 hw3;have hc8 : w3.cell? ⟨g8,0,none⟩ = some (.slice A8 acc.length c8):=(blk_cell B8.out 0).trans rfl;have hf8:=blk_frozen B8.out 0)
       go_roundg (l2_0.length - (kk + 1))
       case measure=>omega
       case rel =>
        refine ⟨kk + 1,_,by omega,by omega,by go_num,⟨?_⟩,⟨blk_put B8.out 0 _ rfl⟩,⟨below_set HB.out GE8.out⟩,⟨blk_far BT.out NT.out _⟩,⟨blk_far BG.out NG.out _⟩,⟨blk_far BZ.out NZ.out _⟩⟩
        have h3:=Kd.R_set HO3.out B8.out (by decide) 0 (.slice A3 (acc ++ [(⟨y0,y1,y2,y3,y4⟩ : S79)]).length c3)
        rw [hst]
        rw [List.length_append] at h3
        exact h3
    ·have hltz : ¬ (kk : Int) < (l2_0.length : Int):=by omega
     have he : l1_0 ++ (l2_0.take kk).map (shF l1_0.length) = joinH l1_0 l2_0:=by rw [List.take_of_length_le (by omega)];rfl
     rw [he] at HO
     clear he
     have hlm : (joinH l1_0 l2_0).length ≤ 2097152:=by rw [joinH_len];omega
     obtain ⟨A8,c8,e8⟩:=Kd.R_slice HO.out
     subst e8
     have hct:=(blk_cell BT.out 0).trans rfl
     have hcz : wr.cell? ⟨w.heap.size + 1 + 1 + 1,0,none⟩ = some (.slice none 0 0):=(blk_cell BZ.out 0).trans rfl
     have hfz:=blk_frozen BZ.out 0
     cases hq : vH l0_0 (joinH l1_0 l2_0) with
     | true =>
      rw [hq,if_pos rfl] at hR
      skip
      obtain ⟨rfl,rfl⟩:=Prod.mk.inj hR
      go_wp2_with (first | (go_at_call 54;(with_reducible refine (HV3.out _ HB.out _ _ _ hlm (Kd.R_reads' HO.out).2.2 (Kd.R_reads' HO.out).2.1).mono ?_);rintro e w' ⟨he,hb'⟩;rw [hq] at he;subst he;replace BZ:=a0_ (blk_keptB BZ.out hb');replace B8:=a0_ (blk_keptB B8.out hb');replace HO:=a0_ (Kd.R_below HO.out hb');replace HB:=a0_ (below_step HB.out hb');clear hb' hcz hfz hc8 hf8;have hcz : w'.cell? ⟨w.heap.size + 1 + 1 + 1,0,none⟩ = some (.slice none 0 0):=(blk_cell BZ.out 0).trans rfl;have hfz:=blk_frozen BZ.out 0;have hc8 : w'.cell? ⟨g8,0,none⟩ = some (.slice A8 (joinH l1_0 l2_0).length c8):=(blk_cell B8.out 0).trans rfl))
      have h3:=Kd.R_set HO.out BZ.out (by decide) 0 (.slice A8 (joinH l1_0 l2_0).length c8)
      refine bodyPost_ret (results_ct rfl _ _ (w.heap.size + 1 + 1 + 1) 37 #[.slice A8 (joinH l1_0 l2_0).length c8] (0,0) _ rfl (blk_put BZ.out 0 _ rfl) Try.underlying37 rfl (by kernel_rfl)) rfl ?_
      exact ⟨_,rfl,h3,below_set HB.out (by omega)⟩
     | false =>
      rw [hq,if_neg (by simp)] at hR
      obtain ⟨rfl,rfl⟩:=Prod.mk.inj hR
      go_wp2_with (first | (go_at_call 54;(with_reducible refine (HV3.out _ HB.out _ _ _ hlm (Kd.R_reads' HO.out).2.2 (Kd.R_reads' HO.out).2.1).mono ?_);rintro e w' ⟨he,hb'⟩;rw [hq] at he;subst he;replace BZ:=a0_ (blk_keptB BZ.out hb');replace B8:=a0_ (blk_keptB B8.out hb');replace HO:=a0_ (Kd.R_below HO.out hb');replace HB:=a0_ (below_step HB.out hb');clear hb' hcz hfz hc8 hf8;have hcz : w'.cell? ⟨w.heap.size + 1 + 1 + 1,0,none⟩ = some (.slice none 0 0):=(blk_cell BZ.out 0).trans rfl;have hfz:=blk_frozen BZ.out 0;have hc8 : w'.cell? ⟨g8,0,none⟩ = some (.slice A8 (joinH l1_0 l2_0).length c8):=(blk_cell B8.out 0).trans rfl))
      refine bodyPost_ret (results_ct rfl _ _ (w.heap.size + 1 + 1 + 1) 37 #[.slice none 0 0] (0,0) _ rfl (blk_put BZ.out 0 _ rfl) Try.underlying37 rfl (by kernel_rfl)) rfl ?_
      exact ⟨_,rfl,Kd.R_nil _ _ _ _ _,below_set HB.out (by omega)⟩
theorem spec_JoinHeaps_ev (t : List Cls) (h m : List Fau) (hs : smT t = true) (ht : t.length ≤ 9223372036854775807) (hl : h.length ≤ 2097152) (hm : m.length ≤ 2097152) : Ev (fun _=>spec_JoinHeaps.f t h m) (joiP t h m):=Ev.const (by rw [spec_JoinHeaps.f,if_pos ⟨hs,hl,hm⟩])
end Go.Proofs.Ytfhcfhffmblacaa.P
namespace Go.Proofs.Ytfhcfhffmblacaa.P
open Go.RowKit Go.Proofs.YtfhcfhffmblacaaW.PrintWords Go.Proofs.YtfhcfhffmblacaaW.PrintLast Go.Proofs.YtfhcfhffmblacaaW.PrintMore
attribute [local go_sem] max2_int min2_int max_two min_two max_three min_three max_four min_four
set_option linter.unusedVariables false
set_option linter.unusedSimpArgs false
def impl_within.f (a0 : Int) (a1 : Int) (a2 : Int) : Option (Bool):=if a0 ≥ a1 then (some (decide (a0 ≤ a2))) else (some false)
set_option maxHeartbeats 8000000 in
set_option maxRecDepth 100000 in
theorem impl_within.calls (a0 : Int) (a1 : Int) (a2 : Int) (r : Bool) (w : World) (h : impl_within.f a0 a1 a2 = some r) :
  Calls Try.prog 93 #[.int .i64 a0,.int .i64 a1,.int .i64 a2] w fun e w'=>e = .returned (.bool r) ∧ Drawn0 w w':=by
 have H : (if a0 ≥ a1 then (some (decide (a0 ≤ a2))) else (some false)) = some r:=h
 clear h
 by_cases c4 : a0 ≥ a1
 ·rw [if_pos c4] at H
  have c4b0 : decide (a1 ≤ a0) = true:=decide_eq_true c4
  clear c4
  obtain rfl:=Option.some.inj H
  go_enter Try.func93,Try.ntmps93
  go_wp2
  go_ret
  exact ⟨by first | rfl | (simp;done) | (simp [*];done),by repeat (first | exact Drawn0.refl _ | apply Drawn0.step)⟩
 ·rw [if_neg c4] at H
  have c4b0 : decide (a1 ≤ a0) = false:=decide_eq_false c4
  clear c4
  obtain rfl:=Option.some.inj H
  go_enter Try.func93,Try.ntmps93
  go_wp2
  go_ret
  exact ⟨by first | rfl | (simp;done) | (simp [*];done),by repeat (first | exact Drawn0.refl _ | apply Drawn0.step)⟩
theorem impl_within_ev (a b c : Int) : impl_within.f a b c = some (decide (b ≤ a) && decide (a ≤ c)):=by
 unfold impl_within.f
 by_cases h : a ≥ b
 ·rw [if_pos h,decide_eq_true (show b ≤ a from h),Bool.true_and]
 ·rw [if_neg h,decide_eq_false (show ¬ b ≤ a from h),Bool.false_and]
end Go.Proofs.Ytfhcfhffmblacaa.P
namespace Go.Proofs.Ytfhcfhffmblacaa.P
open Go.RowKit Go.Proofs.YtfhcfhffmblacaaW.PrintWords Go.Proofs.YtfhcfhffmblacaaW.PrintLast Go.Proofs.YtfhcfhffmblacaaW.PrintMore
attribute [local go_sem] max2_int min2_int max_two min_two max_three min_three max_four min_four
set_option linter.unusedVariables false
set_option linter.unusedSimpArgs false
def impl_Heap_has.f (l0_0 : List (S79)) (a1 : Int) : Option (Bool):=(impl_within.f a1 0 (wrap64 ((l0_0.length : Int) - 1))).bind fun t2=>(some t2)
set_option maxHeartbeats 8000000 in
set_option maxRecDepth 100000 in
theorem impl_Heap_has.calls (A0_0 : Option Addr) (c0_0 : Nat) (l0_0 : List (S79)) (a1 : Int) (r : Bool) (w : World) (hr0_0 : Kd.C k79 w A0_0 l0_0.length l0_0) (hc0_0 : l0_0.length ≤ c0_0) (h : impl_Heap_has.f l0_0 a1 = some r) :
  Calls Try.prog 58 #[.agg #[.slice A0_0 l0_0.length c0_0],.int .i64 a1] w fun e w'=>e = .returned (.bool r) ∧ Below w.heap.size w w':=by
 have hu37:=Try.underlying37
 have HR0_0:=a0_ hr0_0
 have HC0_0:=a0_ hc0_0
 clear hr0_0 hc0_0
 have HB:=a0_ (Below.refl w.heap.size w)
 have H : ((impl_within.f a1 0 (wrap64 ((l0_0.length : Int) - 1))).bind fun t2=>(some t2)) = some r:=h
 clear h
 replace H:=Option.bind_eq_some_iff.mp H
 obtain ⟨t2,A30,H⟩:=H
 replace H : (some t2) = some r:=H
 have A3:=a0_ A30
 clear A30
 obtain rfl:=Option.some.inj H
 go_enter Try.func58,Try.ntmps58
 go_wp2_with (first | ((with_reducible refine gate_dst (N:=2) rfl ?_);refine box_event ?hg (N:=2) ?hd (cs:=#[.slice A0_0 l0_0.length c0_0]) (t:=37) ?hr ?_;(case hd=>rfl);(case hg=>rfl);(case hr=>first | (go_simp;done) | (go_simp;rfl));intro gb1 hg w4 hbox hb;have BK1:=a0_ (hbox);have GW1:=a0_ ((by rw [hg];exact (below_size hb_) : w.heap.size ≤ gb1));have GE1:=a0_ ((by rw [hg];exact (below_size hb_) : w.heap.size ≤ gb1));replace HB:=a0_ (below_step hb_ hb);clear hb hbox hg;have hcz5_0 : w4.cell? ⟨gb1,0,none⟩ = some (.slice A0_0 l0_0.length c0_0):=(blk_cell BK1.out 0).trans rfl;have hfz5_0:=blk_frozen BK1.out 0) | ((with_reducible refine gate_callee (f:=93) rfl ?_);refine goesL_ (some 10) rfl rfl Try.func93 (by kernel_rfl) rfl #[.int .i64 a1,.int .i64 0,.int .i64 (wrap64 ((l0_0.length : Int) - 1))] rfl lm_ ?_;(with_reducible refine (impl_within.calls a1 0 (wrap64 ((l0_0.length : Int) - 1)) t2 _ A3.out).mono ?_);rintro e w' ⟨rfl,⟨nd,rfl⟩⟩;refine ⟨_,rfl,?_⟩))
 go_ret
 exact ⟨by first | rfl | (simp [errW_none,errW_some] <;> rfl) | (simp [*,errW_none,errW_some] <;> rfl),hb_⟩
theorem impl_Heap_has_ev (h : List Fau) (f : Int) (hl : h.length ≤ 9223372036854775807) : impl_Heap_has.f h f = some (hasF h f):=by
 unfold impl_Heap_has.f
 rw [wrap_in (by omega) (by omega),impl_within_ev]
 rfl
end Go.Proofs.Ytfhcfhffmblacaa.P
namespace Go.Proofs.Ytfhcfhffmblacaa.P
open Go.RowKit Go.Proofs.YtfhcfhffmblacaaW.PrintWords Go.Proofs.YtfhcfhffmblacaaW.PrintLast Go.Proofs.YtfhcfhffmblacaaW.PrintMore
attribute [local go_sem] max2_int min2_int max_two min_two max_three min_three max_four min_four
set_option linter.unusedVariables false
set_option linter.unusedSimpArgs false
theorem impl_ValidHeap_1.callsF (B : Nat) (A : Option Addr) (c : Nat) (h : List Fau) (f u : Int) (w : World) (hc : h.length ≤ c) (hB : w.heap[B]? = some (.cells #[.slice A h.length c] 37 (0,0))) (hr : Kd.C k79 w A h.length h) :
  Calls Try.prog 57 #[.int .i64 f,.int .i64 u,.pointer (some ⟨B,0,none⟩)] w fun e w'=>e = .returned (.bool (lnkB h f u)) ∧ Below w.heap.size w w':=by
 have hu37:=Try.underlying37
 have hcell : w.cell? ⟨B,0,none⟩ = some (.slice A h.length c):=(blk_cell hB 0).trans rfl
 have hcon:=impl_Heap_has.calls A c h u (hasF h u) w hr hc (impl_Heap_has_ev h u hr.2.1)
 unfold lnkB
 clear hB hr
 generalize hasF h u = q at hcon ⊢
 by_cases h1 : u = -1
 ·have hd1 : (u == -1) = true:=beq_iff_eq.2 h1
  clear h1
  rw [hd1,Bool.true_or]
  go_enter Try.func57,Try.ntmps57
  go_wp2
  go_ret
  exact ⟨rfl,Below.refl _ w⟩
 ·have hd1 : (u == -1) = false:=beq_eq_false_iff_ne.2 h1
  clear h1
  rw [hd1,Bool.false_or]
  cases q with
  | false =>
   go_enter Try.func57,Try.ntmps57
   go_wp2_with (go_at_call 58;refine hcon.mono ?_;rintro e w' ⟨rfl,hb'⟩)
   go_ret
   exact ⟨rfl,hb'⟩
  | true =>
   rw [Bool.true_and]
   cases h2 : (u != f) <;>
   ·go_enter Try.func57,Try.ntmps57
    go_wp2_with (go_at_call 58;refine hcon.mono ?_;rintro e w' ⟨rfl,hb'⟩)
    go_ret
    exact ⟨rfl,hb'⟩
end Go.Proofs.Ytfhcfhffmblacaa.P
namespace Go.Proofs.Ytfhcfhffmblacaa.P
open Go.RowKit Go.Proofs.YtfhcfhffmblacaaW.PrintWords Go.Proofs.YtfhcfhffmblacaaW.PrintLast Go.Proofs.YtfhcfhffmblacaaW.PrintMore
attribute [local go_sem] max2_int min2_int max_two min_two max_three min_three max_four min_four
set_option linter.unusedVariables false
set_option linter.unusedSimpArgs false
def impl_Tree_has.f (l0_0 : List (S106)) (a1 : Int) : Option (Bool):=(impl_within.f a1 0 (wrap64 ((l0_0.length : Int) - 1))).bind fun t2=>(some t2)
set_option maxHeartbeats 8000000 in
set_option maxRecDepth 100000 in
theorem impl_Tree_has.calls (A0_0 : Option Addr) (c0_0 : Nat) (l0_0 : List (S106)) (a1 : Int) (r : Bool) (w : World) (hr0_0 : Kd.C k106 w A0_0 l0_0.length l0_0) (hc0_0 : l0_0.length ≤ c0_0) (h : impl_Tree_has.f l0_0 a1 = some r) :
  Calls Try.prog 59 #[.agg #[.slice A0_0 l0_0.length c0_0],.int .i64 a1] w fun e w'=>e = .returned (.bool r) ∧ Below w.heap.size w w':=by
 have hu33:=Try.underlying33
 have HR0_0:=a0_ hr0_0
 have HC0_0:=a0_ hc0_0
 clear hr0_0 hc0_0
 have HB:=a0_ (Below.refl w.heap.size w)
 have H : ((impl_within.f a1 0 (wrap64 ((l0_0.length : Int) - 1))).bind fun t2=>(some t2)) = some r:=h
 clear h
 replace H:=Option.bind_eq_some_iff.mp H
 obtain ⟨t2,A30,H⟩:=H
 replace H : (some t2) = some r:=H
 have A3:=a0_ A30
 clear A30
 obtain rfl:=Option.some.inj H
 go_enter Try.func59,Try.ntmps59
 go_wp2_with (first | ((with_reducible refine gate_dst (N:=2) rfl ?_);refine box_event ?hg (N:=2) ?hd (cs:=#[.slice A0_0 l0_0.length c0_0]) (t:=33) ?hr ?_;(case hd=>rfl);(case hg=>rfl);(case hr=>first | (go_simp;done) | (go_simp;rfl));intro gb1 hg w4 hbox hb;have BK1:=a0_ (hbox);have GW1:=a0_ ((by rw [hg];exact (below_size hb_) : w.heap.size ≤ gb1));have GE1:=a0_ ((by rw [hg];exact (below_size hb_) : w.heap.size ≤ gb1));replace HB:=a0_ (below_step hb_ hb);clear hb hbox hg;have hcz5_0 : w4.cell? ⟨gb1,0,none⟩ = some (.slice A0_0 l0_0.length c0_0):=(blk_cell BK1.out 0).trans rfl;have hfz5_0:=blk_frozen BK1.out 0) | ((with_reducible refine gate_callee (f:=93) rfl ?_);refine goesL_ (some 10) rfl rfl Try.func93 (by kernel_rfl) rfl #[.int .i64 a1,.int .i64 0,.int .i64 (wrap64 ((l0_0.length : Int) - 1))] rfl lm_ ?_;(with_reducible refine (impl_within.calls a1 0 (wrap64 ((l0_0.length : Int) - 1)) t2 _ A3.out).mono ?_);rintro e w' ⟨rfl,⟨nd,rfl⟩⟩;refine ⟨_,rfl,?_⟩))
 go_ret
 exact ⟨by first | rfl | (simp [errW_none,errW_some] <;> rfl) | (simp [*,errW_none,errW_some] <;> rfl),hb_⟩
theorem impl_Tree_has_ev (t : List Cls) (a : Int) (hl : t.length ≤ 9223372036854775807) : impl_Tree_has.f t a = some (hasC t a):=by
 unfold impl_Tree_has.f impl_within.f hasC
 rw [wrap_pred (by omega) (by omega)]
 by_cases h0 : a ≥ 0
 ·rw [if_pos h0]
  have h0' : 0 ≤ a:=h0
  simp only [Option.bind_some,Option.some.injEq,decide_eq_true h0',Bool.true_and]
  by_cases h1 : a < (t.length : Int)
  ·rw [decide_eq_true h1,decide_eq_true (by omega)]
  ·rw [decide_eq_false h1,decide_eq_false (by omega)]
 ·rw [if_neg h0]
  have h0' : ¬ 0 ≤ a:=h0
  simp [decide_eq_false h0']
end Go.Proofs.Ytfhcfhffmblacaa.P
namespace Go.Proofs.Ytfhcfhffmblacaa.P
open Go.RowKit Go.Proofs.YtfhcfhffmblacaaW.PrintWords Go.Proofs.YtfhcfhffmblacaaW.PrintLast Go.Proofs.YtfhcfhffmblacaaW.PrintMore
attribute [local go_sem] max2_int min2_int max_two min_two max_three min_three max_four min_four
set_option linter.unusedVariables false
set_option linter.unusedSimpArgs false
def impl_codeOk.f (a0 : Int) : Option (Bool):=(impl_within.f a0 0 99).bind fun t1=>(some t1)
set_option maxHeartbeats 8000000 in
set_option maxRecDepth 100000 in
theorem impl_codeOk.calls (a0 : Int) (r : Bool) (w : World) (h : impl_codeOk.f a0 = some r) :
  Calls Try.prog 60 #[.int .i64 a0] w fun e w'=>e = .returned (.bool r) ∧ Drawn0 w w':=by
 have H : ((impl_within.f a0 0 99).bind fun t1=>(some t1)) = some r:=h
 clear h
 replace H:=Option.bind_eq_some_iff.mp H
 obtain ⟨t1,A20,H⟩:=H
 replace H : (some t1) = some r:=H
 have A2:=a0_ A20
 clear A20
 obtain rfl:=Option.some.inj H
 go_enter Try.func60,Try.ntmps60
 go_wp2_with (first | ((with_reducible refine gate_callee (f:=93) rfl ?_);refine goesL_ (some 4) rfl rfl Try.func93 (by kernel_rfl) rfl #[.int .i64 a0,.int .i64 0,.int .i64 99] rfl lm_ ?_;(with_reducible refine (impl_within.calls a0 0 99 t1 _ A2.out).mono ?_);rintro e w' ⟨rfl,⟨nd,rfl⟩⟩;refine ⟨_,rfl,?_⟩))
 go_ret
 exact ⟨by first | rfl | (simp;done) | (simp [*];done),by repeat (first | exact Drawn0.refl _ | apply Drawn0.step)⟩
theorem impl_codeOk_ev (a : Int) : impl_codeOk.f a = some (decide (0 ≤ a) && decide (a ≤ 99)):=by
 unfold impl_codeOk.f
 rw [impl_within_ev]
 rfl
end Go.Proofs.Ytfhcfhffmblacaa.P
namespace Go.Proofs.Ytfhcfhffmblacaa.P
open Go.RowKit Go.Proofs.YtfhcfhffmblacaaW.PrintWords Go.Proofs.YtfhcfhffmblacaaW.PrintLast Go.Proofs.YtfhcfhffmblacaaW.PrintMore
attribute [local go_sem] max2_int min2_int max_two min_two max_three min_three max_four min_four
set_option linter.unusedVariables false
set_option linter.unusedSimpArgs false
def slices_Index_int.l0 : Nat → List Int → Int → Int → Int → Option (Int)
 | 0,_,_,_,_=>none
 | k + 1,x0,x1,x7,x8=>if x8 < x7 then (if 0 ≤ x8 then (if x8 < (x0.length : Int) then (if x1 = (rd x0 x8) then (some x8) else (slices_Index_int.l0 k x0 x1 x7 (wrap64 (x8 + 1)))) else (none)) else (none)) else (some (-1))
def slices_Index_int.f (k : Nat) (l0 : List Int) (a1 : Int) : Option (Int):=slices_Index_int.l0 k l0 a1 (l0.length : Int) 0
theorem slices_Index_int.mono_l : ∀ k,(∀ y0 y1 y2 y3,LeO (slices_Index_int.l0 k y0 y1 y2 y3) (slices_Index_int.l0 (k + 1) y0 y1 y2 y3))
 | 0=>fun _ _ _ _ r h=>by simp [slices_Index_int.l0] at h
 | k + 1=>by
  have ih0:=slices_Index_int.mono_l k
  ·intro y0 y1 y2 y3
   unfold slices_Index_int.l0
   repeat' first
   | (with_reducible exact ih0 _ _ _ _)
   | (with_reducible exact LeO.refl _)
   | (with_reducible exact LeO.none _)
   | (with_reducible refine LeO.ite ?_ ?_)
   | (with_reducible refine LeO.bind ?_ (fun _=>?_))
   | exact ih0 _ _ _ _
   | exact LeO.none _
   | refine LeO.ite ?_ ?_
   | refine LeO.bind ?_ (fun _=>?_)
theorem slices_Index_int.mono : ∀ a0 a1 k,LeO (slices_Index_int.f k a0 a1) (slices_Index_int.f (k + 1) a0 a1):=by
 intro a0 a1 k
 have ih0:=slices_Index_int.mono_l k
 unfold slices_Index_int.f
 repeat' first
   | (with_reducible exact ih0 _ _ _ _)
   | (with_reducible exact LeO.refl _)
   | (with_reducible exact LeO.none _)
   | (with_reducible refine LeO.ite ?_ ?_)
   | (with_reducible refine LeO.bind ?_ (fun _=>?_))
   | exact ih0 _ _ _ _
   | exact LeO.none _
   | refine LeO.ite ?_ ?_
   | refine LeO.bind ?_ (fun _=>?_)
set_option maxHeartbeats 8000000 in
set_option maxRecDepth 100000 in
theorem slices_Index_int.calls (k : Nat) (A0 : Option Addr) (c0 : Nat) (l0 : List Int) (a1 : Int) (r : Int) (w : World) (hr0 : Kd.C (Kd.int .i64) w A0 l0.length l0) (hc0 : l0.length ≤ c0) (h : slices_Index_int.f k l0 a1 = some r) :
  Calls Try.prog 110 #[.slice A0 l0.length c0,.int .i64 a1] w fun e w'=>e = .returned (.int .i64 r) ∧ Drawn0 w w':=by
 have HR0:=a0_ hr0
 have HC0:=a0_ hc0
 clear hr0 hc0
 have H : (slices_Index_int.l0 k l0 a1 (l0.length : Int) 0) = some r:=h
 clear h
 have H':=a0_ H
 clear H
 go_enter Try.func110,Try.ntmps110
 go_wp2
 go_loopg [8] k (fun kq v8 w'=>∃ (x8_1 : Int),v8 = .int .i64 x8_1 ∧ Aside0 (slices_Index_int.l0 kq l0 a1 (l0.length : Int) x8_1 = some r) ∧ Aside0 (kq ≤ k) ∧ Drawn0 w w')
 case atStart=>exact ⟨(0),(by first | rfl | (simp;done) | (simp [*];done)),H',⟨Nat.le_refl _⟩,by repeat (first | exact Drawn0.refl _ | apply Drawn0.step)⟩
 case round =>
  clear H'
  try clear c1
  try clear p2
  obtain ⟨x8_1,rfl,HA,HK1,⟨m1,rfl⟩⟩:=hrel
  cases gk with
  | zero=>exact absurd HA.out (by simp [slices_Index_int.l0])
  | succ k1 =>
   have H:=HA.out
   clear HA
   simp only [slices_Index_int.l0] at H
   by_cases c3 : x8_1 < (l0.length : Int)
   ·rw [if_pos c3] at H
    have c3b0 : decide (x8_1 < (l0.length : Int)) = true:=decide_eq_true c3
    clear c3
    by_cases c4 : 0 ≤ x8_1
    ·rw [if_pos c4] at H
     have c4b0 : decide (0 ≤ x8_1) = true:=decide_eq_true c4
     clear c4
     by_cases c5 : x8_1 < (l0.length : Int)
     ·rw [if_pos c5] at H
      have c5b0 : decide (x8_1 < (l0.length : Int)) = true:=decide_eq_true c5
      clear c5
      by_cases c6 : a1 = (rd l0 x8_1)
      ·rw [if_pos c6] at H
       have c6b0 : (a1 == (rd l0 x8_1)) = true:=beq_iff_eq.mpr c6
       have c6b1 : (a1 != (rd l0 x8_1)) = false:=bne_eq_false_iff_eq.mpr c6
       clear c6
       obtain rfl:=Option.some.inj H
       have p1 : 0 ≤ (x8_1 : Int):=of_decide_eq_true (by first | (with_reducible assumption) | assumption)
       have q1 : x8_1 < (l0.length : Int):=of_decide_eq_true (by first | (with_reducible assumption) | assumption)
       obtain ⟨ad1,e1,hx1_0⟩:=Kd.at_int HR0.out x8_1 p1 q1
       cases e1
       replace p1:=eq_true p1
       replace q1:=eq_true q1
       go_wp2
       go_ret
       exact ⟨by first | rfl | (simp;done) | (simp [*];done),by repeat (first | exact Drawn0.refl _ | apply Drawn0.step)⟩
      ·rw [if_neg c6] at H
       have c6b0 : (a1 == (rd l0 x8_1)) = false:=beq_eq_false_iff_ne.mpr c6
       have c6b1 : (a1 != (rd l0 x8_1)) = true:=bne_iff_ne.mpr c6
       have H':=a0_ H
       clear H
       have p1 : 0 ≤ (x8_1 : Int):=of_decide_eq_true (by first | (with_reducible assumption) | assumption)
       have q1 : x8_1 < (l0.length : Int):=of_decide_eq_true (by first | (with_reducible assumption) | assumption)
       obtain ⟨ad1,e1,hx1_0⟩:=Kd.at_int HR0.out x8_1 p1 q1
       cases e1
       replace p1:=eq_true p1
       replace q1:=eq_true q1
       go_wp2
       go_roundg k1
       case measure=>have:=HK1.out;omega
       case rel=>exact ⟨(wrap64 (x8_1 + 1)),(by first | rfl | (simp;done) | (simp [*];done)),H',⟨by have:=HK1.out;omega⟩,by repeat (first | exact Drawn0.refl _ | apply Drawn0.step)⟩
     ·rw [if_neg c5] at H
      exact absurd H (by simp)
    ·rw [if_neg c4] at H
     exact absurd H (by simp)
   ·rw [if_neg c3] at H
    have c3b0 : decide (x8_1 < (l0.length : Int)) = false:=decide_eq_false c3
    clear c3
    obtain rfl:=Option.some.inj H
    go_wp2
    go_ret
    exact ⟨by first | rfl | (simp;done) | (simp [*];done),by repeat (first | exact Drawn0.refl _ | apply Drawn0.step)⟩
theorem slices_Index_int_l0 (l : List Int) (x : Int) (hs : l.length ≤ 9223372036854775807) (d : Nat) : ∀ (k : Nat) (i : Nat),i ≤ l.length → l.length - i = d → d < k → (∀ j (hj : j < l.length),j < i → decide (x = l[j]) = false) → slices_Index_int.l0 k l x (l.length : Int) (i : Int) = some (idxP (fun y=>decide (x = y)) l):=by
 induction d with
 | zero =>
  intro k i hi hd hk hA
  obtain ⟨k,rfl⟩ : ∃ m,k = m + 1:=⟨k - 1,by omega⟩
  simp only [slices_Index_int.l0]
  rw [if_neg (show ¬ (i : Int) < (l.length : Int) by omega),idxP_miss _ l (fun j hj=>hA j hj (by omega))]
 | succ d ih =>
  intro k i hi hd hk hA
  obtain ⟨k,rfl⟩ : ∃ m,k = m + 1:=⟨k - 1,by omega⟩
  have hlt : i < l.length:=by omega
  simp only [slices_Index_int.l0]
  have hrd : rd l (i : Int) = l[i]:=by simp [rd,hlt]
  rw [if_pos (show (i : Int) < (l.length : Int) by omega),if_pos (show (0 : Int) ≤ (i : Int) by omega),if_pos (show (i : Int) < (l.length : Int) by omega),hrd]
  by_cases h1 : x = l[i]
  ·rw [if_pos h1,idxP_hit (fun y=>decide (x = y)) l i hlt (decide_eq_true h1) hA]
  ·rw [if_neg h1,wrap_succ (n:=l.length) (by omega) (by omega) (by omega)]
   rw [show ((i : Int) + 1) = ((i + 1 : Nat) : Int) by omega]
   refine ih k (i + 1) (by omega) (by omega) (by omega) (fun j hj hji=>?_)
   by_cases e : j = i
   ·subst e;exact decide_eq_false h1
   ·exact hA j hj (by omega)
end Go.Proofs.Ytfhcfhffmblacaa.P
namespace Go.Proofs.Ytfhcfhffmblacaa.P
open Go.RowKit Go.Proofs.YtfhcfhffmblacaaW.PrintWords Go.Proofs.YtfhcfhffmblacaaW.PrintLast Go.Proofs.YtfhcfhffmblacaaW.PrintMore
attribute [local go_sem] max2_int min2_int max_two min_two max_three min_three max_four min_four
set_option linter.unusedVariables false
set_option linter.unusedSimpArgs false
def slices_Contains_int.f (k : Nat) (l0 : List Int) (a1 : Int) : Option (Bool):=(slices_Index_int.f k l0 a1).bind fun t1=>(some (decide (t1 ≥ 0)))
theorem slices_Contains_int.mono : ∀ a0 a1 k,LeO (slices_Contains_int.f k a0 a1) (slices_Contains_int.f (k + 1) a0 a1):=by
 intro a0 a1 k
 unfold slices_Contains_int.f
 repeat' first
   | (with_reducible exact slices_Index_int.mono _ _ _)
   | (with_reducible exact LeO.refl _)
   | (with_reducible exact LeO.none _)
   | (with_reducible refine LeO.ite ?_ ?_)
   | (with_reducible refine LeO.bind ?_ (fun _=>?_))
   | exact slices_Index_int.mono _ _ _
   | exact LeO.none _
   | refine LeO.ite ?_ ?_
   | refine LeO.bind ?_ (fun _=>?_)
set_option maxHeartbeats 8000000 in
set_option maxRecDepth 100000 in
theorem slices_Contains_int.calls (k : Nat) (A0 : Option Addr) (c0 : Nat) (l0 : List Int) (a1 : Int) (r : Bool) (w : World) (hr0 : Kd.C (Kd.int .i64) w A0 l0.length l0) (hc0 : l0.length ≤ c0) (h : slices_Contains_int.f k l0 a1 = some r) :
  Calls Try.prog 102 #[.slice A0 l0.length c0,.int .i64 a1] w fun e w'=>e = .returned (.bool r) ∧ Drawn0 w w':=by
 have HR0:=a0_ hr0
 have HC0:=a0_ hc0
 clear hr0 hc0
 have H : ((slices_Index_int.f k l0 a1).bind fun t1=>(some (decide (t1 ≥ 0)))) = some r:=h
 clear h
 replace H:=Option.bind_eq_some_iff.mp H
 obtain ⟨t1,A30,H⟩:=H
 replace H : (some (decide (t1 ≥ 0))) = some r:=H
 have A3:=a0_ A30
 clear A30
 obtain rfl:=Option.some.inj H
 go_enter Try.func102,Try.ntmps102
 go_wp2_with (first | ((with_reducible refine gate_callee (f:=110) rfl ?_);refine goesL_ (some 7) rfl rfl Try.func110 (by kernel_rfl) rfl #[.slice A0 l0.length c0,.int .i64 a1] rfl lm_ ?_;(with_reducible refine (slices_Index_int.calls k _ _ l0 a1 t1 _ ?side1 ?side2 A3.out).mono ?_);(case side1=>repeat (first | exact HR0.out | (with_reducible refine Kd.C_alloc ?_ _) | (with_reducible refine Kd.C_drewN ?_ _) | (with_reducible refine Kd.C_drew ?_)));(case side2=>exact HC0.out);rintro e w' ⟨rfl,⟨nd,rfl⟩⟩;refine ⟨_,rfl,?_⟩))
 go_ret
 exact ⟨by first | rfl | (simp;done) | (simp [*];done),by repeat (first | exact Drawn0.refl _ | apply Drawn0.step)⟩
theorem slices_Contains_int_ev (l : List Int) (x : Int) (hs : l.length ≤ 9223372036854775807) (k : Nat) (hk : l.length < k) : slices_Contains_int.f k l x = some (l.contains x):=by
 unfold slices_Contains_int.f slices_Index_int.f
 have h0:=slices_Index_int_l0 l x hs l.length k 0 (by omega) (by omega) hk (fun j _ hj=>absurd hj (Nat.not_lt_zero _))
 rw [show ((0 : Nat) : Int) = 0 from rfl] at h0
 rw [h0]
 simp only [Option.bind_some,Option.some.injEq]
 rw [idxP_nonneg]
 rw [Bool.eq_iff_iff,List.any_eq_true,List.contains_iff_mem]
 constructor
 ·rintro ⟨y,hy,e⟩
  have : x = y:=of_decide_eq_true e
  rw [this];exact hy
 ·intro hm;exact ⟨x,hm,decide_eq_true rfl⟩
end Go.Proofs.Ytfhcfhffmblacaa.P
namespace Go.Proofs.Ytfhcfhffmblacaa.P
open Go.RowKit Go.Proofs.YtfhcfhffmblacaaW.PrintWords Go.Proofs.YtfhcfhffmblacaaW.PrintLast Go.Proofs.YtfhcfhffmblacaaW.PrintMore
attribute [local go_sem] max2_int min2_int max_two min_two max_three min_three max_four min_four
set_option linter.unusedVariables false
set_option linter.unusedSimpArgs false
def slices_Clip_int.f (l0 : List Int) : Option (List Int):=if 0 ≤ (l0.length : Int) then (if (l0.length : Int) ≤ (l0.length : Int) then (some (l0.take ((l0.length : Int) : Int).toNat)) else (none)) else (none)
set_option maxHeartbeats 8000000 in
set_option maxRecDepth 100000 in
theorem slices_Clip_int.calls (P0_ : Nat → Prop) (u9000_ : Value) (l0 : List Int) (r : List Int) (w0 w : World) (hB : Below w0.heap.size w0 w) (ho0 : Kd.R (Kd.int .i64) 3 w w0.heap.size P0_ u9000_ l0) (h : slices_Clip_int.f l0 = some r) :
  Calls Try.prog 103 #[u9000_] w fun e w'=>∃ v0_ : Value,e = .returned (v0_) ∧ Kd.R (Kd.int .i64) 3 w' w0.heap.size (fun k_=>(P0_ k_ ∨ w.heap.size ≤ k_)) v0_ r ∧ Below w0.heap.size w0 w' ∧ Kept w w' (fun k_=>P0_ k_):=by
 have HO0:=a0_ (show Kd.R (Kd.int .i64) 3 w w0.heap.size (fun k_=>(P0_ k_ ∨ w.heap.size ≤ k_)) u9000_ l0 from Kd.R_mono ho0 (fun k_ hk=>(.inl hk)))
 have HK:=a0_ (Kept.refl w (fun k_=>P0_ k_))
 have HW0:=a0_ hB.size
 have HB:=a0_ hB
 clear hB
 have H : (if 0 ≤ (l0.length : Int) then (if (l0.length : Int) ≤ (l0.length : Int) then (some (l0.take ((l0.length : Int) : Int).toNat)) else (none)) else (none)) = some r:=h
 clear h
 by_cases c2 : 0 ≤ (l0.length : Int)
 ·rw [if_pos c2] at H
  have c2b0:=eq_true c2
  have c2b1 : decide (0 ≤ (l0.length : Int)) = true:=decide_eq_true c2
  clear c2
  by_cases c3 : (l0.length : Int) ≤ (l0.length : Int)
  ·rw [if_pos c3] at H
   have c3b0:=eq_true c3
   have c3b1 : decide ((l0.length : Int) ≤ (l0.length : Int)) = true:=decide_eq_true c3
   clear c3
   obtain ⟨y1,hy1⟩ : ∃ y_ : List Int,y_ = (l0.take ((l0.length : Int) : Int).toNat):=⟨_,rfl⟩
   replace H : (some y1) = some r:=by first | (rw [hy1];with_reducible exact H) | (have H2_:=(Option.bind_some _ _).symm.trans H;rw [hy1];with_reducible exact H2_) | (have H2_:=(Option.bind_some _ _).symm.trans H;with_reducible exact H2_) | with_reducible exact H | (rw [hy1];exact H) | exact H
   have Ny1:=a0_ hy1
   clear hy1
   obtain rfl:=Option.some.inj H
   obtain ⟨Ao4,co4,eo4⟩:=Kd.R_slice HO0.out
   subst eo4
   have q5 : l0.length ≤ co4:=(Kd.R_reads' HO0.out).2.1
   have hr5:=Kd.R_clip2 HO0.out (((l0.length : Int) : Int).toNat) (by omega)
   rw [← Ny1.out] at hr5
   clear HO0
   have HO3:=a0_ hr5
   clear hr5
   go_enter Try.func103,Try.ntmps103
   go_wp2
   go_ret
   exact ⟨_,by first | rfl | (simp [errW_none,errW_some] <;> rfl) | (simp [*,errW_none,errW_some] <;> rfl),by (with_reducible repeat (first | apply Kd.R_alloc | apply Kd.R_drewN | apply Kd.R_drew));exact HO3.out,hb_,by repeat (first | (with_reducible first | exact HK.out | apply Kept.alloc | apply Kept.drewN | apply Kept.drew) | exact HK.out)⟩
  ·rw [if_neg c3] at H
   exact absurd H (by simp)
 ·rw [if_neg c2] at H
  exact absurd H (by simp)
theorem slices_Clip_int_ev (l : List Int) : slices_Clip_int.f l = some l:=by
 unfold slices_Clip_int.f
 rw [if_pos (by omega),if_pos (by omega)]
 simp
end Go.Proofs.Ytfhcfhffmblacaa.P
namespace Go.Proofs.Ytfhcfhffmblacaa.P
open Go.RowKit Go.Proofs.YtfhcfhffmblacaaW.PrintWords Go.Proofs.YtfhcfhffmblacaaW.PrintLast Go.Proofs.YtfhcfhffmblacaaW.PrintMore
attribute [local go_sem] max2_int min2_int max_two min_two max_three min_three max_four min_four
set_option linter.unusedVariables false
set_option linter.unusedSimpArgs false
set_option maxHeartbeats 4000000 in
set_option maxRecDepth 100000 in
theorem impl_walk.callsF (n : Nat) (next : Int → Int) (g : Nat) (ba lb : Array Value) (f0 : Int) (w : World) (eg : ∀ args w,(callFunc g args).run Try.prog w = .ok (.enter g args) w)
  (hf : f0 < (n : Int)) (hn : n ≤ 2097152) (hnx : ∀ x : Int,0 ≤ x → x < (n : Int) → next x < (n : Int)) (hp : ∀ x : Int,0 ≤ x → x < (n : Int) → ∀ W,Below w.heap.size w W → Calls Try.prog g (ba ++ #[.int .i64 x] ++ lb) W fun e w'=>e = .returned (.int .i64 (next x)) ∧ Below W.heap.size W w') :
  Calls Try.prog 70 #[.int .i64 f0,.func (.func g) ba lb] w fun e w'=>∃ v : Value,e = .returned v ∧ Kd.R (Kd.int .i64) 3 w' w.heap.size (fun _=>True) v (walkL next n [] f0) ∧ Below w.heap.size w w':=by
 have HP:=a0_ hp
 have HNX:=a0_ hnx
 have HN:=a0_ hn
 have HF:=a0_ hf
 have HRL:=a0_ (restN_le n [])
 clear hp hnx hf
 have HB:=a0_ (Below.refl w.heap.size w)
 go_enter Try.func70,Try.ntmps70
 go_wp2_with ((with_reducible refine gate_dst (N:=6) rfl ?_);refine Kd.R_lit (Kd.int .i64) _ 3 ?hg (N:=6) ?hd (xs:=([] : List Int)) (inner:=[]) (ok:=fun _=>True) (okp:=fun _=>True) ?hr ?hp (fun _ hk=>hk) trivial (Below.refl _ _) (Nat.le_refl _) (by simp) ?_;(case hd=>rfl);(case hg=>rfl);(case hr=>first | (go_simp;done) | (go_simp;rfl));(case hp=>exact (Reps.none _ _));intro v2 w4 ho5 hb hg_ hnew_;clear hg_ hnew_;have HO:=a0_ (Kd.R_lower ho5 (below_size HB.out));replace HB:=a0_ (below_step HB.out hb);clear hb ho5)
 go_loopg [0,5] n (fun gg s0 s5 wr=>∃ (f : Int) (out : List Int) (d : Nat),d ≤ gg ∧ s0 = .int .i64 f ∧ Aside0 (f < (n : Int)) ∧ Aside0 (restN n out ≤ d) ∧ Aside0 (out.length + d ≤ n) ∧ Aside0 (walkL next d out f = walkL next n [] f0) ∧ Aside0 (Kd.R (Kd.int .i64) 3 wr w.heap.size (fun _=>True) s5 out) ∧ Aside0 (Below w.heap.size w wr))
 case atStart=>exact ⟨f0,[],n,by omega,rfl,HF,HRL,⟨by simp⟩,⟨rfl⟩,HO,HB⟩
 case round =>
  clear HO HB HRL HF
  obtain ⟨f,out,d,hd,rfl,HF,HR,HL,HE,HO,HB⟩:=hrel
  obtain ⟨Ao,co,eo⟩:=Kd.R_slice HO.out
  subst eo
  have HRC:=Kd.R_reads' HO.out
  have hcap:=HRC.2.1
  have HCL:=a0_ (slices_Clip_int_ev out)
  have hco:=slices_Contains_int.calls (out.length + 1) Ao co out f (out.contains f) wr HRC.2.2 hcap (slices_Contains_int_ev out f (by have:=HL.out;omega) _ (by omega))
  by_cases h0 : 0 ≤ f
  ·have h0b:=eq_true h0
   cases hq : out.contains f with
   | true =>
    rw [hq] at hco
    have HS:=a0_ (walkL_stop next d out f (by rw [hq];simp))
    have HCO:=a0_ hco
    clear hco hq
    go_wp2_with (first
     | (go_at_call 102;refine (HCO.out).mono ?_;rintro e w' ⟨rfl,hd'⟩;have hb':=hd'.below;replace HO:=a0_ (Kd.R_below HO.out hb');replace HB:=a0_ (below_step HB.out hb');clear hb' hd')
     | (go_at_call 103;refine (slices_Clip_int.calls (fun _=>True) _ out out w _ HB.out HO.out HCL.out).mono ?_;rintro e w2 ⟨v9,rfl,ho9,hb9,hk9⟩))
    go_ret
    exact ⟨_,rfl,Kd.R_mono (by rw [← HE.out,HS.out];exact ho9) (fun _ _=>trivial),hb9⟩
   | false =>
    rw [hq] at hco
    have HCO:=a0_ hco
    obtain ⟨d',hd'⟩ : ∃ d',d = d' + 1:=⟨d - 1,by
     have h1:=restN_zero (n:=n) (out:=out) h0 HF.out
     have h2:=HR.out
     apply Classical.byContradiction
     intro hn0
     rw [h1 (by omega)] at hq
     cases hq⟩
    subst hd'
    have HR2:=a0_ (show restN n (out ++ [f]) ≤ d' by have h1:=restN_lt h0 HF.out hq;have h2:=HR.out;omega)
    have HE2:=a0_ (show walkL next d' (out ++ [f]) (next f) = walkL next n [] f0 by rw [← HE.out,walkL,if_pos ⟨h0,hq⟩])
    have HF2:=a0_ (HNX.out f h0 HF.out)
    have HCALL:=a0_ (HP.out f h0 HF.out)
    clear hco hq
    go_wp2_with (first
     | (go_at_call 102;refine (HCO.out).mono ?_;rintro e w' ⟨rfl,hd'⟩;have hb':=hd'.below;replace HO:=a0_ (Kd.R_below HO.out hb');replace HB:=a0_ (below_step HB.out hb');clear hb' hd')
     | ((with_reducible refine gate_builtin (b:=.append) (xs:=#[.tmp 18,.tmp 20]) rfl ?_);at_builtin;refine Kd.R_append (Kd.int .i64) (w0:=w) w.heap.size rfl (.tmp 18) (.tmp 20) 44 3 (.int .i64 0) 8 rfl Try.underlying44 info3 rfl (by decide) (by omega) _ _ f [.int .i64 f] (fun _=>True) (fun _=>False) rfl rfl rfl (fun _ hk=>hk.elim) (fun _ _=>trivial) HO.out HB.out (below_size HB.out) (by have:=HL.out;have:=HN.out;omega) ?_;intro v3 w3 ho hb hg3 hat;replace HO:=a0_ ho;replace HB:=a0_ hb;clear ho hb hg3 hat)
     | (go_at_fn g;refine (HCALL.out _ HB.out).mono ?_;rintro e w2 ⟨rfl,hb2⟩;replace HO:=a0_ (Kd.R_below HO.out hb2);replace HB:=a0_ (below_step HB.out hb2);clear hb2))
    go_roundg d'
    case measure=>omega
    case rel=>exact ⟨next f,out ++ [f],d',by omega,rfl,HF2,HR2,⟨by have:=HL.out;rw [List.length_append,List.length_singleton];omega⟩,HE2,HO,HB⟩
  ·have HS:=a0_ (walkL_stop next d out f (fun h=>h0 h.1))
   clear hco
   go_wp2_with (go_at_call 103;refine (slices_Clip_int.calls (fun _=>True) _ out out w _ HB.out HO.out HCL.out).mono ?_;rintro e w2 ⟨v9,rfl,ho9,hb9,hk9⟩)
   go_ret
   exact ⟨_,rfl,Kd.R_mono (by rw [← HE.out,HS.out];exact ho9) (fun _ _=>trivial),hb9⟩
end Go.Proofs.Ytfhcfhffmblacaa.P
namespace Go.Proofs.Ytfhcfhffmblacaa.P
open Go.RowKit Go.Proofs.YtfhcfhffmblacaaW.PrintWords Go.Proofs.YtfhcfhffmblacaaW.PrintLast Go.Proofs.YtfhcfhffmblacaaW.PrintMore
attribute [local go_sem] max2_int min2_int max_two min_two max_three min_three max_four min_four
set_option linter.unusedVariables false
set_option linter.unusedSimpArgs false
theorem impl_Heap_contexts_1.callsF (B : Nat) (A : Option Addr) (c : Nat) (h : List Fau) (x : Int) (w : World) (h0 : 0 ≤ x) (h1 : x < (h.length : Int)) (hB : w.heap[B]? = some (.cells #[.slice A h.length c] 37 (0,0))) (hr : Kd.C k79 w A h.length h) :
  Calls Try.prog 94 #[.int .i64 x,.pointer (some ⟨B,0,none⟩)] w fun e w'=>e = .returned (.int .i64 (ctxN h x)) ∧ Below w.heap.size w w':=by
 have hu37:=Try.underlying37
 have hu79:=Try.underlying79
 have hcell : w.cell? ⟨B,0,none⟩ = some (.slice A h.length c):=(blk_cell hB 0).trans rfl
 obtain ⟨ad,ea,hx0,hx1,hx2,hx3,hx4⟩:=at_T79 hr x h0 h1
 cases ea
 have hrd : (rd_T79 h x).f3 = ctxN h x:=by simp [rd_T79,ctxN]
 rw [hrd] at hx3
 have p0:=eq_true h0
 have p1:=eq_true h1
 clear hB hr hx0 hx1 hx2 hx4 hrd
 generalize ctxN h x = r at hx3 ⊢
 go_enter Try.func94,Try.ntmps94
 go_wp2
 go_ret
 exact ⟨rfl,Below.refl _ w⟩
end Go.Proofs.Ytfhcfhffmblacaa.P
namespace Go.Proofs.Ytfhcfhffmblacaa.P
open Go.RowKit Go.Proofs.YtfhcfhffmblacaaW.PrintWords Go.Proofs.YtfhcfhffmblacaaW.PrintLast Go.Proofs.YtfhcfhffmblacaaW.PrintMore
attribute [local go_sem] max2_int min2_int max_two min_two max_three min_three max_four min_four
set_option linter.unusedVariables false
set_option linter.unusedSimpArgs false
theorem impl_Heap_contexts.callsF (A : Option Addr) (c : Nat) (h : List Fau) (f : Int) (w : World) (hf : f < (h.length : Int)) (hn : h.length ≤ 2097152) (hc : ∀ x : Int,0 ≤ x → x < (h.length : Int) → ctxN h x < (h.length : Int)) (hr : Kd.C k79 w A h.length h) :
  Calls Try.prog 61 #[.agg #[.slice A h.length c],.int .i64 f] w fun e w'=>∃ v : Value,e = .returned v ∧ Kd.R (Kd.int .i64) 3 w' w.heap.size (fun _=>True) v (ctxL h f) ∧ Below w.heap.size w w':=by
 have hu37:=Try.underlying37
 have eg : ∀ args w,(callFunc 94 args).run Try.prog w = .ok (.enter 94 args) w:=enters_of Try.func94 (by kernel_rfl) rfl
 have HB:=a0_ (below1 w (.cells #[.slice A h.length c] 37))
 have BK:=a0_ (heap_new1 w (.cells #[.slice A h.length c] 37))
 have HW:=a0_ (fun (W : World) (hb : Below w.heap.size w W) (hB : W.heap[w.heap.size]? = some (.cells #[.slice A h.length c] 37 (0,0)))=>impl_walk.callsF h.length (ctxN h) 94 #[] #[.pointer (some ⟨w.heap.size,0,none⟩)] f W eg hf hn hc (fun x h0 h1 W' hW=>impl_Heap_contexts_1.callsF w.heap.size A c h x W' h0 h1 (blk_keptB hB hW) (Kd.C_below (Kd.C_below hr hb) hW)))
 unfold ctxL
 clear hr eg hc hf
 generalize walkL (ctxN h) h.length [] f = r at HW ⊢
 go_enter Try.func61,Try.ntmps61
 go_wp2_with (go_at_call 70;refine (HW.out _ HB.out BK.out).mono ?_;rintro e w2 ⟨v2,rfl,ho2,hb2⟩)
 go_ret
 exact ⟨_,rfl,Kd.R_lower ho2 (below_size HB.out),below_step HB.out hb2⟩
def ctxOkB (h : List Fau) : Bool:=(List.range h.length).all (fun i=>decide (ctxN h ((i : Nat) : Int) < (h.length : Int)))
def impl_Heap_contexts.f (l0_0 : List Fau) (a1 : Int) : Option (List Int):=if ctxOkB l0_0 = true ∧ (a1 < (l0_0.length : Int) ∧ l0_0.length ≤ 2097152) then some (ctxL l0_0 a1) else none
theorem ctxOkB_out {h : List Fau} (hb : ctxOkB h = true) (x : Int) (h0 : 0 ≤ x) (h1 : x < (h.length : Int)) : ctxN h x < (h.length : Int):=by
 have:=all_at hb x.toNat (by omega)
 rw [show ((x.toNat : Nat) : Int) = x by omega] at this
 exact of_decide_eq_true this
theorem ctxOkB_of {h : List Fau} (hb : ∀ x : Int,0 ≤ x → x < (h.length : Int) → ctxN h x < (h.length : Int)) : ctxOkB h = true:=all_of (fun i hi=>decide_eq_true (hb (i : Int) (by omega) (by omega)))
theorem impl_Heap_contexts.calls (A0_0 : Option Addr) (c0_0 : Nat) (l0_0 : List (S79)) (a1 : Int) (r : List Int) (w : World) (hr0_0 : Kd.C k79 w A0_0 l0_0.length l0_0) (hc0_0 : l0_0.length ≤ c0_0) (h : impl_Heap_contexts.f l0_0 a1 = some r) :
  Calls Try.prog 61 #[.agg #[.slice A0_0 l0_0.length c0_0],.int .i64 a1] w fun e w'=>∃ v0_ : Value,e = .returned (v0_) ∧ Kd.R (Kd.int .i64) 3 w' w.heap.size (fun _=>True) v0_ r ∧ Below w.heap.size w w':=by
 have hsm : ctxOkB l0_0 = true ∧ (a1 < (l0_0.length : Int) ∧ l0_0.length ≤ 2097152):=by
  apply Classical.byContradiction
  intro hn
  rw [impl_Heap_contexts.f,if_neg hn] at h
  cases h
 rw [impl_Heap_contexts.f,if_pos hsm] at h
 obtain rfl:=Option.some.inj h
 exact impl_Heap_contexts.callsF A0_0 c0_0 l0_0 a1 w hsm.2.1 hsm.2.2 (ctxOkB_out hsm.1) hr0_0
end Go.Proofs.Ytfhcfhffmblacaa.P
namespace Go.Proofs.Ytfhcfhffmblacaa.P
open Go.RowKit Go.Proofs.YtfhcfhffmblacaaW.PrintWords Go.Proofs.YtfhcfhffmblacaaW.PrintLast Go.Proofs.YtfhcfhffmblacaaW.PrintMore
attribute [local go_sem] max2_int min2_int max_two min_two max_three min_three max_four min_four
set_option linter.unusedVariables false
set_option linter.unusedSimpArgs false
def impl_nameOk.l0 : Nat → ByteArray → Int → Int → Option (Bool)
 | 0,_,_,_=>none
 | k + 1,x0,x5,x6=>if x6 < x5 then (if 0 ≤ x6 then (if x6 < (x0.size : Int) then (if (bt x0 x6) < 97 then (some false) else (if (bt x0 x6) > 122 then (some false) else (impl_nameOk.l0 k x0 x5 (wrap64 (x6 + 1))))) else (none)) else (none)) else ((impl_within.f (x0.size : Int) 1 6).bind fun t1=>(some t1))
def impl_nameOk.f (k : Nat) (a0 : ByteArray) : Option (Bool):=impl_nameOk.l0 k a0 (a0.size : Int) 0
theorem impl_nameOk.mono_l : ∀ k,(∀ y0 y1 y2,LeO (impl_nameOk.l0 k y0 y1 y2) (impl_nameOk.l0 (k + 1) y0 y1 y2))
 | 0=>fun _ _ _ r h=>by simp [impl_nameOk.l0] at h
 | k + 1=>by
  have ih0:=impl_nameOk.mono_l k
  ·intro y0 y1 y2
   unfold impl_nameOk.l0
   repeat' first
   | (with_reducible exact ih0 _ _ _)
   | (with_reducible exact LeO.refl _)
   | (with_reducible exact LeO.none _)
   | (with_reducible refine LeO.ite ?_ ?_)
   | (with_reducible refine LeO.bind ?_ (fun _=>?_))
   | exact ih0 _ _ _
   | exact LeO.none _
   | refine LeO.ite ?_ ?_
   | refine LeO.bind ?_ (fun _=>?_)
theorem impl_nameOk.mono : ∀ a0 k,LeO (impl_nameOk.f k a0) (impl_nameOk.f (k + 1) a0):=by
 intro a0 k
 have ih0:=impl_nameOk.mono_l k
 unfold impl_nameOk.f
 repeat' first
   | (with_reducible exact ih0 _ _ _)
   | (with_reducible exact LeO.refl _)
   | (with_reducible exact LeO.none _)
   | (with_reducible refine LeO.ite ?_ ?_)
   | (with_reducible refine LeO.bind ?_ (fun _=>?_))
   | exact ih0 _ _ _
   | exact LeO.none _
   | refine LeO.ite ?_ ?_
   | refine LeO.bind ?_ (fun _=>?_)
set_option maxHeartbeats 8000000 in
set_option maxRecDepth 100000 in
theorem impl_nameOk.calls (k : Nat) (a0 : ByteArray) (r : Bool) (w : World) (h : impl_nameOk.f k a0 = some r) :
  Calls Try.prog 95 #[.string a0] w fun e w'=>e = .returned (.bool r) ∧ Drawn0 w w':=by
 have H : (impl_nameOk.l0 k a0 (a0.size : Int) 0) = some r:=h
 clear h
 have H':=a0_ H
 clear H
 go_enter Try.func95,Try.ntmps95
 go_wp2
 go_loopg [6] k (fun kq v6 w'=>∃ (x6_1 : Int),v6 = .int .i64 x6_1 ∧ Aside0 (impl_nameOk.l0 kq a0 (a0.size : Int) x6_1 = some r) ∧ Aside0 (kq ≤ k) ∧ Drawn0 w w')
 case atStart=>exact ⟨(0),(by first | rfl | (simp;done) | (simp [*];done)),H',⟨Nat.le_refl _⟩,by repeat (first | exact Drawn0.refl _ | apply Drawn0.step)⟩
 case round =>
  clear H'
  obtain ⟨x6_1,rfl,HA,HK1,⟨m1,rfl⟩⟩:=hrel
  cases gk with
  | zero=>exact absurd HA.out (by simp [impl_nameOk.l0])
  | succ k1 =>
   have H:=HA.out
   clear HA
   simp only [impl_nameOk.l0] at H
   by_cases c2 : x6_1 < (a0.size : Int)
   ·rw [if_pos c2] at H
    have c2b0 : decide (x6_1 < (a0.size : Int)) = true:=decide_eq_true c2
    clear c2
    by_cases c3 : 0 ≤ x6_1
    ·rw [if_pos c3] at H
     have c3b0 : decide (0 ≤ x6_1) = true:=decide_eq_true c3
     clear c3
     by_cases c4 : x6_1 < (a0.size : Int)
     ·rw [if_pos c4] at H
      have c4b0 : decide (x6_1 < (a0.size : Int)) = true:=decide_eq_true c4
      clear c4
      by_cases c6 : (bt a0 x6_1) < 97
      ·rw [if_pos c6] at H
       have c6b0 : decide ((bt a0 x6_1) < 97) = true:=decide_eq_true c6
       clear c6
       obtain rfl:=Option.some.inj H
       have p5 : 0 ≤ (x6_1 : Int):=of_decide_eq_true (by first | (with_reducible assumption) | assumption)
       have q5 : x6_1 < (a0.size : Int):=of_decide_eq_true (by first | (with_reducible assumption) | assumption)
       have hx5:=bt_at a0 x6_1
       replace p5:=eq_true p5
       replace q5:=eq_true q5
       go_wp2
       go_ret
       exact ⟨by first | rfl | (simp;done) | (simp [*];done),by repeat (first | exact Drawn0.refl _ | apply Drawn0.step)⟩
      ·rw [if_neg c6] at H
       have c6b0 : decide ((bt a0 x6_1) < 97) = false:=decide_eq_false c6
       clear c6
       by_cases c8 : (bt a0 x6_1) > 122
       ·rw [if_pos c8] at H
        have c8b0 : decide (122 < (bt a0 x6_1)) = true:=decide_eq_true c8
        clear c8
        obtain rfl:=Option.some.inj H
        have p5 : 0 ≤ (x6_1 : Int):=of_decide_eq_true (by first | (with_reducible assumption) | assumption)
        have q5 : x6_1 < (a0.size : Int):=of_decide_eq_true (by first | (with_reducible assumption) | assumption)
        have hx5:=bt_at a0 x6_1
        replace p5:=eq_true p5
        replace q5:=eq_true q5
        have p7 : 0 ≤ (x6_1 : Int):=of_decide_eq_true (by first | (with_reducible assumption) | assumption)
        have q7 : x6_1 < (a0.size : Int):=of_decide_eq_true (by first | (with_reducible assumption) | assumption)
        have hx7:=bt_at a0 x6_1
        replace p7:=eq_true p7
        replace q7:=eq_true q7
        go_wp2
        go_ret
        exact ⟨by first | rfl | (simp;done) | (simp [*];done),by repeat (first | exact Drawn0.refl _ | apply Drawn0.step)⟩
       ·rw [if_neg c8] at H
        have c8b0 : decide (122 < (bt a0 x6_1)) = false:=decide_eq_false c8
        clear c8
        have H':=a0_ H
        clear H
        have p5 : 0 ≤ (x6_1 : Int):=of_decide_eq_true (by first | (with_reducible assumption) | assumption)
        have q5 : x6_1 < (a0.size : Int):=of_decide_eq_true (by first | (with_reducible assumption) | assumption)
        have hx5:=bt_at a0 x6_1
        replace p5:=eq_true p5
        replace q5:=eq_true q5
        have p7 : 0 ≤ (x6_1 : Int):=of_decide_eq_true (by first | (with_reducible assumption) | assumption)
        have q7 : x6_1 < (a0.size : Int):=of_decide_eq_true (by first | (with_reducible assumption) | assumption)
        have hx7:=bt_at a0 x6_1
        replace p7:=eq_true p7
        replace q7:=eq_true q7
        go_wp2
        go_roundg k1
        case measure=>have:=HK1.out;omega
        case rel=>exact ⟨(wrap64 (x6_1 + 1)),(by first | rfl | (simp;done) | (simp [*];done)),H',⟨by have:=HK1.out;omega⟩,by repeat (first | exact Drawn0.refl _ | apply Drawn0.step)⟩
     ·rw [if_neg c4] at H
      exact absurd H (by simp)
    ·rw [if_neg c3] at H
     exact absurd H (by simp)
   ·rw [if_neg c2] at H
    have c2b0 : decide (x6_1 < (a0.size : Int)) = false:=decide_eq_false c2
    clear c2
    replace H:=Option.bind_eq_some_iff.mp H
    obtain ⟨t1,A90,H⟩:=H
    replace H : (some t1) = some r:=H
    have A9:=a0_ A90
    clear A90
    obtain rfl:=Option.some.inj H
    go_wp2_with (first | ((with_reducible refine gate_callee (f:=93) rfl ?_);refine goesL_ (some 22) rfl rfl Try.func93 (by kernel_rfl) rfl #[.int .i64 (a0.size : Int),.int .i64 1,.int .i64 6] rfl lm_ ?_;(with_reducible refine (impl_within.calls (a0.size : Int) 1 6 t1 _ A9.out).mono ?_);rintro e w' ⟨rfl,⟨nd,rfl⟩⟩;refine ⟨_,rfl,?_⟩))
    go_ret
    exact ⟨by first | rfl | (simp;done) | (simp [*];done),by repeat (first | exact Drawn0.refl _ | apply Drawn0.step)⟩
theorem impl_nameOk_l0 (s : ByteArray) (hs : s.size ≤ 9223372036854775807) (d : Nat) : ∀ (k : Nat) (i : Nat),i ≤ s.size → s.size - i = d → d < k → impl_nameOk.l0 k s (s.size : Int) (i : Int) = some ((s.data.toList.drop i).all (fun c=>decide (97 ≤ c.toNat) && decide (c.toNat ≤ 122)) && (decide (1 ≤ s.size) && decide (s.size ≤ 6))):=by
 induction d with
 | zero =>
  intro k i hi hd hk
  obtain ⟨k,rfl⟩ : ∃ m,k = m + 1:=⟨k - 1,by omega⟩
  simp only [impl_nameOk.l0]
  rw [if_neg (by omega)]
  have : s.data.toList.drop i = []:=by
   apply List.drop_eq_nil_of_le
   have : s.data.toList.length = s.size:=toL_len s
   omega
  rw [this]
  simp only [impl_within.f,List.all_nil,Bool.true_and]
  by_cases h1 : 1 ≤ s.size
  ·rw [if_pos (show (s.size : Int) ≥ 1 by omega)]
   by_cases h2 : s.size ≤ 6
   ·simp [h1,h2];omega
   ·simp [h2];omega
  ·rw [if_neg (show ¬ (s.size : Int) ≥ 1 by omega)];simp [h1]
 | succ d ih =>
  intro k i hi hd hk
  obtain ⟨k,rfl⟩ : ∃ m,k = m + 1:=⟨k - 1,by omega⟩
  have hlt : i < s.size:=by omega
  have hl : s.data.toList.length = s.size:=toL_len s
  simp only [impl_nameOk.l0]
  rw [if_pos (show (i : Int) < (s.size : Int) by omega),if_pos (show (0 : Int) ≤ (i : Int) by omega),if_pos (show (i : Int) < (s.size : Int) by omega),bt_getElem s i hlt]
  have hd2 : s.data.toList.drop i = s[i] :: s.data.toList.drop (i + 1):=by
   rw [List.drop_eq_getElem_cons (by omega)]
   congr 1
  rw [hd2,List.all_cons]
  by_cases h1 : (s[i].toNat : Int) < 97
  ·rw [if_pos h1];have : ¬ 97 ≤ s[i].toNat:=by omega
   simp [this]
  ·rw [if_neg h1]
   by_cases h2 : (s[i].toNat : Int) > 122
   ·rw [if_pos h2];have : ¬ s[i].toNat ≤ 122:=by omega
    simp [this]
   ·rw [if_neg h2,wrap_succ (n:=s.size) (by omega) (by omega) (by omega)]
    have:=ih k (i + 1) (by omega) (by omega) (by omega)
    rw [show ((i : Int) + 1) = ((i + 1 : Nat) : Int) by omega,this]
    have a : 97 ≤ s[i].toNat:=by omega
    have b : s[i].toNat ≤ 122:=by omega
    simp [a,b]
theorem impl_nameOk_ev (s : ByteArray) (hs : s.size ≤ 9223372036854775807) : impl_nameOk.f (s.size + 1) s = some (okName s):=by
 unfold impl_nameOk.f okName
 have:=impl_nameOk_l0 s hs s.size (s.size + 1) 0 (by omega) (by omega) (by omega)
 simpa using this
end Go.Proofs.Ytfhcfhffmblacaa.P
namespace Go.Proofs.Ytfhcfhffmblacaa.P
open Go.RowKit Go.Proofs.YtfhcfhffmblacaaW.PrintWords Go.Proofs.YtfhcfhffmblacaaW.PrintLast Go.Proofs.YtfhcfhffmblacaaW.PrintMore
attribute [local go_sem] max2_int min2_int max_two min_two max_three min_three max_four min_four
set_option linter.unusedVariables false
set_option linter.unusedSimpArgs false
set_option maxHeartbeats 2000000 in
theorem slices_IndexFunc_Class.callsF (A : Option Addr) (c : Nat) (l : List S106) (g : Nat) (lb : Array Value) (p : S106 → Bool) (w : World) (eg : ∀ args w,(callFunc g args).run Try.prog w = .ok (.enter g args) w)
  (hr : Kd.C k106 w A l.length l) (hc : l.length ≤ c) (hp : ∀ x,x ∈ l → ∀ W,Below w.heap.size w W → Calls Try.prog g (#[.agg #[.string x.f0,.int .i64 x.f1]] ++ lb) W fun e w'=>e = .returned (.bool (p x)) ∧ Below W.heap.size W w') :
  Calls Try.prog 107 #[.slice A l.length c,.func (.func g) #[] lb] w fun e w'=>e = .returned (.int .i64 (idxP p l)) ∧ Below w.heap.size w w':=by
 have HR:=a0_ hr
 have HP:=a0_ hp
 have hmax : l.length ≤ 9223372036854775807:=hr.2.1
 clear hr hp hc
 go_enter Try.func107,Try.ntmps107
 go_wp2
 go_loopg [5,8] l.length (fun gg _ s8 wr=>∃ kk : Nat,kk ≤ l.length ∧ l.length - kk ≤ gg ∧ s8 = .int .i64 kk ∧ Aside0 (Below w.heap.size w wr) ∧ Aside0 (∀ j (hj : j < l.length),j < kk → p l[j] = false))
 case atStart=>exact ⟨0,Nat.zero_le _,by omega,rfl,⟨Below.refl _ w⟩,⟨fun j _ hj=>absurd hj (Nat.not_lt_zero _)⟩⟩
 case round =>
  obtain ⟨kk,hkk,hg,rfl,BW,HA⟩:=hrel
  by_cases hlt : kk < l.length
  ·have hltz : (kk : Int) < (l.length : Int):=by omega
   obtain ⟨ad,ea,hx0,hx1⟩:=at_T106 HR.out (kk : Int) (by omega) (by omega)
   cases ea
   have hrd : rd_T106 l (kk : Int) = l[kk]:=by simp [rd_T106,hlt]
   rw [hrd] at hx0 hx1
   rw [Int.toNat_natCast] at hx0 hx1
   replace hx0:=(BW.out.cell (World.block_lt_of_cell? w _ hx0)).trans hx0
   replace hx1:=(BW.out.cell (World.block_lt_of_cell? w _ hx1)).trans hx1
   have hcall:=HP.out l[kk] (List.getElem_mem hlt) wr BW.out
   clear hrd
   generalize hy : l[kk] = y at hx0 hx1 hcall
   have B:=a0_ hy
   clear hy
   cases hq : p y with
   | true =>
    rw [hq] at hcall
    go_wp2_with (go_at_fn g;refine hcall.mono ?_;rintro e w' ⟨rfl,hb'⟩)
    go_ret
    refine ⟨?_,below_step BW.out hb'⟩
    rw [idxP_hit p l kk hlt (by rw [B.out];exact hq) HA.out];rfl
   | false =>
    rw [hq] at hcall
    go_wp2_with (go_at_fn g;refine hcall.mono ?_;rintro e w' ⟨rfl,hb'⟩)
    go_roundg (l.length - (kk + 1))
    case measure=>omega
    case rel =>
     refine ⟨kk + 1,by omega,by omega,by go_num,⟨below_step BW.out hb'⟩,⟨fun j hj hjk=>?_⟩⟩
     by_cases e : j = kk
     ·subst e
      rw [B.out];exact hq
     ·exact HA.out j hj (by omega)
  ·have hltz : ¬ (kk : Int) < (l.length : Int):=by omega
   have : kk = l.length:=by omega
   subst this
   go_wp2
   go_ret
   refine ⟨?_,BW.out⟩
   rw [idxP_miss p l (fun j hj=>HA.out j hj hj)];rfl
end Go.Proofs.Ytfhcfhffmblacaa.P
namespace Go.Proofs.Ytfhcfhffmblacaa.P
open Go.RowKit Go.Proofs.YtfhcfhffmblacaaW.PrintWords Go.Proofs.YtfhcfhffmblacaaW.PrintLast Go.Proofs.YtfhcfhffmblacaaW.PrintMore
attribute [local go_sem] max2_int min2_int max_two min_two max_three min_three max_four min_four
set_option linter.unusedVariables false
set_option linter.unusedSimpArgs false
theorem impl_Tree_named_1.callsF (B : Nat) (nm : ByteArray) (x : S106) (w : World) (hB : w.heap[B]? = some (.cells #[.string nm] 9 (0,0))) :
  Calls Try.prog 108 #[.agg #[.string x.f0,.int .i64 x.f1],.pointer (some ⟨B,0,none⟩)] w fun e w'=>e = .returned (.bool (x.f0.toList == nm.toList)) ∧ Below w.heap.size w w':=by
 have hc : w.cell? ⟨B,0,none⟩ = some (.string nm):=(blk_cell hB 0).trans rfl
 have hlt : B < w.heap.size:=(Array.getElem?_eq_some_iff.1 hB).1
 have hne : B ≠ w.heap.size:=by omega
 clear hB
 go_enter Try.func108,Try.ntmps108
 go_wp2
 all_goals (go_ret;exact ⟨by simp_all,(Below.refl _ w).alloc (Nat.le_refl _) _⟩)
end Go.Proofs.Ytfhcfhffmblacaa.P
namespace Go.Proofs.Ytfhcfhffmblacaa.P
open Go.RowKit Go.Proofs.YtfhcfhffmblacaaW.PrintWords Go.Proofs.YtfhcfhffmblacaaW.PrintLast Go.Proofs.YtfhcfhffmblacaaW.PrintMore
attribute [local go_sem] max2_int min2_int max_two min_two max_three min_three max_four min_four
set_option linter.unusedVariables false
set_option linter.unusedSimpArgs false
def impl_Tree_named.f (l0_0 : List (S106)) (a1 : ByteArray) : Option Int:=some (idxP (fun x : S106=>x.f0.toList == a1.toList) l0_0)
set_option maxHeartbeats 2000000 in
theorem impl_Tree_named.calls (A0_0 : Option Addr) (c0_0 : Nat) (l0_0 : List (S106)) (a1 : ByteArray) (r : Int) (w : World) (hr0_0 : Kd.C k106 w A0_0 l0_0.length l0_0) (hc0_0 : l0_0.length ≤ c0_0) (h : impl_Tree_named.f l0_0 a1 = some r) :
  Calls Try.prog 96 #[.agg #[.slice A0_0 l0_0.length c0_0],.string a1] w fun e w'=>e = .returned (.int .i64 r) ∧ Below w.heap.size w w':=by
 obtain rfl:=Option.some.inj h
 clear h
 have hu31:=Try.underlying33
 have eg : ∀ args w,(callFunc 108 args).run Try.prog w = .ok (.enter 108 args) w:=enters_of Try.func108 (by kernel_rfl) rfl
 have hcon:=fun (W : World) (hb : Below w.heap.size w W) (hB : W.heap[w.heap.size + 1]? = some (.cells #[.string a1] 9 (0,0)))=>slices_IndexFunc_Class.callsF A0_0 c0_0 l0_0 108 #[.pointer (some ⟨w.heap.size + 1,0,none⟩)] (fun x=>x.f0.toList == a1.toList) W eg (Kd.C_below hr0_0 hb) hc0_0 (fun x _ W' hW=>by
  have:=impl_Tree_named_1.callsF (w.heap.size + 1) a1 x W' (blk_keptB hB hW)
  simpa using this)
 clear hr0_0 hc0_0
 generalize idxP (fun x : S106=>x.f0.toList == a1.toList) l0_0 = r at hcon ⊢
 have HC:=a0_ hcon
 clear hcon
 go_enter Try.func96,Try.ntmps96
 go_wp2_with (go_at_call 107;refine (HC.out _ ?hb ?hB).mono ?_;(case hb=>exact below2 w _ _);(case hB=>exact heap_new2 w _ _);rintro e w' ⟨rfl,hb'⟩)
 go_ret
 exact ⟨rfl,(below2 w _ _).trans (hb'.mono (by simp;omega))⟩
end Go.Proofs.Ytfhcfhffmblacaa.P
namespace Go.Proofs.Ytfhcfhffmblacaa.P
open Go.RowKit Go.Proofs.YtfhcfhffmblacaaW.PrintWords Go.Proofs.YtfhcfhffmblacaaW.PrintLast Go.Proofs.YtfhcfhffmblacaaW.PrintMore
attribute [local go_sem] max2_int min2_int max_two min_two max_three min_three max_four min_four
set_option linter.unusedVariables false
set_option linter.unusedSimpArgs false
def impl_ValidTree.f (l0_0 : List (S106)) : Option Bool:=if smT l0_0 = true then some (vT l0_0) else none
set_option maxHeartbeats 4000000 in
set_option maxRecDepth 100000 in
theorem impl_ValidTree.calls (A0_0 : Option Addr) (c0_0 : Nat) (l0_0 : List (S106)) (r : Bool) (w : World) (hr0_0 : Kd.C k106 w A0_0 l0_0.length l0_0) (hc0_0 : l0_0.length ≤ c0_0) (h : impl_ValidTree.f l0_0 = some r) :
  Calls Try.prog 62 #[.agg #[.slice A0_0 l0_0.length c0_0]] w fun e w'=>e = .returned (.bool r) ∧ Below w.heap.size w w':=by
 have hu31:=Try.underlying33
 have hsm : smT l0_0 = true:=by
  apply Classical.byContradiction
  intro hn
  rw [impl_ValidTree.f,if_neg hn] at h
  cases h
 rw [impl_ValidTree.f,if_pos hsm] at h
 have HRr:=a0_ (Option.some.inj h)
 have HSM:=a0_ hsm
 have HR:=a0_ hr0_0
 have hmax : l0_0.length ≤ 9223372036854775807:=hr0_0.2.1
 clear h hsm hr0_0
 go_enter Try.func62,Try.ntmps62
 go_wp2
 go_loopg [8] l0_0.length (fun gg s8 wr=>∃ kk : Nat,kk ≤ l0_0.length ∧ l0_0.length - kk ≤ gg ∧ s8 = .int .i64 kk ∧ Aside0 (Below w.heap.size w wr) ∧ Aside0 (wr.heap[w.heap.size]? = some (.cells #[.slice A0_0 l0_0.length c0_0] 33 (0,0))) ∧ Aside0 (∀ j,j < kk → okCls l0_0 j (l0_0.getD j z106) = true))
 case atStart=>exact ⟨0,Nat.zero_le _,by omega,rfl,⟨below1 w _⟩,⟨heap_new1 w _⟩,⟨fun j hj=>absurd hj (Nat.not_lt_zero _)⟩⟩
 case round =>
  obtain ⟨kk,hkk,hg,rfl,BW,BK,HA⟩:=hrel
  have hcz : wr.cell? ⟨w.heap.size,0,none⟩ = some (.slice A0_0 l0_0.length c0_0):=(blk_cell BK.out 0).trans rfl
  by_cases hlt : kk < l0_0.length
  ·have hltz : (kk : Int) < (l0_0.length : Int):=by omega
   obtain ⟨ad,ea,hx0,hx1⟩:=at_T106 HR.out (kk : Int) (by omega) (by omega)
   cases ea
   have hrd : rd_T106 l0_0 (kk : Int) = l0_0[kk]:=by simp [rd_T106,hlt]
   rw [hrd] at hx0 hx1
   rw [Int.toNat_natCast] at hx0 hx1
   replace hx0:=(BW.out.cell (World.block_lt_of_cell? w _ hx0)).trans hx0
   replace hx1:=(BW.out.cell (World.block_lt_of_cell? w _ hx1)).trans hx1
   clear hrd
   generalize hy : l0_0[kk] = y at hx0 hx1
   have B:=a0_ hy
   clear hy
   go_upto_region 4 with (fail)
   have hW1:=a0_ (below_alloc BW.out (.cells #[.string y.f0,.int .i64 y.f1] 106))
   have hW2:=a0_ (blk_alloc BK.out (.cells #[.string y.f0,.int .i64 y.f1] 106))
   have hW3:=(blk_cell hW2.out 0).trans rfl
   have hW4:=(blk_cell (heap_new1 wr (.cells #[.string y.f0,.int .i64 y.f1] 106)) 0).trans rfl
   have hW5:=(blk_cell (heap_new1 wr (.cells #[.string y.f0,.int .i64 y.f1] 106)) 1).trans rfl
   clear hcz hx0 hx1 BW BK
   generalize wr.alloc (.cells #[.string y.f0,.int .i64 y.f1] 106) = W1 at hW1 hW2 hW3 hW4 hW5 ⊢
   generalize wr.heap.size = gb at hW4 hW5 ⊢
   have hy1 : y.f0.size ≤ 9223372036854775806:=by rw [← B.out];exact smT_at HSM.out kk hlt
   have A1:=a0_ (impl_nameOk_ev y.f0 (by omega))
   have hcn0:=fun (W : World) (hW : Below w.heap.size w W)=>impl_Tree_named.calls (some ad) c0_0 l0_0 y.f0 (named l0_0 y.f0) W (Kd.C_below HR.out hW) hc0_0 rfl
   have hok : okCls l0_0 kk (l0_0.getD kk z106) = okCls l0_0 kk y:=by
    rw [← B.out];simp [List.getD,hlt]
   have hdef : okCls l0_0 kk y = (okName y.f0 && (decide (named l0_0 y.f0 = (kk : Int)) && (if kk = 0 then decide (y.f1 = -1) else decide (0 ≤ y.f1) && decide (y.f1 ≤ (kk : Int) - 1)))):=rfl
   generalize named l0_0 y.f0 = nn at hcn0 hdef
   have HCN:=a0_ hcn0
   have HOK:=a0_ hok
   have HDF:=a0_ hdef
   clear hcn0 hok hdef hy1
   go_cut [45] (fun v45 wc=>v45 = .bool (!okCls l0_0 kk y) ∧ Aside0 (Below w.heap.size w wc) ∧ Aside0 (wc.heap[w.heap.size]? = some (.cells #[.slice (some ad) l0_0.length c0_0] 33 (0,0))))
   case first =>
    have hw1 : IntKind.i64.wrap ((kk : Int) - 1) = (kk : Int) - 1:=by rw [IntKind.wrap_i64];omega
    have A2:=a0_ (show impl_within.f y.f1 0 ((kk : Int) - 1) = some (decide (0 ≤ y.f1) && decide (y.f1 ≤ (kk : Int) - 1)) by
     unfold impl_within.f
     by_cases h0 : 0 ≤ y.f1
     ·rw [if_pos h0];simp [h0]
     ·rw [if_neg h0];simp [h0])
    cases hb1 : okName y.f0 with
    | false =>
     rw [hb1] at A1
     have BV : okCls l0_0 kk y = false:=by rw [HDF.out,hb1];rfl
     clear HDF HOK
     go_wp2_with (first
     | (go_at_call 95;(with_reducible refine (impl_nameOk.calls _ y.f0 _ _ A1.out).mono ?_);rintro e w' ⟨rfl,hd⟩;have hb:=drawn_below hd;replace hW3:=pw_cell_below hb hW3;replace hW4:=pw_cell_below hb hW4;replace hW5:=pw_cell_below hb hW5;replace hW1:=a0_ (below_step hW1.out hb);replace hW2:=a0_ (blk_keptB hW2.out hb);clear hb hd)
     | (go_at_call 96;(with_reducible refine (HCN.out _ hW1.out).mono ?_);rintro e w' ⟨rfl,hb⟩;replace hW3:=pw_cell_below hb hW3;replace hW4:=pw_cell_below hb hW4;replace hW5:=pw_cell_below hb hW5;replace hW1:=a0_ (below_step hW1.out hb);replace hW2:=a0_ (blk_keptB hW2.out hb);clear hb)
     | (go_at_call 93;(with_reducible refine (impl_within.calls y.f1 0 ((kk : Int) - 1) _ _ A2.out).mono ?_);rintro e w' ⟨rfl,hd⟩;have hb:=drawn_below hd;replace hW3:=pw_cell_below hb hW3;replace hW4:=pw_cell_below hb hW4;replace hW5:=pw_cell_below hb hW5;replace hW1:=a0_ (below_step hW1.out hb);replace hW2:=a0_ (blk_keptB hW2.out hb);clear hb hd))
     go_meet
     case rel=>exact ⟨by (rw [BV]);first | rfl | (simp [*];done),⟨hW1.out⟩,⟨hW2.out⟩⟩
    | true =>
     rw [hb1] at A1
     by_cases hb2 : nn ≠ (kk : Int)
     ·have BV : okCls l0_0 kk y = false:=by rw [HDF.out,hb1,decide_eq_false hb2];rfl
      have d2 : (nn != (kk : Int)) = true:=bne_iff_ne.2 hb2
      have d2' : (nn == (kk : Int)) = false:=beq_eq_false_iff_ne.2 hb2
      clear HDF HOK hb2
      go_wp2_with (first
     | (go_at_call 95;(with_reducible refine (impl_nameOk.calls _ y.f0 _ _ A1.out).mono ?_);rintro e w' ⟨rfl,hd⟩;have hb:=drawn_below hd;replace hW3:=pw_cell_below hb hW3;replace hW4:=pw_cell_below hb hW4;replace hW5:=pw_cell_below hb hW5;replace hW1:=a0_ (below_step hW1.out hb);replace hW2:=a0_ (blk_keptB hW2.out hb);clear hb hd)
     | (go_at_call 96;(with_reducible refine (HCN.out _ hW1.out).mono ?_);rintro e w' ⟨rfl,hb⟩;replace hW3:=pw_cell_below hb hW3;replace hW4:=pw_cell_below hb hW4;replace hW5:=pw_cell_below hb hW5;replace hW1:=a0_ (below_step hW1.out hb);replace hW2:=a0_ (blk_keptB hW2.out hb);clear hb)
     | (go_at_call 93;(with_reducible refine (impl_within.calls y.f1 0 ((kk : Int) - 1) _ _ A2.out).mono ?_);rintro e w' ⟨rfl,hd⟩;have hb:=drawn_below hd;replace hW3:=pw_cell_below hb hW3;replace hW4:=pw_cell_below hb hW4;replace hW5:=pw_cell_below hb hW5;replace hW1:=a0_ (below_step hW1.out hb);replace hW2:=a0_ (blk_keptB hW2.out hb);clear hb hd))
      go_meet
      case rel=>exact ⟨by (rw [BV]);first | rfl | (simp [*];done),⟨hW1.out⟩,⟨hW2.out⟩⟩
     ·have hnm : nn = (kk : Int):=Classical.byContradiction fun hn=>hb2 hn
      have d2 : (nn != (kk : Int)) = false:=bne_eq_false_iff_eq.2 hnm
      have d2' : (nn == (kk : Int)) = true:=beq_iff_eq.2 hnm
      have BV0 : okCls l0_0 kk y = (if kk = 0 then decide (y.f1 = -1) else decide (0 ≤ y.f1) && decide (y.f1 ≤ (kk : Int) - 1)):=by rw [HDF.out,hb1,decide_eq_true hnm];rfl
      clear HDF HOK hb2 hnm
      by_cases hk0 : kk = 0
      ·have BV : okCls l0_0 kk y = decide (y.f1 = -1):=by rw [BV0,if_pos hk0]
       have e0 : ((kk : Int) == 0) = true:=beq_iff_eq.2 (by omega)
       have e1 : decide (0 < (kk : Int)) = false:=decide_eq_false (by omega)
       have e1n : decide (0 < kk) = false:=decide_eq_false (by omega)
       clear BV0
       by_cases hp : y.f1 = -1
       ·have e2 : (y.f1 != -1) = false:=by rw [hp];rfl
        have e3 : (y.f1 == -1) = true:=by rw [hp];rfl
        rw [decide_eq_true hp] at BV
        clear hp hk0
        go_wp2_with (first
     | (go_at_call 95;(with_reducible refine (impl_nameOk.calls _ y.f0 _ _ A1.out).mono ?_);rintro e w' ⟨rfl,hd⟩;have hb:=drawn_below hd;replace hW3:=pw_cell_below hb hW3;replace hW4:=pw_cell_below hb hW4;replace hW5:=pw_cell_below hb hW5;replace hW1:=a0_ (below_step hW1.out hb);replace hW2:=a0_ (blk_keptB hW2.out hb);clear hb hd)
     | (go_at_call 96;(with_reducible refine (HCN.out _ hW1.out).mono ?_);rintro e w' ⟨rfl,hb⟩;replace hW3:=pw_cell_below hb hW3;replace hW4:=pw_cell_below hb hW4;replace hW5:=pw_cell_below hb hW5;replace hW1:=a0_ (below_step hW1.out hb);replace hW2:=a0_ (blk_keptB hW2.out hb);clear hb)
     | (go_at_call 93;(with_reducible refine (impl_within.calls y.f1 0 ((kk : Int) - 1) _ _ A2.out).mono ?_);rintro e w' ⟨rfl,hd⟩;have hb:=drawn_below hd;replace hW3:=pw_cell_below hb hW3;replace hW4:=pw_cell_below hb hW4;replace hW5:=pw_cell_below hb hW5;replace hW1:=a0_ (below_step hW1.out hb);replace hW2:=a0_ (blk_keptB hW2.out hb);clear hb hd))
        go_meet
        case rel=>exact ⟨by (rw [BV]);first | rfl | (simp [*];done),⟨hW1.out⟩,⟨hW2.out⟩⟩
       ·have e2 : (y.f1 != -1) = true:=bne_iff_ne.2 hp
        have e3 : (y.f1 == -1) = false:=beq_eq_false_iff_ne.2 hp
        rw [decide_eq_false hp] at BV
        clear hp hk0
        go_wp2_with (first
     | (go_at_call 95;(with_reducible refine (impl_nameOk.calls _ y.f0 _ _ A1.out).mono ?_);rintro e w' ⟨rfl,hd⟩;have hb:=drawn_below hd;replace hW3:=pw_cell_below hb hW3;replace hW4:=pw_cell_below hb hW4;replace hW5:=pw_cell_below hb hW5;replace hW1:=a0_ (below_step hW1.out hb);replace hW2:=a0_ (blk_keptB hW2.out hb);clear hb hd)
     | (go_at_call 96;(with_reducible refine (HCN.out _ hW1.out).mono ?_);rintro e w' ⟨rfl,hb⟩;replace hW3:=pw_cell_below hb hW3;replace hW4:=pw_cell_below hb hW4;replace hW5:=pw_cell_below hb hW5;replace hW1:=a0_ (below_step hW1.out hb);replace hW2:=a0_ (blk_keptB hW2.out hb);clear hb)
     | (go_at_call 93;(with_reducible refine (impl_within.calls y.f1 0 ((kk : Int) - 1) _ _ A2.out).mono ?_);rintro e w' ⟨rfl,hd⟩;have hb:=drawn_below hd;replace hW3:=pw_cell_below hb hW3;replace hW4:=pw_cell_below hb hW4;replace hW5:=pw_cell_below hb hW5;replace hW1:=a0_ (below_step hW1.out hb);replace hW2:=a0_ (blk_keptB hW2.out hb);clear hb hd))
        go_meet
        case rel=>exact ⟨by (rw [BV]);first | rfl | (simp [*];done),⟨hW1.out⟩,⟨hW2.out⟩⟩
      ·have BV : okCls l0_0 kk y = (decide (0 ≤ y.f1) && decide (y.f1 ≤ (kk : Int) - 1)):=by rw [BV0,if_neg hk0]
       have e0 : ((kk : Int) == 0) = false:=beq_eq_false_iff_ne.2 (by omega)
       have e1 : decide (0 < (kk : Int)) = true:=decide_eq_true (by omega)
       have e1n : decide (0 < kk) = true:=decide_eq_true (by omega)
       rw [← BV] at A2
       clear BV BV0 hk0
       cases BV : okCls l0_0 kk y with
       | false =>
        rw [BV] at A2
        go_wp2_with (first
     | (go_at_call 95;(with_reducible refine (impl_nameOk.calls _ y.f0 _ _ A1.out).mono ?_);rintro e w' ⟨rfl,hd⟩;have hb:=drawn_below hd;replace hW3:=pw_cell_below hb hW3;replace hW4:=pw_cell_below hb hW4;replace hW5:=pw_cell_below hb hW5;replace hW1:=a0_ (below_step hW1.out hb);replace hW2:=a0_ (blk_keptB hW2.out hb);clear hb hd)
     | (go_at_call 96;(with_reducible refine (HCN.out _ hW1.out).mono ?_);rintro e w' ⟨rfl,hb⟩;replace hW3:=pw_cell_below hb hW3;replace hW4:=pw_cell_below hb hW4;replace hW5:=pw_cell_below hb hW5;replace hW1:=a0_ (below_step hW1.out hb);replace hW2:=a0_ (blk_keptB hW2.out hb);clear hb)
     | (go_at_call 93;(with_reducible refine (impl_within.calls y.f1 0 ((kk : Int) - 1) _ _ A2.out).mono ?_);rintro e w' ⟨rfl,hd⟩;have hb:=drawn_below hd;replace hW3:=pw_cell_below hb hW3;replace hW4:=pw_cell_below hb hW4;replace hW5:=pw_cell_below hb hW5;replace hW1:=a0_ (below_step hW1.out hb);replace hW2:=a0_ (blk_keptB hW2.out hb);clear hb hd))
        go_meet
        case rel=>exact ⟨by (rw [BV]);first | rfl | (simp [*];done),⟨hW1.out⟩,⟨hW2.out⟩⟩
       | true =>
        rw [BV] at A2
        go_wp2_with (first
     | (go_at_call 95;(with_reducible refine (impl_nameOk.calls _ y.f0 _ _ A1.out).mono ?_);rintro e w' ⟨rfl,hd⟩;have hb:=drawn_below hd;replace hW3:=pw_cell_below hb hW3;replace hW4:=pw_cell_below hb hW4;replace hW5:=pw_cell_below hb hW5;replace hW1:=a0_ (below_step hW1.out hb);replace hW2:=a0_ (blk_keptB hW2.out hb);clear hb hd)
     | (go_at_call 96;(with_reducible refine (HCN.out _ hW1.out).mono ?_);rintro e w' ⟨rfl,hb⟩;replace hW3:=pw_cell_below hb hW3;replace hW4:=pw_cell_below hb hW4;replace hW5:=pw_cell_below hb hW5;replace hW1:=a0_ (below_step hW1.out hb);replace hW2:=a0_ (blk_keptB hW2.out hb);clear hb)
     | (go_at_call 93;(with_reducible refine (impl_within.calls y.f1 0 ((kk : Int) - 1) _ _ A2.out).mono ?_);rintro e w' ⟨rfl,hd⟩;have hb:=drawn_below hd;replace hW3:=pw_cell_below hb hW3;replace hW4:=pw_cell_below hb hW4;replace hW5:=pw_cell_below hb hW5;replace hW1:=a0_ (below_step hW1.out hb);replace hW2:=a0_ (blk_keptB hW2.out hb);clear hb hd))
        go_meet
        case rel=>exact ⟨by (rw [BV]);first | rfl | (simp [*];done),⟨hW1.out⟩,⟨hW2.out⟩⟩
   case rest =>
    obtain ⟨rfl,hW,hK⟩:=hcut
    have hb:=HOK.out
    cases BV : okCls l0_0 kk y with
    | false =>
     go_wp2
     go_ret
     refine ⟨?_,hW.out⟩
     rw [← HRr.out]
     have : vT l0_0 = false:=by
      cases hv : vT l0_0 with
      | false=>rfl
      | true=>have:=vT_at hv kk hlt;rw [HOK.out,BV] at this;cases this
     rw [this];rfl
    | true =>
     go_wp2
     go_roundg (l0_0.length - (kk + 1))
     case measure=>omega
     case rel =>
      refine ⟨kk + 1,by omega,by omega,by go_num,⟨hW.out⟩,⟨hK.out⟩,⟨fun j hj=>?_⟩⟩
      by_cases e : j = kk
      ·subst e;rw [HOK.out,BV]
      ·exact HA.out j (by omega)
  ·have hltz : ¬ (kk : Int) < (l0_0.length : Int):=by omega
   have : kk = l0_0.length:=by omega
   subst this
   have A3:=a0_ (show impl_within.f (l0_0.length : Int) 1 8 = some (vT l0_0) by
    have hall : (List.range l0_0.length).all (fun i=>okCls l0_0 i (l0_0.getD i z106)) = true:=by
     rw [List.all_eq_true];intro i hi;exact HA.out i (by simpa using hi)
    unfold impl_within.f vT
    rw [hall]
    by_cases h1 : (1 : Int) ≤ l0_0.length
    ·rw [if_pos h1]
     have h1' : 1 ≤ l0_0.length:=by omega
     by_cases h8 : l0_0.length ≤ 8
     ·simp [h1',h8];omega
     ·simp [h8];omega
    ·rw [if_neg h1]
     have h1' : ¬ 1 ≤ l0_0.length:=by omega
     simp [h1'])
   rw [HRr.out] at A3
   go_wp2_with (go_at_call 93;(with_reducible refine (impl_within.calls (l0_0.length : Int) 1 8 _ _ A3.out).mono ?_);rintro e w' ⟨rfl,⟨nd,rfl⟩⟩)
   go_ret
   exact ⟨rfl,pw_below_drewN BW.out _⟩
end Go.Proofs.Ytfhcfhffmblacaa.P
namespace Go.Proofs.Ytfhcfhffmblacaa.P
open Go.RowKit Go.Proofs.YtfhcfhffmblacaaW.PrintWords Go.Proofs.YtfhcfhffmblacaaW.PrintLast Go.Proofs.YtfhcfhffmblacaaW.PrintMore
attribute [local go_sem] max2_int min2_int max_two min_two max_three min_three max_four min_four
set_option linter.unusedVariables false
set_option linter.unusedSimpArgs false
def impl_ValidHeap.f (l0_0 : List Cls) (l1_0 : List Fau) : Option Bool:=if smT l0_0 = true ∧ l1_0.length ≤ 2097152 then some (vH l0_0 l1_0) else none
set_option maxHeartbeats 4000000 in
set_option maxRecDepth 100000 in
theorem impl_ValidHeap.calls (A0_0 : Option Addr) (c0_0 : Nat) (l0_0 : List (S106)) (A1_0 : Option Addr) (c1_0 : Nat) (l1_0 : List (S79)) (r : Bool) (w : World) (hr0_0 : Kd.C k106 w A0_0 l0_0.length l0_0) (hc0_0 : l0_0.length ≤ c0_0) (hr1_0 : Kd.C k79 w A1_0 l1_0.length l1_0) (hc1_0 : l1_0.length ≤ c1_0) (h : impl_ValidHeap.f l0_0 l1_0 = some r) :
  Calls Try.prog 19 #[.agg #[.slice A0_0 l0_0.length c0_0],.agg #[.slice A1_0 l1_0.length c1_0]] w fun e w'=>e = .returned (.bool r) ∧ Below w.heap.size w w':=by
 have hu31:=Try.underlying33
 have hu37:=Try.underlying37
 have hu79:=Try.underlying79
 have hsm : smT l0_0 = true ∧ l1_0.length ≤ 2097152:=by
  apply Classical.byContradiction
  intro hn
  rw [impl_ValidHeap.f,if_neg hn] at h
  cases h
 rw [impl_ValidHeap.f,if_pos hsm] at h
 have HR:=a0_ (Option.some.inj h)
 have hlm:=hsm.2
 have HV:=a0_ (fun (W : World) (hb : Below w.heap.size w W)=>impl_ValidTree.calls A0_0 c0_0 l0_0 (vT l0_0) W (Kd.C_below hr0_0 hb) hc0_0 (by rw [impl_ValidTree.f,if_pos hsm.1]))
 have HH:=a0_ (fun (a : Int) (W : World) (hb : Below w.heap.size w W)=>impl_Tree_has.calls A0_0 c0_0 l0_0 a (hasC l0_0 a) W (Kd.C_below hr0_0 hb) hc0_0 (impl_Tree_has_ev l0_0 a hr0_0.2.1))
 have HL:=a0_ (fun (f u : Int) (W : World) (hb : Below w.heap.size w W) (hB : W.heap[w.heap.size + 1]? = some (.cells #[.slice A1_0 l1_0.length c1_0] 37 (0,0)))=>impl_ValidHeap_1.callsF (w.heap.size + 1) A1_0 c1_0 l1_0 f u W hc1_0 hB (Kd.C_below hr1_0 hb))
 have HX:=a0_ (fun (hf : fsH l0_0 l1_0 = true) (f : Int) (h1 : f < (l1_0.length : Int)) (W : World) (hb : Below w.heap.size w W)=>impl_Heap_contexts.callsF A1_0 c1_0 l1_0 f W h1 hsm.2 (fun x h0 h1=>(fsH_ctx hf x h0 h1).2) (Kd.C_below hr1_0 hb))
 have eg : ∀ args w,(callFunc 57 args).run Try.prog w = .ok (.enter 57 args) w:=enters_of Try.func57 (by kernel_rfl) rfl
 have HRD:=a0_ hr1_0
 have HC1:=a0_ hc1_0
 clear h hsm hr0_0 hr1_0
 have BK1:=a0_ (heap_old2 w (.cells #[.slice A0_0 l0_0.length c0_0] 33) (.cells #[.slice A1_0 l1_0.length c1_0] 37))
 have BK2:=a0_ (heap_new2 w (.cells #[.slice A0_0 l0_0.length c0_0] 33) (.cells #[.slice A1_0 l1_0.length c1_0] 37))
 have HB:=a0_ (below2 w (.cells #[.slice A0_0 l0_0.length c0_0] 33) (.cells #[.slice A1_0 l1_0.length c1_0] 37))
 have hcell:=(blk_cell BK1.out 0).trans rfl
 have hcell2:=(blk_cell BK2.out 0).trans rfl
 go_enter Try.func19,Try.ntmps19
 go_wp2
 clear hcell hcell2
 go_loopg [14] l1_0.length (fun gg s14 wr=>∃ kk : Nat,kk ≤ l1_0.length ∧ l1_0.length - kk ≤ gg ∧ s14 = .int .i64 kk ∧ Aside0 (Below w.heap.size w wr) ∧ Aside0 (wr.heap[w.heap.size]? = some (.cells #[.slice A0_0 l0_0.length c0_0] 33 (0,0))) ∧ Aside0 (wr.heap[w.heap.size + 1]? = some (.cells #[.slice A1_0 l1_0.length c1_0] 37 (0,0))) ∧ Aside0 (∀ j,j < kk → okF l0_0 l1_0 j (l1_0.getD j z79) = true))
 case atStart=>exact ⟨0,Nat.zero_le _,by omega,rfl,HB,BK1,BK2,⟨fun j hj=>absurd hj (Nat.not_lt_zero _)⟩⟩
 case round =>
  clear HB BK1 BK2
  obtain ⟨kk,hkk,hg,rfl,HB,BK1,BK2,HA⟩:=hrel
  by_cases hlt : kk < l1_0.length
  ·have hltz : (kk : Int) < (l1_0.length : Int):=by omega
   obtain ⟨ad,ea,hx0,hx1,hx2,hx3,hx4⟩:=at_T79 HRD.out (kk : Int) (by omega) (by omega)
   cases ea
   have hrd : rd_T79 l1_0 (kk : Int) = l1_0.getD kk z79:=by simp [rd_T79]
   rw [hrd] at hx0 hx1 hx2 hx3 hx4
   rw [Int.toNat_natCast] at hx0 hx1 hx2 hx3 hx4
   replace hx0:=(HB.out.cell (World.block_lt_of_cell? w _ hx0)).trans hx0
   replace hx1:=(HB.out.cell (World.block_lt_of_cell? w _ hx1)).trans hx1
   replace hx2:=(HB.out.cell (World.block_lt_of_cell? w _ hx2)).trans hx2
   replace hx3:=(HB.out.cell (World.block_lt_of_cell? w _ hx3)).trans hx3
   replace hx4:=(HB.out.cell (World.block_lt_of_cell? w _ hx4)).trans hx4
   clear hrd
   have hdf : okF l0_0 l1_0 kk (l1_0.getD kk z79) = (hasC l0_0 (l1_0.getD kk z79).f0 && ((decide (0 ≤ (l1_0.getD kk z79).f1) && decide ((l1_0.getD kk z79).f1 ≤ 99)) && (lnkB l1_0 (kk : Int) (l1_0.getD kk z79).f2 && lnkB l1_0 (kk : Int) (l1_0.getD kk z79).f3))):=rfl
   have hrf : ∀ b,okF l0_0 l1_0 kk (l1_0.getD kk z79) = b → b = false → vH l0_0 l1_0 = false:=fun b e1 e2=>by unfold vH fsH;rw [all_false hlt (e1.trans e2)];rfl
   generalize hy : l1_0.getD kk z79 = y at hx0 hx1 hx2 hx3 hx4 hdf hrf
   have NB:=a0_ hy
   clear hy
   obtain ⟨y0,y1,y2,y3,y4⟩:=y
   go_upto_region 5 with (fail)
   have HB1:=a0_ (below_alloc HB.out (.cells #[.int .i64 y0,.int .i64 y1,.int .i64 y2,.int .i64 y3,.bool y4] 79))
   have BKA:=a0_ (blk_alloc BK1.out (.cells #[.int .i64 y0,.int .i64 y1,.int .i64 y2,.int .i64 y3,.bool y4] 79))
   have BKB:=a0_ (blk_alloc BK2.out (.cells #[.int .i64 y0,.int .i64 y1,.int .i64 y2,.int .i64 y3,.bool y4] 79))
   have BY:=a0_ (heap_new1 wr (.cells #[.int .i64 y0,.int .i64 y1,.int .i64 y2,.int .i64 y3,.bool y4] 79))
   clear HB BK1 BK2 hx0 hx1 hx2 hx3 hx4
   generalize wr.alloc (.cells #[.int .i64 y0,.int .i64 y1,.int .i64 y2,.int .i64 y3,.bool y4] 79) = W1 at HB1 BKA BKB BY ⊢
   generalize wr.heap.size = gb at BY ⊢
   have HB:=HB1
   have BK1:=BKA
   have BK2:=BKB
   clear HB1 BKA BKB
   have hcell:=(blk_cell BK1.out 0).trans rfl
   have hx0:=(blk_cell BY.out 0).trans rfl
   have hx1:=(blk_cell BY.out 1).trans rfl
   have hx2:=(blk_cell BY.out 2).trans rfl
   have hx3:=(blk_cell BY.out 3).trans rfl
   replace HH:=a0_ (fun (_ : Unit)=>HH.out y0)
   have HC:=a0_ (impl_codeOk_ev y1)
   have HL2:=a0_ (HL.out (kk : Int) y2)
   have HL3:=a0_ (HL.out (kk : Int) y3)
   simp only at hdf
   generalize hasC l0_0 y0 = q1 at HH hdf
   generalize (decide (0 ≤ y1) && decide (y1 ≤ 99)) = q2 at HC hdf
   generalize lnkB l1_0 (kk : Int) y2 = q3 at HL2 hdf
   generalize lnkB l1_0 (kk : Int) y3 = q4 at HL3 hdf
   cases q1 with
   | false =>
    have HRF:=a0_ (hrf _ hdf rfl)
    clear hdf hrf HV HX
    go_wp2_with (first | (go_at_call 59;(with_reducible refine (HH.out () _ HB.out).mono ?_);rintro e w' ⟨rfl,hb'⟩;replace BK1:=a0_ (blk_keptB BK1.out hb');replace BK2:=a0_ (blk_keptB BK2.out hb');replace BY:=a0_ (blk_keptB BY.out hb');replace HB:=a0_ (below_step HB.out hb');clear hb';have hx0:=(blk_cell BY.out 0).trans rfl;have hx1:=(blk_cell BY.out 1).trans rfl;have hx2:=(blk_cell BY.out 2).trans rfl;have hx3:=(blk_cell BY.out 3).trans rfl) | (go_at_call 60;(with_reducible refine (impl_codeOk.calls _ _ _ HC.out).mono ?_);rintro e w' ⟨rfl,hd'⟩;have hb':=hd'.below;replace BK1:=a0_ (blk_keptB BK1.out hb');replace BK2:=a0_ (blk_keptB BK2.out hb');replace BY:=a0_ (blk_keptB BY.out hb');replace HB:=a0_ (below_step HB.out hb');clear hb' hd';have hx0:=(blk_cell BY.out 0).trans rfl;have hx1:=(blk_cell BY.out 1).trans rfl;have hx2:=(blk_cell BY.out 2).trans rfl;have hx3:=(blk_cell BY.out 3).trans rfl) | (go_at_fn 57;(with_reducible refine (HL2.out _ HB.out BK2.out).mono ?_);rintro e w' ⟨rfl,hb'⟩;replace BK1:=a0_ (blk_keptB BK1.out hb');replace BK2:=a0_ (blk_keptB BK2.out hb');replace BY:=a0_ (blk_keptB BY.out hb');replace HB:=a0_ (below_step HB.out hb');clear hb';have hx0:=(blk_cell BY.out 0).trans rfl;have hx1:=(blk_cell BY.out 1).trans rfl;have hx2:=(blk_cell BY.out 2).trans rfl;have hx3:=(blk_cell BY.out 3).trans rfl) | (go_at_fn 57;(with_reducible refine (HL3.out _ HB.out BK2.out).mono ?_);rintro e w' ⟨rfl,hb'⟩;replace BK1:=a0_ (blk_keptB BK1.out hb');replace BK2:=a0_ (blk_keptB BK2.out hb');replace BY:=a0_ (blk_keptB BY.out hb');replace HB:=a0_ (below_step HB.out hb');clear hb';have hx0:=(blk_cell BY.out 0).trans rfl;have hx1:=(blk_cell BY.out 1).trans rfl;have hx2:=(blk_cell BY.out 2).trans rfl;have hx3:=(blk_cell BY.out 3).trans rfl))
    go_ret
    exact ⟨by rw [← HR.out,HRF.out];rfl,HB.out⟩
   | true =>
    cases q2 with
    | false =>
     have HRF:=a0_ (hrf _ hdf rfl)
     clear hdf hrf HV HX
     go_wp2_with (first | (go_at_call 59;(with_reducible refine (HH.out () _ HB.out).mono ?_);rintro e w' ⟨rfl,hb'⟩;replace BK1:=a0_ (blk_keptB BK1.out hb');replace BK2:=a0_ (blk_keptB BK2.out hb');replace BY:=a0_ (blk_keptB BY.out hb');replace HB:=a0_ (below_step HB.out hb');clear hb';have hx0:=(blk_cell BY.out 0).trans rfl;have hx1:=(blk_cell BY.out 1).trans rfl;have hx2:=(blk_cell BY.out 2).trans rfl;have hx3:=(blk_cell BY.out 3).trans rfl) | (go_at_call 60;(with_reducible refine (impl_codeOk.calls _ _ _ HC.out).mono ?_);rintro e w' ⟨rfl,hd'⟩;have hb':=hd'.below;replace BK1:=a0_ (blk_keptB BK1.out hb');replace BK2:=a0_ (blk_keptB BK2.out hb');replace BY:=a0_ (blk_keptB BY.out hb');replace HB:=a0_ (below_step HB.out hb');clear hb' hd';have hx0:=(blk_cell BY.out 0).trans rfl;have hx1:=(blk_cell BY.out 1).trans rfl;have hx2:=(blk_cell BY.out 2).trans rfl;have hx3:=(blk_cell BY.out 3).trans rfl) | (go_at_fn 57;(with_reducible refine (HL2.out _ HB.out BK2.out).mono ?_);rintro e w' ⟨rfl,hb'⟩;replace BK1:=a0_ (blk_keptB BK1.out hb');replace BK2:=a0_ (blk_keptB BK2.out hb');replace BY:=a0_ (blk_keptB BY.out hb');replace HB:=a0_ (below_step HB.out hb');clear hb';have hx0:=(blk_cell BY.out 0).trans rfl;have hx1:=(blk_cell BY.out 1).trans rfl;have hx2:=(blk_cell BY.out 2).trans rfl;have hx3:=(blk_cell BY.out 3).trans rfl) | (go_at_fn 57;(with_reducible refine (HL3.out _ HB.out BK2.out).mono ?_);rintro e w' ⟨rfl,hb'⟩;replace BK1:=a0_ (blk_keptB BK1.out hb');replace BK2:=a0_ (blk_keptB BK2.out hb');replace BY:=a0_ (blk_keptB BY.out hb');replace HB:=a0_ (below_step HB.out hb');clear hb';have hx0:=(blk_cell BY.out 0).trans rfl;have hx1:=(blk_cell BY.out 1).trans rfl;have hx2:=(blk_cell BY.out 2).trans rfl;have hx3:=(blk_cell BY.out 3).trans rfl))
     go_ret
     exact ⟨by rw [← HR.out,HRF.out];rfl,HB.out⟩
    | true =>
     cases q3 with
     | false =>
      have HRF:=a0_ (hrf _ hdf rfl)
      clear hdf hrf HV HX
      go_wp2_with (first | (go_at_call 59;(with_reducible refine (HH.out () _ HB.out).mono ?_);rintro e w' ⟨rfl,hb'⟩;replace BK1:=a0_ (blk_keptB BK1.out hb');replace BK2:=a0_ (blk_keptB BK2.out hb');replace BY:=a0_ (blk_keptB BY.out hb');replace HB:=a0_ (below_step HB.out hb');clear hb';have hx0:=(blk_cell BY.out 0).trans rfl;have hx1:=(blk_cell BY.out 1).trans rfl;have hx2:=(blk_cell BY.out 2).trans rfl;have hx3:=(blk_cell BY.out 3).trans rfl) | (go_at_call 60;(with_reducible refine (impl_codeOk.calls _ _ _ HC.out).mono ?_);rintro e w' ⟨rfl,hd'⟩;have hb':=hd'.below;replace BK1:=a0_ (blk_keptB BK1.out hb');replace BK2:=a0_ (blk_keptB BK2.out hb');replace BY:=a0_ (blk_keptB BY.out hb');replace HB:=a0_ (below_step HB.out hb');clear hb' hd';have hx0:=(blk_cell BY.out 0).trans rfl;have hx1:=(blk_cell BY.out 1).trans rfl;have hx2:=(blk_cell BY.out 2).trans rfl;have hx3:=(blk_cell BY.out 3).trans rfl) | (go_at_fn 57;(with_reducible refine (HL2.out _ HB.out BK2.out).mono ?_);rintro e w' ⟨rfl,hb'⟩;replace BK1:=a0_ (blk_keptB BK1.out hb');replace BK2:=a0_ (blk_keptB BK2.out hb');replace BY:=a0_ (blk_keptB BY.out hb');replace HB:=a0_ (below_step HB.out hb');clear hb';have hx0:=(blk_cell BY.out 0).trans rfl;have hx1:=(blk_cell BY.out 1).trans rfl;have hx2:=(blk_cell BY.out 2).trans rfl;have hx3:=(blk_cell BY.out 3).trans rfl) | (go_at_fn 57;(with_reducible refine (HL3.out _ HB.out BK2.out).mono ?_);rintro e w' ⟨rfl,hb'⟩;replace BK1:=a0_ (blk_keptB BK1.out hb');replace BK2:=a0_ (blk_keptB BK2.out hb');replace BY:=a0_ (blk_keptB BY.out hb');replace HB:=a0_ (below_step HB.out hb');clear hb';have hx0:=(blk_cell BY.out 0).trans rfl;have hx1:=(blk_cell BY.out 1).trans rfl;have hx2:=(blk_cell BY.out 2).trans rfl;have hx3:=(blk_cell BY.out 3).trans rfl))
      go_ret
      exact ⟨by rw [← HR.out,HRF.out];rfl,HB.out⟩
     | true =>
      cases q4 with
      | false =>
       have HRF:=a0_ (hrf _ hdf rfl)
       clear hdf hrf HV HX
       go_wp2_with (first | (go_at_call 59;(with_reducible refine (HH.out () _ HB.out).mono ?_);rintro e w' ⟨rfl,hb'⟩;replace BK1:=a0_ (blk_keptB BK1.out hb');replace BK2:=a0_ (blk_keptB BK2.out hb');replace BY:=a0_ (blk_keptB BY.out hb');replace HB:=a0_ (below_step HB.out hb');clear hb';have hx0:=(blk_cell BY.out 0).trans rfl;have hx1:=(blk_cell BY.out 1).trans rfl;have hx2:=(blk_cell BY.out 2).trans rfl;have hx3:=(blk_cell BY.out 3).trans rfl) | (go_at_call 60;(with_reducible refine (impl_codeOk.calls _ _ _ HC.out).mono ?_);rintro e w' ⟨rfl,hd'⟩;have hb':=hd'.below;replace BK1:=a0_ (blk_keptB BK1.out hb');replace BK2:=a0_ (blk_keptB BK2.out hb');replace BY:=a0_ (blk_keptB BY.out hb');replace HB:=a0_ (below_step HB.out hb');clear hb' hd';have hx0:=(blk_cell BY.out 0).trans rfl;have hx1:=(blk_cell BY.out 1).trans rfl;have hx2:=(blk_cell BY.out 2).trans rfl;have hx3:=(blk_cell BY.out 3).trans rfl) | (go_at_fn 57;(with_reducible refine (HL2.out _ HB.out BK2.out).mono ?_);rintro e w' ⟨rfl,hb'⟩;replace BK1:=a0_ (blk_keptB BK1.out hb');replace BK2:=a0_ (blk_keptB BK2.out hb');replace BY:=a0_ (blk_keptB BY.out hb');replace HB:=a0_ (below_step HB.out hb');clear hb';have hx0:=(blk_cell BY.out 0).trans rfl;have hx1:=(blk_cell BY.out 1).trans rfl;have hx2:=(blk_cell BY.out 2).trans rfl;have hx3:=(blk_cell BY.out 3).trans rfl) | (go_at_fn 57;(with_reducible refine (HL3.out _ HB.out BK2.out).mono ?_);rintro e w' ⟨rfl,hb'⟩;replace BK1:=a0_ (blk_keptB BK1.out hb');replace BK2:=a0_ (blk_keptB BK2.out hb');replace BY:=a0_ (blk_keptB BY.out hb');replace HB:=a0_ (below_step HB.out hb');clear hb';have hx0:=(blk_cell BY.out 0).trans rfl;have hx1:=(blk_cell BY.out 1).trans rfl;have hx2:=(blk_cell BY.out 2).trans rfl;have hx3:=(blk_cell BY.out 3).trans rfl))
       go_ret
       exact ⟨by rw [← HR.out,HRF.out];rfl,HB.out⟩
      | true =>
       have HDF:=a0_ hdf
       clear hdf hrf HV HX
       go_wp2_with (first | (go_at_call 59;(with_reducible refine (HH.out () _ HB.out).mono ?_);rintro e w' ⟨rfl,hb'⟩;replace BK1:=a0_ (blk_keptB BK1.out hb');replace BK2:=a0_ (blk_keptB BK2.out hb');replace BY:=a0_ (blk_keptB BY.out hb');replace HB:=a0_ (below_step HB.out hb');clear hb';have hx0:=(blk_cell BY.out 0).trans rfl;have hx1:=(blk_cell BY.out 1).trans rfl;have hx2:=(blk_cell BY.out 2).trans rfl;have hx3:=(blk_cell BY.out 3).trans rfl) | (go_at_call 60;(with_reducible refine (impl_codeOk.calls _ _ _ HC.out).mono ?_);rintro e w' ⟨rfl,hd'⟩;have hb':=hd'.below;replace BK1:=a0_ (blk_keptB BK1.out hb');replace BK2:=a0_ (blk_keptB BK2.out hb');replace BY:=a0_ (blk_keptB BY.out hb');replace HB:=a0_ (below_step HB.out hb');clear hb' hd';have hx0:=(blk_cell BY.out 0).trans rfl;have hx1:=(blk_cell BY.out 1).trans rfl;have hx2:=(blk_cell BY.out 2).trans rfl;have hx3:=(blk_cell BY.out 3).trans rfl) | (go_at_fn 57;(with_reducible refine (HL2.out _ HB.out BK2.out).mono ?_);rintro e w' ⟨rfl,hb'⟩;replace BK1:=a0_ (blk_keptB BK1.out hb');replace BK2:=a0_ (blk_keptB BK2.out hb');replace BY:=a0_ (blk_keptB BY.out hb');replace HB:=a0_ (below_step HB.out hb');clear hb';have hx0:=(blk_cell BY.out 0).trans rfl;have hx1:=(blk_cell BY.out 1).trans rfl;have hx2:=(blk_cell BY.out 2).trans rfl;have hx3:=(blk_cell BY.out 3).trans rfl) | (go_at_fn 57;(with_reducible refine (HL3.out _ HB.out BK2.out).mono ?_);rintro e w' ⟨rfl,hb'⟩;replace BK1:=a0_ (blk_keptB BK1.out hb');replace BK2:=a0_ (blk_keptB BK2.out hb');replace BY:=a0_ (blk_keptB BY.out hb');replace HB:=a0_ (below_step HB.out hb');clear hb';have hx0:=(blk_cell BY.out 0).trans rfl;have hx1:=(blk_cell BY.out 1).trans rfl;have hx2:=(blk_cell BY.out 2).trans rfl;have hx3:=(blk_cell BY.out 3).trans rfl))
       go_roundg (l1_0.length - (kk + 1))
       case measure=>omega
       case rel =>
        refine ⟨kk + 1,by omega,by omega,by go_num,HB,BK1,BK2,⟨fun j hj=>?_⟩⟩
        by_cases e : j = kk
        ·subst e;rw [NB.out];exact HDF.out
        ·exact HA.out j (by omega)
  ·have hltz : ¬ (kk : Int) < (l1_0.length : Int):=by omega
   have : kk = l1_0.length:=by omega
   subst this
   have hfs : fsH l0_0 l1_0 = true:=all_of HA.out
   replace HX:=a0_ (HX.out hfs)
   have HCT:=a0_ (fsH_ctx hfs)
   have hrr : r = (esH l1_0 && (vT l0_0 && decide (l1_0.length ≤ 24))):=by rw [← HR.out];unfold vH;rw [hfs,Bool.true_and]
   have HRR:=a0_ hrr
   have hcell:=(blk_cell BK1.out 0).trans rfl
   have hcell2:=(blk_cell BK2.out 0).trans rfl
   clear HA HR hfs hrr HH HL
   go_wp2
   clear hcell hcell2
   go_loopg [50] l1_0.length (fun gg s50 wr=>∃ kk : Nat,kk ≤ l1_0.length ∧ l1_0.length - kk ≤ gg ∧ s50 = .int .i64 kk ∧ Aside0 (Below w.heap.size w wr) ∧ Aside0 (wr.heap[w.heap.size]? = some (.cells #[.slice A0_0 l0_0.length c0_0] 33 (0,0))) ∧ Aside0 (wr.heap[w.heap.size + 1]? = some (.cells #[.slice A1_0 l1_0.length c1_0] 37 (0,0))) ∧ Aside0 (∀ j,j < kk → endB l1_0 j = true))
   case atStart=>exact ⟨0,Nat.zero_le _,by omega,rfl,HB,BK1,BK2,⟨fun j hj=>absurd hj (Nat.not_lt_zero _)⟩⟩
   case round =>
    clear HB BK1 BK2 hltz
    obtain ⟨kk,hkk,hg,rfl,HB,BK1,BK2,HA⟩:=hrel
    have hcell:=(blk_cell BK1.out 0).trans rfl
    have hcell2:=(blk_cell BK2.out 0).trans rfl
    by_cases hlt : kk < l1_0.length
    ·have hltz : (kk : Int) < (l1_0.length : Int):=by omega
     have hX:=HX.out (kk : Int) hltz
     have hpos:=ctxL_pos l1_0 (kk : Int) (by omega) hltz
     have hlen:=ctxL_len l1_0 (kk : Int)
     have hmem:=ctxL_mem (fun x h0 h1=>(HCT.out x h0 h1).2) (kk : Int) hltz
     have hlast:=hmem _ (lastI_mem hpos)
     have hdf : endB l1_0 kk = decide (ctxN l1_0 (lastI (ctxL l1_0 (kk : Int))) < 0):=rfl
     have hlo:=HCT.out _ hlast.1 hlast.2
     have hrdl : rd (ctxL l1_0 (kk : Int)) (((ctxL l1_0 (kk : Int)).length : Int) - 1) = lastI (ctxL l1_0 (kk : Int)):=by
      unfold lastI
      rw [show (((ctxL l1_0 (kk : Int)).length : Int) - 1) = (((ctxL l1_0 (kk : Int)).length - 1 : Nat) : Int) by omega]
      exact rd_nat _ _ (by omega)
     generalize hL : ctxL l1_0 (kk : Int) = L at hX hpos hlen hlast hdf hlo hrdl
     generalize hz : lastI L = la at hlast hdf hlo hrdl
     obtain ⟨ad,ea,hx0,hx1,hx2,hx3,hx4⟩:=at_T79 HRD.out la hlast.1 hlast.2
     cases ea
     have hrd : (rd_T79 l1_0 la).f3 = ctxN l1_0 la:=by simp [rd_T79,ctxN]
     rw [hrd] at hx3
     have HX3:=a0_ hx3
     have HXX:=a0_ hX
     generalize ctxN l1_0 la = cx at HX3 hdf hlo
     clear hx0 hx1 hx2 hx3 hx4 hrd hmem hL hz hX
     obtain ⟨ix,hix⟩ : ∃ ix,ix = (L.length : Int) - 1:=⟨_,rfl⟩
     have hw1 : wrap64 ((L.length : Int) - 1) = ix:=(wrap_in (by omega) (by omega)).trans hix.symm
     have hw2 : IntKind.i64.wrap ((L.length : Int) - 1) = ix:=(i64_w _).trans hw1
     rw [← hix] at hrdl
     have HRL:=a0_ hrdl
     have hl0:=eq_true hlast.1
     have hl1:=eq_true hlast.2
     have hl2 : 0 ≤ ix:=by omega
     have hl3 : ix < (L.length : Int):=by omega
     clear hix
     have HLO:=a0_ hlo
     have HDF:=a0_ hdf
     clear hrdl hlast hlo hdf
     go_upto_region 12 with (go_at_call 61;refine (HXX.out _ HB.out).mono ?_;rintro e w2 ⟨v9,rfl,ho9,hb9⟩;replace BK1:=a0_ (blk_keptB BK1.out hb9);replace BK2:=a0_ (blk_keptB BK2.out hb9);replace HB:=a0_ (below_step HB.out hb9);obtain ⟨Ao,co,eo⟩:=Kd.R_slice ho9;subst eo;have HO9:=a0_ ho9;clear ho9 hb9)
     obtain ⟨ae,eae,hy0⟩:=Kd.at_int (Kd.R_reads' HO9.out).2.2 ix hl2 hl3
     cases eae
     rw [HRL.out] at hy0
     have hx3:=(HB.out.cell (World.block_lt_of_cell? w _ HX3.out)).trans HX3.out
     have hcell2:=(blk_cell BK2.out 0).trans rfl
     cases hq : (cx != -1) with
     | true =>
      have HRF:=a0_ (show r = false by
       have hc : cx ≠ -1:=bne_iff_ne.1 hq
       have hd:=HDF.out
       rw [decide_eq_false (show ¬ cx < 0 by have:=HLO.out;omega)] at hd
       rw [HRR.out];unfold esH;rw [all_false hlt hd];rfl)
      clear hlt
      go_quiet (fail)
      go_wp2
      go_ret
      exact ⟨by rw [HRF.out];rfl,pw_below_drewN HB.out _⟩
     | false =>
      have HDT:=a0_ (show endB l1_0 kk = true by
       have hc : cx = -1:=bne_eq_false_iff_eq.1 hq
       rw [HDF.out]
       exact decide_eq_true (by omega))
      go_quiet (fail)
      go_wp2
      go_roundg (l1_0.length - (kk + 1))
      case measure=>omega
      case rel =>
       refine ⟨kk + 1,by omega,by omega,by go_num,⟨pw_below_drewN HB.out _⟩,⟨blk_drewN BK1.out _⟩,⟨blk_drewN BK2.out _⟩,⟨fun j hj=>?_⟩⟩
       by_cases e : j = kk
       ·subst e;exact HDT.out
       ·exact HA.out j (by omega)
    ·have hltz : ¬ (kk : Int) < (l1_0.length : Int):=by omega
     have : kk = l1_0.length:=by omega
     subst this
     have hes : esH l1_0 = true:=all_of HA.out
     have hrr:=HRR.out
     rw [hes,Bool.true_and] at hrr
     have hd24 : decide (l1_0.length ≤ 24) = decide ((l1_0.length : Int) ≤ 24):=decide_eq_decide.2 (by omega)
     rw [hd24] at hrr
     clear HA hes HX HCT HRR hd24
     cases hv : vT l0_0 with
     | false =>
      rw [hv] at HV hrr
      clear hv
      go_wp2_with (go_at_call 62;refine (HV.out _ HB.out).mono ?_;rintro e w1 ⟨rfl,hb1⟩;replace HB:=a0_ (below_step HB.out hb1);replace BK2:=a0_ (blk_keptB BK2.out hb1);clear hb1;have hcell2:=(blk_cell BK2.out 0).trans rfl)
      go_ret
      exact ⟨by rw [hrr];rfl,HB.out⟩
     | true =>
      rw [hv,Bool.true_and] at hrr
      rw [hv] at HV
      have HRR:=a0_ hrr
      clear hv hrr
      go_wp2_with (go_at_call 62;refine (HV.out _ HB.out).mono ?_;rintro e w1 ⟨rfl,hb1⟩;replace HB:=a0_ (below_step HB.out hb1);replace BK2:=a0_ (blk_keptB BK2.out hb1);clear hb1;have hcell2:=(blk_cell BK2.out 0).trans rfl)
      go_ret
      exact ⟨by rw [HRR.out];rfl,HB.out⟩
theorem impl_ValidHeap_ev (t : List Cls) (h : List Fau) (hs : smT t = true) (hl : h.length ≤ 2097152) : impl_ValidHeap.f t h = some (vH t h):=by rw [impl_ValidHeap.f,if_pos ⟨hs,hl⟩]
end Go.Proofs.Ytfhcfhffmblacaa.P
namespace Go.Proofs.Ytfhcfhffmblacaa.P
open Go.RowKit Go.Proofs.YtfhcfhffmblacaaW.PrintWords Go.Proofs.YtfhcfhffmblacaaW.PrintLast Go.Proofs.YtfhcfhffmblacaaW.PrintMore
attribute [local go_sem] max2_int min2_int max_two min_two max_three min_three max_four min_four
set_option linter.unusedVariables false
set_option linter.unusedSimpArgs false
theorem pw_eqlnil {P : Program} {t e : TypeId} (a : Option Addr) (h : P.underlying t = some (.slice e)) : ∀ n c w,(binOp .eql t (.slice a n c) (.slice none 0 0)).run P w = .ok (.bool a.isNone) w:=by
 intro n c w
 have h1 : ∀ d,(Op.equalIn (d + 1) t (.slice a n c) (.slice none 0 0)).run P w = .ok a.isNone w:=by
  intro d
  cases a <;> simp [Op.equalIn,run_underlying h]
 have h2 : (Op.equal t (.slice a n c) (.slice none 0 0)).run P w = .ok a.isNone w:=h1 9999
 simp [binOp,h2]
end Go.Proofs.Ytfhcfhffmblacaa.P
namespace Go.Proofs.Ytfhcfhffmblacaa.P
open Go.RowKit Go.Proofs.YtfhcfhffmblacaaW.PrintWords Go.Proofs.YtfhcfhffmblacaaW.PrintLast Go.Proofs.YtfhcfhffmblacaaW.PrintMore
attribute [local go_sem] max2_int min2_int max_two min_two max_three min_three max_four min_four
set_option linter.unusedVariables false
set_option linter.unusedSimpArgs false
def slices_Clone_Fault.f (l0 : List (S79)) : Option (List (S79)):=if l0.length < 3518437208883 then some l0 else none
set_option maxHeartbeats 2000000 in
set_option maxRecDepth 100000 in
theorem slices_Clone_Fault.calls (A0 : Option Addr) (c0 : Nat) (l0 : List (S79)) (r : List (S79)) (w : World) (hr0 : Kd.C k79 w A0 l0.length l0) (hc0 : l0.length ≤ c0) (h : slices_Clone_Fault.f l0 = some r) :
  Calls Try.prog 82 #[.slice A0 l0.length c0] w fun e w'=>∃ v0_ : Value,e = .returned (v0_) ∧ Kd.R k79 79 w' w.heap.size (fun _=>True) v0_ r ∧ Below w.heap.size w w':=by
 have hlm : l0.length < 3518437208883:=by
  apply Classical.byContradiction
  intro hn
  rw [slices_Clone_Fault.f,if_neg hn] at h
  cases h
 rw [slices_Clone_Fault.f,if_pos hlm] at h
 obtain rfl:=Option.some.inj h
 clear h
 have HR0:=a0_ hr0
 have HC0:=a0_ hc0
 have LM:=a0_ hlm
 clear hlm hc0
 have HB:=a0_ (Below.refl w.heap.size w)
 obtain ⟨y1,hy1⟩ : ∃ y_ : List (S79),y_ = (([] : List (S79))):=⟨_,rfl⟩
 have Ny1:=a0_ hy1
 obtain ⟨y4,hy4⟩ : ∃ y_ : List (S79),y_ = y1 ++ l0:=⟨_,rfl⟩
 have Ny4:=a0_ hy4
 have Ny5:=a0_ (show y4 = l0 by rw [hy4,hy1,List.nil_append])
 have Ny6:=a0_ (show y1.length = 0 by rw [hy1];rfl)
 clear hy1 hy4
 cases A0 with
 | none =>
  have e0 : l0.length = 0:=by
   apply Classical.byContradiction
   intro hn
   obtain ⟨ad,e,_⟩:=hr0.2.2 (by omega)
   cases e
  clear hr0
  have e1 : l0 = []:=List.length_eq_zero_iff.1 e0
  have hnl:=pw_eqlnil (P:=Try.prog) none Try.underlying35
  simp only [Option.isNone_none] at hnl
  go_enter Try.func82,Try.ntmps82
  go_wp2
  go_ret
  exact ⟨_,rfl,by rw [e1];exact Kd.R_nil _ _ _ _ _,HB.out⟩
 | some a0 =>
  clear hr0
  have hnl:=pw_eqlnil (P:=Try.prog) (some a0) Try.underlying35
  simp only [Option.isNone_some] at hnl
  go_enter Try.func82,Try.ntmps82
  go_wp2_with (first | ((with_reducible refine gate_dst (N:=5) rfl ?_);refine Kd.R_lit k79 _ 79 ?hg (N:=5) ?hd (xs:=([] : List (S79))) (inner:=[]) (ok:=fun _=>True) (okp:=fun _=>True) ?hr ?hp (fun _ hk=>hk) trivial (Below.refl _ _) (Nat.le_refl _) (by simp) ?_;(case hd=>rfl);(case hg=>rfl);(case hr=>first | (go_simp;done) | (go_simp;rfl));(case hp=>exact (Reps.none _ _));intro v2 w4 ho5 hb hg_ hnew_;clear hg_ hnew_;(first | rw [← Ny1.out] at ho5 | (simp only [Int.reduceToNat] at ho5;rw [← Ny1.out] at ho5));have HO3:=a0_ (Kd.R_lower ho5 (below_size hb_));replace HB:=a0_ (below_step hb_ hb);clear hb ho5) | ((with_reducible refine gate_builtin (b:=.append) (xs:=#[.tmp 5,.tmp 6]) rfl ?_);at_builtin;refine Kd.R_append_rows k79 (w0:=w) w.heap.size rfl (.tmp 5) (.tmp 6) 35 79 (.agg #[(.int .i64 0),(.int .i64 0),(.int .i64 0),(.int .i64 0),(.bool false)]) 40 rfl Try.underlying35 info79 rfl (by decide) (by omega) v2 y1 l0 _ _ _ (fun _=>True) (fun _=>False) rfl rfl ?aO ?aR (fun _ _ h=>h) (fun _ h=>h.elim) ?aF ?aB ?aS ?aL ?_;(case aR=>exact cc_ (Kd.C_below HR0.out HB.out));(case aB=>exact hb_);(case aF=>exact (fun _ _=>trivial));(case aO=>exact (rr_ HO3.out));(case aS=>exact (below_size hb_));(case aL=>have:=LM.out;have:=Ny6.out;omega);intro v5 w6 ho hb hg hat;rw [← Ny4.out] at ho;have HO6:=a0_ (ho);replace HB:=a0_ (hb);clear HO3;clear ho hb hg hat))
  go_ret
  exact ⟨_,rfl,by rw [← Ny5.out];exact HO6.out,HB.out⟩
end Go.Proofs.Ytfhcfhffmblacaa.P
namespace Go.Proofs.Ytfhcfhffmblacaa.P
open Go.RowKit Go.Proofs.YtfhcfhffmblacaaW.PrintWords Go.Proofs.YtfhcfhffmblacaaW.PrintLast Go.Proofs.YtfhcfhffmblacaaW.PrintMore
attribute [local go_sem] max2_int min2_int max_two min_two max_three min_three max_four min_four
set_option linter.unusedVariables false
set_option linter.unusedSimpArgs false
def slices_Clip_Fault.f (l0 : List (S79)) : Option ((List (S79))):=if 0 ≤ (l0.length : Int) then (if (l0.length : Int) ≤ (l0.length : Int) then (some (l0.take ((l0.length : Int) : Int).toNat)) else (none)) else (none)
set_option maxHeartbeats 8000000 in
set_option maxRecDepth 100000 in
theorem slices_Clip_Fault.calls (P0_ : Nat → Prop) (u9000_ : Value) (l0 : List (S79)) (r : List (S79)) (w0 w : World) (hB : Below w0.heap.size w0 w) (ho0 : Kd.R k79 79 w w0.heap.size P0_ u9000_ l0) (h : slices_Clip_Fault.f l0 = some r) :
  Calls Try.prog 83 #[u9000_] w fun e w'=>∃ v0_ : Value,e = .returned (v0_) ∧ Kd.R k79 79 w' w0.heap.size (fun k_=>(P0_ k_ ∨ w.heap.size ≤ k_)) v0_ r ∧ Below w0.heap.size w0 w' ∧ Kept w w' (fun k_=>P0_ k_):=by
 have HO0:=a0_ (show Kd.R k79 79 w w0.heap.size (fun k_=>(P0_ k_ ∨ w.heap.size ≤ k_)) u9000_ l0 from Kd.R_mono ho0 (fun k_ hk=>(.inl hk)))
 have HK:=a0_ (Kept.refl w (fun k_=>P0_ k_))
 have HW0:=a0_ hB.size
 have HB:=a0_ hB
 clear hB
 have H : (if 0 ≤ (l0.length : Int) then (if (l0.length : Int) ≤ (l0.length : Int) then (some (l0.take ((l0.length : Int) : Int).toNat)) else (none)) else (none)) = some r:=h
 clear h
 by_cases c2 : 0 ≤ (l0.length : Int)
 ·rw [if_pos c2] at H
  have c2b0:=eq_true c2
  have c2b1 : decide (0 ≤ (l0.length : Int)) = true:=decide_eq_true c2
  clear c2
  by_cases c3 : (l0.length : Int) ≤ (l0.length : Int)
  ·rw [if_pos c3] at H
   have c3b0:=eq_true c3
   have c3b1 : decide ((l0.length : Int) ≤ (l0.length : Int)) = true:=decide_eq_true c3
   clear c3
   obtain ⟨y1,hy1⟩ : ∃ y_ : List (S79),y_ = (l0.take ((l0.length : Int) : Int).toNat):=⟨_,rfl⟩
   replace H : (some y1) = some r:=by first | (rw [hy1];with_reducible exact H) | (have H2_:=(Option.bind_some _ _).symm.trans H;rw [hy1];with_reducible exact H2_) | (have H2_:=(Option.bind_some _ _).symm.trans H;with_reducible exact H2_) | with_reducible exact H | (rw [hy1];exact H) | exact H
   have Ny1:=a0_ hy1
   clear hy1
   obtain rfl:=Option.some.inj H
   obtain ⟨Ao4,co4,eo4⟩:=Kd.R_slice HO0.out
   subst eo4
   have q5 : l0.length ≤ co4:=(Kd.R_reads' HO0.out).2.1
   have hr5:=Kd.R_clip2 HO0.out (((l0.length : Int) : Int).toNat) (by omega)
   rw [← Ny1.out] at hr5
   clear HO0
   have HO3:=a0_ hr5
   clear hr5
   go_enter Try.func83,Try.ntmps83
   go_wp2
   go_ret
   exact ⟨_,by first | rfl | (simp [errW_none,errW_some] <;> rfl) | (simp [*,errW_none,errW_some] <;> rfl),by (with_reducible repeat (first | apply Kd.R_alloc | apply Kd.R_drewN | apply Kd.R_drew));exact HO3.out,hb_,by repeat (first | (with_reducible first | exact HK.out | apply Kept.alloc | apply Kept.drewN | apply Kept.drew) | exact HK.out)⟩
  ·rw [if_neg c3] at H
   exact absurd H (by simp)
 ·rw [if_neg c2] at H
  exact absurd H (by simp)
end Go.Proofs.Ytfhcfhffmblacaa.P
