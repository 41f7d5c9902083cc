/- Texts under the proof of FnExactStartOf: helper words, the functions' contracts and the plain laws. No condition. -/
import Derived.Test.YtfhcfhffmblacaaQFnExactStartOfa
namespace Go.Proofs.Ytfhcfhffmblacaa.P
open Go.RowKit Go.Proofs.YtfhcfhffmblacaaW.PrintWords Go.Proofs.YtfhcfhffmblacaaW.PrintLast Go.Proofs.YtfhcfhffmblacaaW.PrintMore
attribute [local go_sem] max2_int min2_int max_two min_two max_three min_three max_four min_four
set_option linter.unusedVariables false
set_option linter.unusedSimpArgs false
mutual
def spec_validHeap.l0 : Nat → Int → List (S106) → List (S79) → Option (Bool)
 | 0,_,_,_=>none
 | k + 1,x5,x2000,x3000=>if x5 < (x3000.length : Int) then (if 0 ≤ x5 then ((spec_hasClass.f x2000 ((rd_T79 x3000 x5).f0)).bind fun t5=>(if t5 = true then ((spec_inRange.f ((rd_T79 x3000 x5).f1) 0 99).bind fun t6=>(if t6 = true then ((spec_validLinks.f x3000 x5).bind fun t7=>(if t7 = true then (spec_validHeap.l0 k (wrap64 (x5 + 1)) x2000 x3000) else (some false))) else (some false))) else (some false))) else (none)) else (spec_validHeap.l1 k 0 x2000 x3000)
def spec_validHeap.l1 : Nat → Int → List (S106) → List (S79) → Option (Bool)
 | 0,_,_,_=>none
 | k + 1,x7,x2000,x3000=>if x7 < (x3000.length : Int) then ((spec_contexts.f k x3000 x7).bind fun t8=>(if 0 ≤ (wrap64 ((t8.length : Int) - 1)) then (if (wrap64 ((t8.length : Int) - 1)) < (t8.length : Int) then (if 0 ≤ (rd t8 (wrap64 ((t8.length : Int) - 1))) then (if (rd t8 (wrap64 ((t8.length : Int) - 1))) < (x3000.length : Int) then (if ((rd_T79 x3000 (rd t8 (wrap64 ((t8.length : Int) - 1)))).f3) ≥ 0 then (some false) else (spec_validHeap.l1 k (wrap64 (x7 + 1)) x2000 x3000)) else (none)) else (none)) else (none)) else (none))) else ((spec_validTree.f x2000).bind fun t13=>(if t13 = true then (some (decide ((x3000.length : Int) ≤ 24))) else (some false)))
end
def spec_validHeap.f (k : Nat) (l0_0 : List (S106)) (l1_0 : List (S79)) : Option (Bool):=spec_validHeap.l0 k 0 l0_0 l1_0
theorem spec_validHeap.mono_l : ∀ k,(∀ y0 y1 y2,LeO (spec_validHeap.l0 k y0 y1 y2) (spec_validHeap.l0 (k + 1) y0 y1 y2)) ∧ (∀ y0 y1 y2,LeO (spec_validHeap.l1 k y0 y1 y2) (spec_validHeap.l1 (k + 1) y0 y1 y2))
 | 0=>⟨fun _ _ _ r h=>by simp [spec_validHeap.l0] at h,fun _ _ _ r h=>by simp [spec_validHeap.l1] at h⟩
 | k + 1=>by
  obtain ⟨ih0,ih1⟩:=spec_validHeap.mono_l k
  refine ⟨?_,?_⟩
  ·intro y0 y1 y2
   unfold spec_validHeap.l0
   repeat' first
   | (with_reducible exact ih0 _ _ _)
   | (with_reducible exact ih1 _ _ _)
   | (with_reducible exact spec_contexts.mono _ _ _)
   | (with_reducible exact LeO.refl _)
   | (with_reducible exact LeO.none _)
   | (with_reducible refine LeO.ite ?_ ?_)
   | (with_reducible refine LeO.bind ?_ (fun _=>?_))
   | exact ih0 _ _ _
   | exact ih1 _ _ _
   | exact spec_contexts.mono _ _ _
   | exact LeO.none _
   | refine LeO.ite ?_ ?_
   | refine LeO.bind ?_ (fun _=>?_)
  ·intro y0 y1 y2
   unfold spec_validHeap.l1
   repeat' first
   | (with_reducible exact ih0 _ _ _)
   | (with_reducible exact ih1 _ _ _)
   | (with_reducible exact spec_contexts.mono _ _ _)
   | (with_reducible exact LeO.refl _)
   | (with_reducible exact LeO.none _)
   | (with_reducible refine LeO.ite ?_ ?_)
   | (with_reducible refine LeO.bind ?_ (fun _=>?_))
   | exact ih0 _ _ _
   | exact ih1 _ _ _
   | exact spec_contexts.mono _ _ _
   | exact LeO.none _
   | refine LeO.ite ?_ ?_
   | refine LeO.bind ?_ (fun _=>?_)
theorem spec_validHeap.mono : ∀ a0 a1 k,LeO (spec_validHeap.f k a0 a1) (spec_validHeap.f (k + 1) a0 a1):=by
 intro a0 a1 k
 obtain ⟨ih0,ih1⟩:=spec_validHeap.mono_l k
 unfold spec_validHeap.f
 repeat' first
   | (with_reducible exact ih0 _ _ _)
   | (with_reducible exact ih1 _ _ _)
   | (with_reducible exact spec_contexts.mono _ _ _)
   | (with_reducible exact LeO.refl _)
   | (with_reducible exact LeO.none _)
   | (with_reducible refine LeO.ite ?_ ?_)
   | (with_reducible refine LeO.bind ?_ (fun _=>?_))
   | exact ih0 _ _ _
   | exact ih1 _ _ _
   | exact spec_contexts.mono _ _ _
   | exact LeO.none _
   | refine LeO.ite ?_ ?_
   | refine LeO.bind ?_ (fun _=>?_)
set_option maxHeartbeats 8000000 in
set_option maxRecDepth 100000 in
theorem spec_validHeap.calls (k : Nat) (A0_0 : Option Addr) (c0_0 : Nat) (l0_0 : List (S106)) (A1_0 : Option Addr) (c1_0 : Nat) (l1_0 : List (S79)) (r : Bool) (w : World) (hr0_0 : Kd.C k106 w A0_0 l0_0.length l0_0) (hc0_0 : l0_0.length ≤ c0_0) (hr1_0 : Kd.C k79 w A1_0 l1_0.length l1_0) (hc1_0 : l1_0.length ≤ c1_0) (h : spec_validHeap.f k l0_0 l1_0 = some r) :
  Calls Try.prog 54 #[.agg #[.slice A0_0 l0_0.length c0_0],.agg #[.slice A1_0 l1_0.length c1_0]] w fun e w'=>e = .returned (.bool r) ∧ Below w.heap.size w w':=by
 have hu33:=Try.underlying33
 have hu37:=Try.underlying37
 have hu79:=Try.underlying79
 have HR0_0:=a0_ hr0_0
 have HC0_0:=a0_ hc0_0
 clear hr0_0 hc0_0
 have HR1_0:=a0_ hr1_0
 have HC1_0:=a0_ hc1_0
 clear hr1_0 hc1_0
 have HB:=a0_ (Below.refl w.heap.size w)
 have H : (spec_validHeap.l0 k 0 l0_0 l1_0) = some r:=h
 clear h
 have H':=a0_ H
 clear H
 go_enter Try.func54,Try.ntmps54
 go_wp2_with (first | ((with_reducible refine gate_dst (N:=2) rfl ?_);(try (refine gate_guard (by rfl) ?_;dsimp only));refine box_event ?hg (N:=2) ?hd (cs:=#[.slice A0_0 l0_0.length c0_0]) (t:=33) ?hr ?_;(case hd=>rfl);(case hg=>rfl);(case hr=>first | (go_simp;done) | (go_simp;rfl));intro gb1 hg w3 hbox hb;have BK1:=a0_ (hbox);have GW1:=a0_ ((by rw [hg];exact (below_size hb_) : w.heap.size ≤ gb1));have GE1:=a0_ ((by rw [hg];exact (below_size hb_) : w.heap.size ≤ gb1));replace HB:=a0_ (below_step hb_ hb);clear hb hbox hg) | ((with_reducible refine gate_dst (N:=3) rfl ?_);(try (refine gate_guard (by rfl) ?_;dsimp only));refine box_event ?hg (N:=3) ?hd (cs:=#[.slice A1_0 l1_0.length c1_0]) (t:=37) ?hr ?_;(case hd=>rfl);(case hg=>rfl);(case hr=>first | (go_simp;done) | (go_simp;rfl));intro gb2 hg w4 hbox hb;have n0_:=kb_ BK1 hb;have n1_:=a0_ (below_step hb_ hb);have n2_:=a0_ (hbox);have n3_:=a0_ ((by rw [hg];exact (below_size hb_) : w.heap.size ≤ gb2));have n4_:=a0_ ((by rw [hg];exact (below_size hb_) : w.heap.size ≤ gb2));have n5_:=a0_ ((by rw [hg];exact Nat.ne_of_lt (blk_lt (bb_ BK1.out)) : gb1 ≠ gb2));have n6_:=a0_ ((by rw [hg];exact Nat.ne_of_gt (blk_lt (bb_ BK1.out)) : gb2 ≠ gb1));clear BK1 HB;have BK1:=n0_;have HB:=n1_;have BK2:=n2_;have GW2:=n3_;have GE2:=n4_;have NB1_2:=n5_;have NB2_1:=n6_;clear n0_ n1_ n2_ n3_ n4_ n5_ n6_;clear hb hbox hg))
 repeat (go_quiet (first | ((with_reducible refine gate_dst (N:=2) rfl ?_);(try (refine gate_guard (by rfl) ?_;dsimp only));refine box_event ?hg (N:=2) ?hd (cs:=#[.slice A0_0 l0_0.length c0_0]) (t:=33) ?hr ?_;(case hd=>rfl);(case hg=>rfl);(case hr=>first | (go_simp;done) | (go_simp;rfl));intro gb1 hg w3 hbox hb;have BK1:=a0_ (hbox);have GW1:=a0_ ((by rw [hg];exact (below_size hb_) : w.heap.size ≤ gb1));have GE1:=a0_ ((by rw [hg];exact (below_size hb_) : w.heap.size ≤ gb1));replace HB:=a0_ (below_step hb_ hb);clear hb hbox hg) | ((with_reducible refine gate_dst (N:=3) rfl ?_);(try (refine gate_guard (by rfl) ?_;dsimp only));refine box_event ?hg (N:=3) ?hd (cs:=#[.slice A1_0 l1_0.length c1_0]) (t:=37) ?hr ?_;(case hd=>rfl);(case hg=>rfl);(case hr=>first | (go_simp;done) | (go_simp;rfl));intro gb2 hg w4 hbox hb;have n0_:=kb_ BK1 hb;have n1_:=a0_ (below_step hb_ hb);have n2_:=a0_ (hbox);have n3_:=a0_ ((by rw [hg];exact (below_size hb_) : w.heap.size ≤ gb2));have n4_:=a0_ ((by rw [hg];exact (below_size hb_) : w.heap.size ≤ gb2));have n5_:=a0_ ((by rw [hg];exact Nat.ne_of_lt (blk_lt (bb_ BK1.out)) : gb1 ≠ gb2));have n6_:=a0_ ((by rw [hg];exact Nat.ne_of_gt (blk_lt (bb_ BK1.out)) : gb2 ≠ gb1));clear BK1 HB;have BK1:=n0_;have HB:=n1_;have BK2:=n2_;have GW2:=n3_;have GE2:=n4_;have NB1_2:=n5_;have NB2_1:=n6_;clear n0_ n1_ n2_ n3_ n4_ n5_ n6_;clear hb hbox hg));try go_wp2_with (first | ((with_reducible refine gate_dst (N:=2) rfl ?_);(try (refine gate_guard (by rfl) ?_;dsimp only));refine box_event ?hg (N:=2) ?hd (cs:=#[.slice A0_0 l0_0.length c0_0]) (t:=33) ?hr ?_;(case hd=>rfl);(case hg=>rfl);(case hr=>first | (go_simp;done) | (go_simp;rfl));intro gb1 hg w3 hbox hb;have BK1:=a0_ (hbox);have GW1:=a0_ ((by rw [hg];exact (below_size hb_) : w.heap.size ≤ gb1));have GE1:=a0_ ((by rw [hg];exact (below_size hb_) : w.heap.size ≤ gb1));replace HB:=a0_ (below_step hb_ hb);clear hb hbox hg) | ((with_reducible refine gate_dst (N:=3) rfl ?_);(try (refine gate_guard (by rfl) ?_;dsimp only));refine box_event ?hg (N:=3) ?hd (cs:=#[.slice A1_0 l1_0.length c1_0]) (t:=37) ?hr ?_;(case hd=>rfl);(case hg=>rfl);(case hr=>first | (go_simp;done) | (go_simp;rfl));intro gb2 hg w4 hbox hb;have n0_:=kb_ BK1 hb;have n1_:=a0_ (below_step hb_ hb);have n2_:=a0_ (hbox);have n3_:=a0_ ((by rw [hg];exact (below_size hb_) : w.heap.size ≤ gb2));have n4_:=a0_ ((by rw [hg];exact (below_size hb_) : w.heap.size ≤ gb2));have n5_:=a0_ ((by rw [hg];exact Nat.ne_of_lt (blk_lt (bb_ BK1.out)) : gb1 ≠ gb2));have n6_:=a0_ ((by rw [hg];exact Nat.ne_of_gt (blk_lt (bb_ BK1.out)) : gb2 ≠ gb1));clear BK1 HB;have BK1:=n0_;have HB:=n1_;have BK2:=n2_;have GW2:=n3_;have GE2:=n4_;have NB1_2:=n5_;have NB2_1:=n6_;clear n0_ n1_ n2_ n3_ n4_ n5_ n6_;clear hb hbox hg)))
 go_loopg [5] k (fun kq v5 w'=>∃ (x5_1 : Int),v5 = .int .i64 x5_1 ∧ Aside0 (spec_validHeap.l0 kq x5_1 l0_0 l1_0 = some r) ∧ Aside0 (kq ≤ k) ∧ Aside0 (w'.heap[gb1]? = some (.cells #[(.slice A0_0 l0_0.length c0_0)] 33 (0,0))) ∧ Aside0 (w'.heap[gb2]? = some (.cells #[(.slice A1_0 l1_0.length c1_0)] 37 (0,0))) ∧ Aside0 (Below w.heap.size w w'))
 case atStart=>exact ⟨(0),(by first | rfl | (simp;done) | (simp [*];done)),H',⟨Nat.le_refl _⟩,⟨by (with_reducible repeat (first | refine blk_drewN ?_ _ | refine blk_drew ?_ | refine blk_alloc ?_ _));exact BK1.out⟩,⟨by (with_reducible repeat (first | refine blk_drewN ?_ _ | refine blk_drew ?_ | refine blk_alloc ?_ _));exact BK2.out⟩,⟨hb_⟩⟩
 case round =>
  clear H'
  try clear c1
  try clear p2
  obtain ⟨x5_1,rfl,HA,HK1,BK1,BK2,HB⟩:=hrel
  cases gk with
  | zero=>exact absurd HA.out (by simp [spec_validHeap.l0])
  | succ k1 =>
   have H:=HA.out
   clear HA
   simp only [spec_validHeap.l0] at H
   by_cases c5 : x5_1 < (l1_0.length : Int)
   ·rw [if_pos c5] at H
    have c5b0 : decide (x5_1 < (l1_0.length : Int)) = true:=decide_eq_true c5
    clear c5
    by_cases c6 : 0 ≤ x5_1
    ·rw [if_pos c6] at H
     have c6b0 : decide (0 ≤ x5_1) = true:=decide_eq_true c6
     clear c6
     replace H:=Option.bind_eq_some_iff.mp H
     obtain ⟨t5,A70,H⟩:=H
     replace H : (if t5 = true then ((spec_inRange.f ((rd_T79 l1_0 x5_1).f1) 0 99).bind fun t6=>(if t6 = true then ((spec_validLinks.f l1_0 x5_1).bind fun t7=>(if t7 = true then (spec_validHeap.l0 k1 (wrap64 (x5_1 + 1)) l0_0 l1_0) else (some false))) else (some false))) else (some false)) = some r:=H
     have A7:=a0_ A70
     clear A70
     by_cases c8 : t5 = true
     ·subst c8
      have H1 : ((spec_inRange.f ((rd_T79 l1_0 x5_1).f1) 0 99).bind fun t6=>(if t6 = true then ((spec_validLinks.f l1_0 x5_1).bind fun t7=>(if t7 = true then (spec_validHeap.l0 k1 (wrap64 (x5_1 + 1)) l0_0 l1_0) else (some false))) else (some false))) = some r:=by rw [if_pos rfl] at H;exact H
      clear H
      have H:=H1
      clear H1
      replace H:=Option.bind_eq_some_iff.mp H
      obtain ⟨t6,A90,H⟩:=H
      replace H : (if t6 = true then ((spec_validLinks.f l1_0 x5_1).bind fun t7=>(if t7 = true then (spec_validHeap.l0 k1 (wrap64 (x5_1 + 1)) l0_0 l1_0) else (some false))) else (some false)) = some r:=H
      have A9:=a0_ A90
      clear A90
      by_cases c10 : t6 = true
      ·subst c10
       have H1 : ((spec_validLinks.f l1_0 x5_1).bind fun t7=>(if t7 = true then (spec_validHeap.l0 k1 (wrap64 (x5_1 + 1)) l0_0 l1_0) else (some false))) = some r:=by rw [if_pos rfl] at H;exact H
       clear H
       have H:=H1
       clear H1
       replace H:=Option.bind_eq_some_iff.mp H
       obtain ⟨t7,A110,H⟩:=H
       replace H : (if t7 = true then (spec_validHeap.l0 k1 (wrap64 (x5_1 + 1)) l0_0 l1_0) else (some false)) = some r:=H
       have A11:=a0_ A110
       clear A110
       by_cases c12 : t7 = true
       ·subst c12
        have H1 : (spec_validHeap.l0 k1 (wrap64 (x5_1 + 1)) l0_0 l1_0) = some r:=by rw [if_pos rfl] at H;exact H
        clear H
        have H:=H1
        clear H1
        have H':=a0_ H
        clear H
        have hnb13:=NB2_1.out
        have hnc13:=NB1_2.out
        have hcz14_0 : wr.cell? ⟨gb2,0,none⟩ = some (.slice A1_0 l1_0.length c1_0):=(blk_cell BK2.out 0).trans rfl
        have hfz14_0:=blk_frozen BK2.out 0
        have p3 : 0 ≤ (x5_1 : Int):=of_decide_eq_true (by first | (with_reducible assumption) | assumption)
        have q3 : x5_1 < (l1_0.length : Int):=of_decide_eq_true (by first | (with_reducible assumption) | assumption)
        obtain ⟨ad3,e3,hx3_0,hx3_1,hx3_2,hx3_3,hx3_4⟩:=at_T79 HR1_0.out x5_1 p3 q3
        cases e3
        replace hx3_0:=(HB.out.cell (World.block_lt_of_cell? w _ hx3_0)).trans hx3_0
        replace hx3_1:=(HB.out.cell (World.block_lt_of_cell? w _ hx3_1)).trans hx3_1
        replace hx3_2:=(HB.out.cell (World.block_lt_of_cell? w _ hx3_2)).trans hx3_2
        replace hx3_3:=(HB.out.cell (World.block_lt_of_cell? w _ hx3_3)).trans hx3_3
        replace hx3_4:=(HB.out.cell (World.block_lt_of_cell? w _ hx3_4)).trans hx3_4
        replace p3:=eq_true p3
        replace q3:=eq_true q3
        go_wp2_with (first | ((with_reducible refine gate_dst (N:=6) rfl ?_);(try (refine gate_guard (by rfl) ?_;dsimp only));refine box_event ?hg (N:=6) ?hd (cs:=#[.int .i64 0,.int .i64 0,.int .i64 0,.int .i64 0,.bool false]) (t:=79) ?hr ?_;(case hd=>rfl);(case hg=>rfl);(case hr=>first | (go_simp;done) | (go_simp;rfl));intro gb4 hg w15 hbox hb;have n0_:=kb_ BK1 hb;have n1_:=kb_ BK2 hb;have n2_:=a0_ (below_step hb_ hb);have n3_:=a0_ (hbox);have n4_:=a0_ ((by rw [hg];exact (below_size hb_) : w.heap.size ≤ gb4));have n5_:=a0_ ((by rw [hg];exact (below_size hb_) : w.heap.size ≤ gb4));have n6_:=a0_ ((by rw [hg];exact Nat.ne_of_lt (blk_lt (bb_ BK1.out)) : gb1 ≠ gb4));have n7_:=a0_ ((by rw [hg];exact Nat.ne_of_gt (blk_lt (bb_ BK1.out)) : gb4 ≠ gb1));have n8_:=a0_ ((by rw [hg];exact Nat.ne_of_lt (blk_lt (bb_ BK2.out)) : gb2 ≠ gb4));have n9_:=a0_ ((by rw [hg];exact Nat.ne_of_gt (blk_lt (bb_ BK2.out)) : gb4 ≠ gb2));clear BK1 BK2 HB;have BK1:=n0_;have BK2:=n1_;have HB:=n2_;have BK4:=n3_;have GW4:=n4_;have GE4:=n5_;have NB1_4:=n6_;have NB4_1:=n7_;have NB2_4:=n8_;have NB4_2:=n9_;clear n0_ n1_ n2_ n3_ n4_ n5_ n6_ n7_ n8_ n9_;clear hb hbox hg;have hnb16:=NB4_1.out;have hnc16:=NB1_4.out;have hnb17:=NB4_2.out;have hnc17:=NB2_4.out;have hcz18_0 : w15.cell? ⟨gb4,0,none⟩ = some (.int .i64 0):=(blk_cell BK4.out 0).trans rfl;have hcz18_1 : w15.cell? ⟨gb4,1,none⟩ = some (.int .i64 0):=(blk_cell BK4.out 1).trans rfl;have hcz18_2 : w15.cell? ⟨gb4,2,none⟩ = some (.int .i64 0):=(blk_cell BK4.out 2).trans rfl;have hcz18_3 : w15.cell? ⟨gb4,3,none⟩ = some (.int .i64 0):=(blk_cell BK4.out 3).trans rfl;have hcz18_4 : w15.cell? ⟨gb4,4,none⟩ = some (.bool false):=(blk_cell BK4.out 4).trans rfl;have hfz18_0:=blk_frozen BK4.out 0;have hfz18_1:=blk_frozen BK4.out 1;have hfz18_2:=blk_frozen BK4.out 2;have hfz18_3:=blk_frozen BK4.out 3;have hfz18_4:=blk_frozen BK4.out 4;have hcz19_0 : w15.cell? ⟨gb1,0,none⟩ = some (.slice A0_0 l0_0.length c0_0):=(blk_cell BK1.out 0).trans rfl;have hfz19_0:=blk_frozen BK1.out 0) | (go_at_call 88;(with_reducible refine (spec_hasClass.calls _ _ l0_0 ((rd_T79 l1_0 x5_1).f0) true _ ?side1 ?side2 A7.out).mono ?_);(case side1=>exact Kd.C_below HR0_0.out hb_);(case side2=>exact HC0_0.out);rintro e w20 ⟨rfl,hb⟩;replace BK1:=a0_ (blk_below (g:=gb1) (o:=.cells #[.slice A0_0 l0_0.length c0_0] 33 (0,0)) (by (with_reducible repeat (first | refine blk_drewN ?_ _ | refine blk_drew ?_ | refine blk_alloc ?_ _));refine blk_far ?_ NB1_4.out _;(with_reducible repeat (first | refine blk_drewN ?_ _ | refine blk_drew ?_ | refine blk_alloc ?_ _));refine blk_far ?_ NB1_4.out _;(with_reducible repeat (first | refine blk_drewN ?_ _ | refine blk_drew ?_ | refine blk_alloc ?_ _));refine blk_far ?_ NB1_4.out _;(with_reducible repeat (first | refine blk_drewN ?_ _ | refine blk_drew ?_ | refine blk_alloc ?_ _));refine blk_far ?_ NB1_4.out _;(with_reducible repeat (first | refine blk_drewN ?_ _ | refine blk_drew ?_ | refine blk_alloc ?_ _));refine blk_far ?_ NB1_4.out _;(with_reducible repeat (first | refine blk_drewN ?_ _ | refine blk_drew ?_ | refine blk_alloc ?_ _));exact BK1.out) hb);replace BK2:=a0_ (blk_below (g:=gb2) (o:=.cells #[.slice (some ad3) l1_0.length c1_0] 37 (0,0)) (by (with_reducible repeat (first | refine blk_drewN ?_ _ | refine blk_drew ?_ | refine blk_alloc ?_ _));refine blk_far ?_ NB2_4.out _;(with_reducible repeat (first | refine blk_drewN ?_ _ | refine blk_drew ?_ | refine blk_alloc ?_ _));refine blk_far ?_ NB2_4.out _;(with_reducible repeat (first | refine blk_drewN ?_ _ | refine blk_drew ?_ | refine blk_alloc ?_ _));refine blk_far ?_ NB2_4.out _;(with_reducible repeat (first | refine blk_drewN ?_ _ | refine blk_drew ?_ | refine blk_alloc ?_ _));refine blk_far ?_ NB2_4.out _;(with_reducible repeat (first | refine blk_drewN ?_ _ | refine blk_drew ?_ | refine blk_alloc ?_ _));refine blk_far ?_ NB2_4.out _;(with_reducible repeat (first | refine blk_drewN ?_ _ | refine blk_drew ?_ | refine blk_alloc ?_ _));exact BK2.out) hb);replace BK4:=a0_ (blk_below (g:=gb4) (o:=.cells #[.int .i64 ((rd_T79 l1_0 x5_1).f0),.int .i64 ((rd_T79 l1_0 x5_1).f1),.int .i64 ((rd_T79 l1_0 x5_1).f2),.int .i64 ((rd_T79 l1_0 x5_1).f3),.bool ((rd_T79 l1_0 x5_1).f4)] 79 (0,0)) (by (with_reducible repeat (first | refine blk_drewN ?_ _ | refine blk_drew ?_ | refine blk_alloc ?_ _));refine blk_put (cs:=#[.int .i64 ((rd_T79 l1_0 x5_1).f0),.int .i64 ((rd_T79 l1_0 x5_1).f1),.int .i64 ((rd_T79 l1_0 x5_1).f2),.int .i64 ((rd_T79 l1_0 x5_1).f3),.bool false]) ?_ 4 _ rfl;(with_reducible repeat (first | refine blk_drewN ?_ _ | refine blk_drew ?_ | refine blk_alloc ?_ _));refine blk_put (cs:=#[.int .i64 ((rd_T79 l1_0 x5_1).f0),.int .i64 ((rd_T79 l1_0 x5_1).f1),.int .i64 ((rd_T79 l1_0 x5_1).f2),.int .i64 0,.bool false]) ?_ 3 _ rfl;(with_reducible repeat (first | refine blk_drewN ?_ _ | refine blk_drew ?_ | refine blk_alloc ?_ _));refine blk_put (cs:=#[.int .i64 ((rd_T79 l1_0 x5_1).f0),.int .i64 ((rd_T79 l1_0 x5_1).f1),.int .i64 0,.int .i64 0,.bool false]) ?_ 2 _ rfl;(with_reducible repeat (first | refine blk_drewN ?_ _ | refine blk_drew ?_ | refine blk_alloc ?_ _));refine blk_put (cs:=#[.int .i64 ((rd_T79 l1_0 x5_1).f0),.int .i64 0,.int .i64 0,.int .i64 0,.bool false]) ?_ 1 _ rfl;(with_reducible repeat (first | refine blk_drewN ?_ _ | refine blk_drew ?_ | refine blk_alloc ?_ _));refine blk_put (cs:=#[.int .i64 0,.int .i64 0,.int .i64 0,.int .i64 0,.bool false]) ?_ 0 _ rfl;(with_reducible repeat (first | refine blk_drewN ?_ _ | refine blk_drew ?_ | refine blk_alloc ?_ _));exact BK4.out) hb);replace HB:=a0_ (below_step hb_ hb);(try clear hb);have hcz21_0 : w20.cell? ⟨gb4,0,none⟩ = some (.int .i64 ((rd_T79 l1_0 x5_1).f0)):=(blk_cell BK4.out 0).trans rfl;have hcz21_1 : w20.cell? ⟨gb4,1,none⟩ = some (.int .i64 ((rd_T79 l1_0 x5_1).f1)):=(blk_cell BK4.out 1).trans rfl;have hcz21_2 : w20.cell? ⟨gb4,2,none⟩ = some (.int .i64 ((rd_T79 l1_0 x5_1).f2)):=(blk_cell BK4.out 2).trans rfl;have hcz21_3 : w20.cell? ⟨gb4,3,none⟩ = some (.int .i64 ((rd_T79 l1_0 x5_1).f3)):=(blk_cell BK4.out 3).trans rfl;have hcz21_4 : w20.cell? ⟨gb4,4,none⟩ = some (.bool ((rd_T79 l1_0 x5_1).f4)):=(blk_cell BK4.out 4).trans rfl;have hfz21_0:=blk_frozen BK4.out 0;have hfz21_1:=blk_frozen BK4.out 1;have hfz21_2:=blk_frozen BK4.out 2;have hfz21_3:=blk_frozen BK4.out 3;have hfz21_4:=blk_frozen BK4.out 4) | (go_at_call 89;(with_reducible refine (spec_inRange.calls ((rd_T79 l1_0 x5_1).f1) 0 99 true _ A9.out).mono ?_);rintro e w' ⟨rfl,⟨nd,rfl⟩⟩;(try first | exact ⟨rfl,_,World.drewN_drewN _ _ _⟩ | exact ⟨rfl,_,Eq.trans (World.drewN_drewN _ _ _) (congrArg (World.drewN _) (Nat.add_assoc _ _ _))⟩);have hcz22_0 : w20.cell? ⟨gb2,0,none⟩ = some (.slice (some ad3) l1_0.length c1_0):=(blk_cell BK2.out 0).trans rfl;have hfz22_0:=blk_frozen BK2.out 0) | (go_at_call 90;(with_reducible refine (spec_validLinks.calls _ _ l1_0 x5_1 true _ ?side1 ?side2 A11.out).mono ?_);(case side1=>repeat (first | exact (Kd.C_below HR1_0.out hb_) | (with_reducible refine Kd.C_alloc ?_ _) | (with_reducible refine Kd.C_drewN ?_ _) | (with_reducible refine Kd.C_drew ?_)));(case side2=>exact HC1_0.out);rintro e w23 ⟨rfl,hb⟩;replace BK1:=kb_ BK1 hb;replace BK2:=kb_ BK2 hb;replace BK4:=kb_ BK4 hb;replace HB:=a0_ (below_step hb_ hb);(try clear hb);(try clear hb2);(try clear hk);(try clear hi)))
        repeat (go_quiet (first | ((with_reducible refine gate_dst (N:=6) rfl ?_);(try (refine gate_guard (by rfl) ?_;dsimp only));refine box_event ?hg (N:=6) ?hd (cs:=#[.int .i64 0,.int .i64 0,.int .i64 0,.int .i64 0,.bool false]) (t:=79) ?hr ?_;(case hd=>rfl);(case hg=>rfl);(case hr=>first | (go_simp;done) | (go_simp;rfl));intro gb4 hg w15 hbox hb;have n0_:=kb_ BK1 hb;have n1_:=kb_ BK2 hb;have n2_:=a0_ (below_step hb_ hb);have n3_:=a0_ (hbox);have n4_:=a0_ ((by rw [hg];exact (below_size hb_) : w.heap.size ≤ gb4));have n5_:=a0_ ((by rw [hg];exact (below_size hb_) : w.heap.size ≤ gb4));have n6_:=a0_ ((by rw [hg];exact Nat.ne_of_lt (blk_lt (bb_ BK1.out)) : gb1 ≠ gb4));have n7_:=a0_ ((by rw [hg];exact Nat.ne_of_gt (blk_lt (bb_ BK1.out)) : gb4 ≠ gb1));have n8_:=a0_ ((by rw [hg];exact Nat.ne_of_lt (blk_lt (bb_ BK2.out)) : gb2 ≠ gb4));have n9_:=a0_ ((by rw [hg];exact Nat.ne_of_gt (blk_lt (bb_ BK2.out)) : gb4 ≠ gb2));clear BK1 BK2 HB;have BK1:=n0_;have BK2:=n1_;have HB:=n2_;have BK4:=n3_;have GW4:=n4_;have GE4:=n5_;have NB1_4:=n6_;have NB4_1:=n7_;have NB2_4:=n8_;have NB4_2:=n9_;clear n0_ n1_ n2_ n3_ n4_ n5_ n6_ n7_ n8_ n9_;clear hb hbox hg;have hnb16:=NB4_1.out;have hnc16:=NB1_4.out;have hnb17:=NB4_2.out;have hnc17:=NB2_4.out;have hcz18_0 : w15.cell? ⟨gb4,0,none⟩ = some (.int .i64 0):=(blk_cell BK4.out 0).trans rfl;have hcz18_1 : w15.cell? ⟨gb4,1,none⟩ = some (.int .i64 0):=(blk_cell BK4.out 1).trans rfl;have hcz18_2 : w15.cell? ⟨gb4,2,none⟩ = some (.int .i64 0):=(blk_cell BK4.out 2).trans rfl;have hcz18_3 : w15.cell? ⟨gb4,3,none⟩ = some (.int .i64 0):=(blk_cell BK4.out 3).trans rfl;have hcz18_4 : w15.cell? ⟨gb4,4,none⟩ = some (.bool false):=(blk_cell BK4.out 4).trans rfl;have hfz18_0:=blk_frozen BK4.out 0;have hfz18_1:=blk_frozen BK4.out 1;have hfz18_2:=blk_frozen BK4.out 2;have hfz18_3:=blk_frozen BK4.out 3;have hfz18_4:=blk_frozen BK4.out 4;have hcz19_0 : w15.cell? ⟨gb1,0,none⟩ = some (.slice A0_0 l0_0.length c0_0):=(blk_cell BK1.out 0).trans rfl;have hfz19_0:=blk_frozen BK1.out 0) | (go_at_call 88;(with_reducible refine (spec_hasClass.calls _ _ l0_0 ((rd_T79 l1_0 x5_1).f0) true _ ?side1 ?side2 A7.out).mono ?_);(case side1=>exact Kd.C_below HR0_0.out hb_);(case side2=>exact HC0_0.out);rintro e w20 ⟨rfl,hb⟩;replace BK1:=a0_ (blk_below (g:=gb1) (o:=.cells #[.slice A0_0 l0_0.length c0_0] 33 (0,0)) (by (with_reducible repeat (first | refine blk_drewN ?_ _ | refine blk_drew ?_ | refine blk_alloc ?_ _));refine blk_far ?_ NB1_4.out _;(with_reducible repeat (first | refine blk_drewN ?_ _ | refine blk_drew ?_ | refine blk_alloc ?_ _));refine blk_far ?_ NB1_4.out _;(with_reducible repeat (first | refine blk_drewN ?_ _ | refine blk_drew ?_ | refine blk_alloc ?_ _));refine blk_far ?_ NB1_4.out _;(with_reducible repeat (first | refine blk_drewN ?_ _ | refine blk_drew ?_ | refine blk_alloc ?_ _));refine blk_far ?_ NB1_4.out _;(with_reducible repeat (first | refine blk_drewN ?_ _ | refine blk_drew ?_ | refine blk_alloc ?_ _));refine blk_far ?_ NB1_4.out _;(with_reducible repeat (first | refine blk_drewN ?_ _ | refine blk_drew ?_ | refine blk_alloc ?_ _));exact BK1.out) hb);replace BK2:=a0_ (blk_below (g:=gb2) (o:=.cells #[.slice (some ad3) l1_0.length c1_0] 37 (0,0)) (by (with_reducible repeat (first | refine blk_drewN ?_ _ | refine blk_drew ?_ | refine blk_alloc ?_ _));refine blk_far ?_ NB2_4.out _;(with_reducible repeat (first | refine blk_drewN ?_ _ | refine blk_drew ?_ | refine blk_alloc ?_ _));refine blk_far ?_ NB2_4.out _;(with_reducible repeat (first | refine blk_drewN ?_ _ | refine blk_drew ?_ | refine blk_alloc ?_ _));refine blk_far ?_ NB2_4.out _;(with_reducible repeat (first | refine blk_drewN ?_ _ | refine blk_drew ?_ | refine blk_alloc ?_ _));refine blk_far ?_ NB2_4.out _;(with_reducible repeat (first | refine blk_drewN ?_ _ | refine blk_drew ?_ | refine blk_alloc ?_ _));refine blk_far ?_ NB2_4.out _;(with_reducible repeat (first | refine blk_drewN ?_ _ | refine blk_drew ?_ | refine blk_alloc ?_ _));exact BK2.out) hb);replace BK4:=a0_ (blk_below (g:=gb4) (o:=.cells #[.int .i64 ((rd_T79 l1_0 x5_1).f0),.int .i64 ((rd_T79 l1_0 x5_1).f1),.int .i64 ((rd_T79 l1_0 x5_1).f2),.int .i64 ((rd_T79 l1_0 x5_1).f3),.bool ((rd_T79 l1_0 x5_1).f4)] 79 (0,0)) (by (with_reducible repeat (first | refine blk_drewN ?_ _ | refine blk_drew ?_ | refine blk_alloc ?_ _));refine blk_put (cs:=#[.int .i64 ((rd_T79 l1_0 x5_1).f0),.int .i64 ((rd_T79 l1_0 x5_1).f1),.int .i64 ((rd_T79 l1_0 x5_1).f2),.int .i64 ((rd_T79 l1_0 x5_1).f3),.bool false]) ?_ 4 _ rfl;(with_reducible repeat (first | refine blk_drewN ?_ _ | refine blk_drew ?_ | refine blk_alloc ?_ _));refine blk_put (cs:=#[.int .i64 ((rd_T79 l1_0 x5_1).f0),.int .i64 ((rd_T79 l1_0 x5_1).f1),.int .i64 ((rd_T79 l1_0 x5_1).f2),.int .i64 0,.bool false]) ?_ 3 _ rfl;(with_reducible repeat (first | refine blk_drewN ?_ _ | refine blk_drew ?_ | refine blk_alloc ?_ _));refine blk_put (cs:=#[.int .i64 ((rd_T79 l1_0 x5_1).f0),.int .i64 ((rd_T79 l1_0 x5_1).f1),.int .i64 0,.int .i64 0,.bool false]) ?_ 2 _ rfl;(with_reducible repeat (first | refine blk_drewN ?_ _ | refine blk_drew ?_ | refine blk_alloc ?_ _));refine blk_put (cs:=#[.int .i64 ((rd_T79 l1_0 x5_1).f0),.int .i64 0,.int .i64 0,.int .i64 0,.bool false]) ?_ 1 _ rfl;(with_reducible repeat (first | refine blk_drewN ?_ _ | refine blk_drew ?_ | refine blk_alloc ?_ _));refine blk_put (cs:=#[.int .i64 0,.int .i64 0,.int .i64 0,.int .i64 0,.bool false]) ?_ 0 _ rfl;(with_reducible repeat (first | refine blk_drewN ?_ _ | refine blk_drew ?_ | refine blk_alloc ?_ _));exact BK4.out) hb);replace HB:=a0_ (below_step hb_ hb);(try clear hb);have hcz21_0 : w20.cell? ⟨gb4,0,none⟩ = some (.int .i64 ((rd_T79 l1_0 x5_1).f0)):=(blk_cell BK4.out 0).trans rfl;have hcz21_1 : w20.cell? ⟨gb4,1,none⟩ = some (.int .i64 ((rd_T79 l1_0 x5_1).f1)):=(blk_cell BK4.out 1).trans rfl;have hcz21_2 : w20.cell? ⟨gb4,2,none⟩ = some (.int .i64 ((rd_T79 l1_0 x5_1).f2)):=(blk_cell BK4.out 2).trans rfl;have hcz21_3 : w20.cell? ⟨gb4,3,none⟩ = some (.int .i64 ((rd_T79 l1_0 x5_1).f3)):=(blk_cell BK4.out 3).trans rfl;have hcz21_4 : w20.cell? ⟨gb4,4,none⟩ = some (.bool ((rd_T79 l1_0 x5_1).f4)):=(blk_cell BK4.out 4).trans rfl;have hfz21_0:=blk_frozen BK4.out 0;have hfz21_1:=blk_frozen BK4.out 1;have hfz21_2:=blk_frozen BK4.out 2;have hfz21_3:=blk_frozen BK4.out 3;have hfz21_4:=blk_frozen BK4.out 4) | (go_at_call 89;(with_reducible refine (spec_inRange.calls ((rd_T79 l1_0 x5_1).f1) 0 99 true _ A9.out).mono ?_);rintro e w' ⟨rfl,⟨nd,rfl⟩⟩;(try first | exact ⟨rfl,_,World.drewN_drewN _ _ _⟩ | exact ⟨rfl,_,Eq.trans (World.drewN_drewN _ _ _) (congrArg (World.drewN _) (Nat.add_assoc _ _ _))⟩);have hcz22_0 : w20.cell? ⟨gb2,0,none⟩ = some (.slice (some ad3) l1_0.length c1_0):=(blk_cell BK2.out 0).trans rfl;have hfz22_0:=blk_frozen BK2.out 0) | (go_at_call 90;(with_reducible refine (spec_validLinks.calls _ _ l1_0 x5_1 true _ ?side1 ?side2 A11.out).mono ?_);(case side1=>repeat (first | exact (Kd.C_below HR1_0.out hb_) | (with_reducible refine Kd.C_alloc ?_ _) | (with_reducible refine Kd.C_drewN ?_ _) | (with_reducible refine Kd.C_drew ?_)));(case side2=>exact HC1_0.out);rintro e w23 ⟨rfl,hb⟩;replace BK1:=kb_ BK1 hb;replace BK2:=kb_ BK2 hb;replace BK4:=kb_ BK4 hb;replace HB:=a0_ (below_step hb_ hb);(try clear hb);(try clear hb2);(try clear hk);(try clear hi)));try go_wp2_with (first | ((with_reducible refine gate_dst (N:=6) rfl ?_);(try (refine gate_guard (by rfl) ?_;dsimp only));refine box_event ?hg (N:=6) ?hd (cs:=#[.int .i64 0,.int .i64 0,.int .i64 0,.int .i64 0,.bool false]) (t:=79) ?hr ?_;(case hd=>rfl);(case hg=>rfl);(case hr=>first | (go_simp;done) | (go_simp;rfl));intro gb4 hg w15 hbox hb;have n0_:=kb_ BK1 hb;have n1_:=kb_ BK2 hb;have n2_:=a0_ (below_step hb_ hb);have n3_:=a0_ (hbox);have n4_:=a0_ ((by rw [hg];exact (below_size hb_) : w.heap.size ≤ gb4));have n5_:=a0_ ((by rw [hg];exact (below_size hb_) : w.heap.size ≤ gb4));have n6_:=a0_ ((by rw [hg];exact Nat.ne_of_lt (blk_lt (bb_ BK1.out)) : gb1 ≠ gb4));have n7_:=a0_ ((by rw [hg];exact Nat.ne_of_gt (blk_lt (bb_ BK1.out)) : gb4 ≠ gb1));have n8_:=a0_ ((by rw [hg];exact Nat.ne_of_lt (blk_lt (bb_ BK2.out)) : gb2 ≠ gb4));have n9_:=a0_ ((by rw [hg];exact Nat.ne_of_gt (blk_lt (bb_ BK2.out)) : gb4 ≠ gb2));clear BK1 BK2 HB;have BK1:=n0_;have BK2:=n1_;have HB:=n2_;have BK4:=n3_;have GW4:=n4_;have GE4:=n5_;have NB1_4:=n6_;have NB4_1:=n7_;have NB2_4:=n8_;have NB4_2:=n9_;clear n0_ n1_ n2_ n3_ n4_ n5_ n6_ n7_ n8_ n9_;clear hb hbox hg;have hnb16:=NB4_1.out;have hnc16:=NB1_4.out;have hnb17:=NB4_2.out;have hnc17:=NB2_4.out;have hcz18_0 : w15.cell? ⟨gb4,0,none⟩ = some (.int .i64 0):=(blk_cell BK4.out 0).trans rfl;have hcz18_1 : w15.cell? ⟨gb4,1,none⟩ = some (.int .i64 0):=(blk_cell BK4.out 1).trans rfl;have hcz18_2 : w15.cell? ⟨gb4,2,none⟩ = some (.int .i64 0):=(blk_cell BK4.out 2).trans rfl;have hcz18_3 : w15.cell? ⟨gb4,3,none⟩ = some (.int .i64 0):=(blk_cell BK4.out 3).trans rfl;have hcz18_4 : w15.cell? ⟨gb4,4,none⟩ = some (.bool false):=(blk_cell BK4.out 4).trans rfl;have hfz18_0:=blk_frozen BK4.out 0;have hfz18_1:=blk_frozen BK4.out 1;have hfz18_2:=blk_frozen BK4.out 2;have hfz18_3:=blk_frozen BK4.out 3;have hfz18_4:=blk_frozen BK4.out 4;have hcz19_0 : w15.cell? ⟨gb1,0,none⟩ = some (.slice A0_0 l0_0.length c0_0):=(blk_cell BK1.out 0).trans rfl;have hfz19_0:=blk_frozen BK1.out 0) | (go_at_call 88;(with_reducible refine (spec_hasClass.calls _ _ l0_0 ((rd_T79 l1_0 x5_1).f0) true _ ?side1 ?side2 A7.out).mono ?_);(case side1=>exact Kd.C_below HR0_0.out hb_);(case side2=>exact HC0_0.out);rintro e w20 ⟨rfl,hb⟩;replace BK1:=a0_ (blk_below (g:=gb1) (o:=.cells #[.slice A0_0 l0_0.length c0_0] 33 (0,0)) (by (with_reducible repeat (first | refine blk_drewN ?_ _ | refine blk_drew ?_ | refine blk_alloc ?_ _));refine blk_far ?_ NB1_4.out _;(with_reducible repeat (first | refine blk_drewN ?_ _ | refine blk_drew ?_ | refine blk_alloc ?_ _));refine blk_far ?_ NB1_4.out _;(with_reducible repeat (first | refine blk_drewN ?_ _ | refine blk_drew ?_ | refine blk_alloc ?_ _));refine blk_far ?_ NB1_4.out _;(with_reducible repeat (first | refine blk_drewN ?_ _ | refine blk_drew ?_ | refine blk_alloc ?_ _));refine blk_far ?_ NB1_4.out _;(with_reducible repeat (first | refine blk_drewN ?_ _ | refine blk_drew ?_ | refine blk_alloc ?_ _));refine blk_far ?_ NB1_4.out _;(with_reducible repeat (first | refine blk_drewN ?_ _ | refine blk_drew ?_ | refine blk_alloc ?_ _));exact BK1.out) hb);replace BK2:=a0_ (blk_below (g:=gb2) (o:=.cells #[.slice (some ad3) l1_0.length c1_0] 37 (0,0)) (by (with_reducible repeat (first | refine blk_drewN ?_ _ | refine blk_drew ?_ | refine blk_alloc ?_ _));refine blk_far ?_ NB2_4.out _;(with_reducible repeat (first | refine blk_drewN ?_ _ | refine blk_drew ?_ | refine blk_alloc ?_ _));refine blk_far ?_ NB2_4.out _;(with_reducible repeat (first | refine blk_drewN ?_ _ | refine blk_drew ?_ | refine blk_alloc ?_ _));refine blk_far ?_ NB2_4.out _;(with_reducible repeat (first | refine blk_drewN ?_ _ | refine blk_drew ?_ | refine blk_alloc ?_ _));refine blk_far ?_ NB2_4.out _;(with_reducible repeat (first | refine blk_drewN ?_ _ | refine blk_drew ?_ | refine blk_alloc ?_ _));refine blk_far ?_ NB2_4.out _;(with_reducible repeat (first | refine blk_drewN ?_ _ | refine blk_drew ?_ | refine blk_alloc ?_ _));exact BK2.out) hb);replace BK4:=a0_ (blk_below (g:=gb4) (o:=.cells #[.int .i64 ((rd_T79 l1_0 x5_1).f0),.int .i64 ((rd_T79 l1_0 x5_1).f1),.int .i64 ((rd_T79 l1_0 x5_1).f2),.int .i64 ((rd_T79 l1_0 x5_1).f3),.bool ((rd_T79 l1_0 x5_1).f4)] 79 (0,0)) (by (with_reducible repeat (first | refine blk_drewN ?_ _ | refine blk_drew ?_ | refine blk_alloc ?_ _));refine blk_put (cs:=#[.int .i64 ((rd_T79 l1_0 x5_1).f0),.int .i64 ((rd_T79 l1_0 x5_1).f1),.int .i64 ((rd_T79 l1_0 x5_1).f2),.int .i64 ((rd_T79 l1_0 x5_1).f3),.bool false]) ?_ 4 _ rfl;(with_reducible repeat (first | refine blk_drewN ?_ _ | refine blk_drew ?_ | refine blk_alloc ?_ _));refine blk_put (cs:=#[.int .i64 ((rd_T79 l1_0 x5_1).f0),.int .i64 ((rd_T79 l1_0 x5_1).f1),.int .i64 ((rd_T79 l1_0 x5_1).f2),.int .i64 0,.bool false]) ?_ 3 _ rfl;(with_reducible repeat (first | refine blk_drewN ?_ _ | refine blk_drew ?_ | refine blk_alloc ?_ _));refine blk_put (cs:=#[.int .i64 ((rd_T79 l1_0 x5_1).f0),.int .i64 ((rd_T79 l1_0 x5_1).f1),.int .i64 0,.int .i64 0,.bool false]) ?_ 2 _ rfl;(with_reducible repeat (first | refine blk_drewN ?_ _ | refine blk_drew ?_ | refine blk_alloc ?_ _));refine blk_put (cs:=#[.int .i64 ((rd_T79 l1_0 x5_1).f0),.int .i64 0,.int .i64 0,.int .i64 0,.bool false]) ?_ 1 _ rfl;(with_reducible repeat (first | refine blk_drewN ?_ _ | refine blk_drew ?_ | refine blk_alloc ?_ _));refine blk_put (cs:=#[.int .i64 0,.int .i64 0,.int .i64 0,.int .i64 0,.bool false]) ?_ 0 _ rfl;(with_reducible repeat (first | refine blk_drewN ?_ _ | refine blk_drew ?_ | refine blk_alloc ?_ _));exact BK4.out) hb);replace HB:=a0_ (below_step hb_ hb);(try clear hb);have hcz21_0 : w20.cell? ⟨gb4,0,none⟩ = some (.int .i64 ((rd_T79 l1_0 x5_1).f0)):=(blk_cell BK4.out 0).trans rfl;have hcz21_1 : w20.cell? ⟨gb4,1,none⟩ = some (.int .i64 ((rd_T79 l1_0 x5_1).f1)):=(blk_cell BK4.out 1).trans rfl;have hcz21_2 : w20.cell? ⟨gb4,2,none⟩ = some (.int .i64 ((rd_T79 l1_0 x5_1).f2)):=(blk_cell BK4.out 2).trans rfl;have hcz21_3 : w20.cell? ⟨gb4,3,none⟩ = some (.int .i64 ((rd_T79 l1_0 x5_1).f3)):=(blk_cell BK4.out 3).trans rfl;have hcz21_4 : w20.cell? ⟨gb4,4,none⟩ = some (.bool ((rd_T79 l1_0 x5_1).f4)):=(blk_cell BK4.out 4).trans rfl;have hfz21_0:=blk_frozen BK4.out 0;have hfz21_1:=blk_frozen BK4.out 1;have hfz21_2:=blk_frozen BK4.out 2;have hfz21_3:=blk_frozen BK4.out 3;have hfz21_4:=blk_frozen BK4.out 4) | (go_at_call 89;(with_reducible refine (spec_inRange.calls ((rd_T79 l1_0 x5_1).f1) 0 99 true _ A9.out).mono ?_);rintro e w' ⟨rfl,⟨nd,rfl⟩⟩;(try first | exact ⟨rfl,_,World.drewN_drewN _ _ _⟩ | exact ⟨rfl,_,Eq.trans (World.drewN_drewN _ _ _) (congrArg (World.drewN _) (Nat.add_assoc _ _ _))⟩);have hcz22_0 : w20.cell? ⟨gb2,0,none⟩ = some (.slice (some ad3) l1_0.length c1_0):=(blk_cell BK2.out 0).trans rfl;have hfz22_0:=blk_frozen BK2.out 0) | (go_at_call 90;(with_reducible refine (spec_validLinks.calls _ _ l1_0 x5_1 true _ ?side1 ?side2 A11.out).mono ?_);(case side1=>repeat (first | exact (Kd.C_below HR1_0.out hb_) | (with_reducible refine Kd.C_alloc ?_ _) | (with_reducible refine Kd.C_drewN ?_ _) | (with_reducible refine Kd.C_drew ?_)));(case side2=>exact HC1_0.out);rintro e w23 ⟨rfl,hb⟩;replace BK1:=kb_ BK1 hb;replace BK2:=kb_ BK2 hb;replace BK4:=kb_ BK4 hb;replace HB:=a0_ (below_step hb_ hb);(try clear hb);(try clear hb2);(try clear hk);(try clear hi))))
        go_roundg k1
        case measure=>have:=HK1.out;omega
        case rel=>exact ⟨(wrap64 (x5_1 + 1)),(by first | rfl | (simp;done) | (simp [*];done)),H',⟨by have:=HK1.out;omega⟩,⟨by (with_reducible repeat (first | refine blk_drewN ?_ _ | refine blk_drew ?_ | refine blk_alloc ?_ _));exact BK1.out⟩,⟨by (with_reducible repeat (first | refine blk_drewN ?_ _ | refine blk_drew ?_ | refine blk_alloc ?_ _));exact BK2.out⟩,⟨hb_⟩⟩
       ·replace c12:=Bool.eq_false_iff.mpr c12
        subst c12
        have H1 : (some false) = some r:=by rw [if_neg (show ¬ (false = true) by decide)] at H;exact H
        clear H
        have H:=H1
        clear H1
        obtain rfl:=Option.some.inj H
        have hnb24:=NB2_1.out
        have hnc24:=NB1_2.out
        have hcz25_0 : wr.cell? ⟨gb2,0,none⟩ = some (.slice A1_0 l1_0.length c1_0):=(blk_cell BK2.out 0).trans rfl
        have hfz25_0:=blk_frozen BK2.out 0
        have p3 : 0 ≤ (x5_1 : Int):=of_decide_eq_true (by first | (with_reducible assumption) | assumption)
        have q3 : x5_1 < (l1_0.length : Int):=of_decide_eq_true (by first | (with_reducible assumption) | assumption)
        obtain ⟨ad3,e3,hx3_0,hx3_1,hx3_2,hx3_3,hx3_4⟩:=at_T79 HR1_0.out x5_1 p3 q3
        cases e3
        replace hx3_0:=(HB.out.cell (World.block_lt_of_cell? w _ hx3_0)).trans hx3_0
        replace hx3_1:=(HB.out.cell (World.block_lt_of_cell? w _ hx3_1)).trans hx3_1
        replace hx3_2:=(HB.out.cell (World.block_lt_of_cell? w _ hx3_2)).trans hx3_2
        replace hx3_3:=(HB.out.cell (World.block_lt_of_cell? w _ hx3_3)).trans hx3_3
        replace hx3_4:=(HB.out.cell (World.block_lt_of_cell? w _ hx3_4)).trans hx3_4
        replace p3:=eq_true p3
        replace q3:=eq_true q3
        go_wp2_with (first | ((with_reducible refine gate_dst (N:=6) rfl ?_);(try (refine gate_guard (by rfl) ?_;dsimp only));refine box_event ?hg (N:=6) ?hd (cs:=#[.int .i64 0,.int .i64 0,.int .i64 0,.int .i64 0,.bool false]) (t:=79) ?hr ?_;(case hd=>rfl);(case hg=>rfl);(case hr=>first | (go_simp;done) | (go_simp;rfl));intro gb4 hg w26 hbox hb;have n0_:=kb_ BK1 hb;have n1_:=kb_ BK2 hb;have n2_:=a0_ (below_step hb_ hb);have n3_:=a0_ (hbox);have n4_:=a0_ ((by rw [hg];exact (below_size hb_) : w.heap.size ≤ gb4));have n5_:=a0_ ((by rw [hg];exact (below_size hb_) : w.heap.size ≤ gb4));have n6_:=a0_ ((by rw [hg];exact Nat.ne_of_lt (blk_lt (bb_ BK1.out)) : gb1 ≠ gb4));have n7_:=a0_ ((by rw [hg];exact Nat.ne_of_gt (blk_lt (bb_ BK1.out)) : gb4 ≠ gb1));have n8_:=a0_ ((by rw [hg];exact Nat.ne_of_lt (blk_lt (bb_ BK2.out)) : gb2 ≠ gb4));have n9_:=a0_ ((by rw [hg];exact Nat.ne_of_gt (blk_lt (bb_ BK2.out)) : gb4 ≠ gb2));clear BK1 BK2 HB;have BK1:=n0_;have BK2:=n1_;have HB:=n2_;have BK4:=n3_;have GW4:=n4_;have GE4:=n5_;have NB1_4:=n6_;have NB4_1:=n7_;have NB2_4:=n8_;have NB4_2:=n9_;clear n0_ n1_ n2_ n3_ n4_ n5_ n6_ n7_ n8_ n9_;clear hb hbox hg;have hnb27:=NB4_1.out;have hnc27:=NB1_4.out;have hnb28:=NB4_2.out;have hnc28:=NB2_4.out;have hcz29_0 : w26.cell? ⟨gb4,0,none⟩ = some (.int .i64 0):=(blk_cell BK4.out 0).trans rfl;have hcz29_1 : w26.cell? ⟨gb4,1,none⟩ = some (.int .i64 0):=(blk_cell BK4.out 1).trans rfl;have hcz29_2 : w26.cell? ⟨gb4,2,none⟩ = some (.int .i64 0):=(blk_cell BK4.out 2).trans rfl;have hcz29_3 : w26.cell? ⟨gb4,3,none⟩ = some (.int .i64 0):=(blk_cell BK4.out 3).trans rfl;have hcz29_4 : w26.cell? ⟨gb4,4,none⟩ = some (.bool false):=(blk_cell BK4.out 4).trans rfl;have hfz29_0:=blk_frozen BK4.out 0;have hfz29_1:=blk_frozen BK4.out 1;have hfz29_2:=blk_frozen BK4.out 2;have hfz29_3:=blk_frozen BK4.out 3;have hfz29_4:=blk_frozen BK4.out 4;have hcz30_0 : w26.cell? ⟨gb1,0,none⟩ = some (.slice A0_0 l0_0.length c0_0):=(blk_cell BK1.out 0).trans rfl;have hfz30_0:=blk_frozen BK1.out 0) | (go_at_call 88;(with_reducible refine (spec_hasClass.calls _ _ l0_0 ((rd_T79 l1_0 x5_1).f0) true _ ?side1 ?side2 A7.out).mono ?_);(case side1=>exact Kd.C_below HR0_0.out hb_);(case side2=>exact HC0_0.out);rintro e w31 ⟨rfl,hb⟩;replace BK1:=a0_ (blk_below (g:=gb1) (o:=.cells #[.slice A0_0 l0_0.length c0_0] 33 (0,0)) (by (with_reducible repeat (first | refine blk_drewN ?_ _ | refine blk_drew ?_ | refine blk_alloc ?_ _));refine blk_far ?_ NB1_4.out _;(with_reducible repeat (first | refine blk_drewN ?_ _ | refine blk_drew ?_ | refine blk_alloc ?_ _));refine blk_far ?_ NB1_4.out _;(with_reducible repeat (first | refine blk_drewN ?_ _ | refine blk_drew ?_ | refine blk_alloc ?_ _));refine blk_far ?_ NB1_4.out _;(with_reducible repeat (first | refine blk_drewN ?_ _ | refine blk_drew ?_ | refine blk_alloc ?_ _));refine blk_far ?_ NB1_4.out _;(with_reducible repeat (first | refine blk_drewN ?_ _ | refine blk_drew ?_ | refine blk_alloc ?_ _));refine blk_far ?_ NB1_4.out _;(with_reducible repeat (first | refine blk_drewN ?_ _ | refine blk_drew ?_ | refine blk_alloc ?_ _));exact BK1.out) hb);replace BK2:=a0_ (blk_below (g:=gb2) (o:=.cells #[.slice (some ad3) l1_0.length c1_0] 37 (0,0)) (by (with_reducible repeat (first | refine blk_drewN ?_ _ | refine blk_drew ?_ | refine blk_alloc ?_ _));refine blk_far ?_ NB2_4.out _;(with_reducible repeat (first | refine blk_drewN ?_ _ | refine blk_drew ?_ | refine blk_alloc ?_ _));refine blk_far ?_ NB2_4.out _;(with_reducible repeat (first | refine blk_drewN ?_ _ | refine blk_drew ?_ | refine blk_alloc ?_ _));refine blk_far ?_ NB2_4.out _;(with_reducible repeat (first | refine blk_drewN ?_ _ | refine blk_drew ?_ | refine blk_alloc ?_ _));refine blk_far ?_ NB2_4.out _;(with_reducible repeat (first | refine blk_drewN ?_ _ | refine blk_drew ?_ | refine blk_alloc ?_ _));refine blk_far ?_ NB2_4.out _;(with_reducible repeat (first | refine blk_drewN ?_ _ | refine blk_drew ?_ | refine blk_alloc ?_ _));exact BK2.out) hb);replace BK4:=a0_ (blk_below (g:=gb4) (o:=.cells #[.int .i64 ((rd_T79 l1_0 x5_1).f0),.int .i64 ((rd_T79 l1_0 x5_1).f1),.int .i64 ((rd_T79 l1_0 x5_1).f2),.int .i64 ((rd_T79 l1_0 x5_1).f3),.bool ((rd_T79 l1_0 x5_1).f4)] 79 (0,0)) (by (with_reducible repeat (first | refine blk_drewN ?_ _ | refine blk_drew ?_ | refine blk_alloc ?_ _));refine blk_put (cs:=#[.int .i64 ((rd_T79 l1_0 x5_1).f0),.int .i64 ((rd_T79 l1_0 x5_1).f1),.int .i64 ((rd_T79 l1_0 x5_1).f2),.int .i64 ((rd_T79 l1_0 x5_1).f3),.bool false]) ?_ 4 _ rfl;(with_reducible repeat (first | refine blk_drewN ?_ _ | refine blk_drew ?_ | refine blk_alloc ?_ _));refine blk_put (cs:=#[.int .i64 ((rd_T79 l1_0 x5_1).f0),.int .i64 ((rd_T79 l1_0 x5_1).f1),.int .i64 ((rd_T79 l1_0 x5_1).f2),.int .i64 0,.bool false]) ?_ 3 _ rfl;(with_reducible repeat (first | refine blk_drewN ?_ _ | refine blk_drew ?_ | refine blk_alloc ?_ _));refine blk_put (cs:=#[.int .i64 ((rd_T79 l1_0 x5_1).f0),.int .i64 ((rd_T79 l1_0 x5_1).f1),.int .i64 0,.int .i64 0,.bool false]) ?_ 2 _ rfl;(with_reducible repeat (first | refine blk_drewN ?_ _ | refine blk_drew ?_ | refine blk_alloc ?_ _));refine blk_put (cs:=#[.int .i64 ((rd_T79 l1_0 x5_1).f0),.int .i64 0,.int .i64 0,.int .i64 0,.bool false]) ?_ 1 _ rfl;(with_reducible repeat (first | refine blk_drewN ?_ _ | refine blk_drew ?_ | refine blk_alloc ?_ _));refine blk_put (cs:=#[.int .i64 0,.int .i64 0,.int .i64 0,.int .i64 0,.bool false]) ?_ 0 _ rfl;(with_reducible repeat (first | refine blk_drewN ?_ _ | refine blk_drew ?_ | refine blk_alloc ?_ _));exact BK4.out) hb);replace HB:=a0_ (below_step hb_ hb);(try clear hb);have hcz32_0 : w31.cell? ⟨gb4,0,none⟩ = some (.int .i64 ((rd_T79 l1_0 x5_1).f0)):=(blk_cell BK4.out 0).trans rfl;have hcz32_1 : w31.cell? ⟨gb4,1,none⟩ = some (.int .i64 ((rd_T79 l1_0 x5_1).f1)):=(blk_cell BK4.out 1).trans rfl;have hcz32_2 : w31.cell? ⟨gb4,2,none⟩ = some (.int .i64 ((rd_T79 l1_0 x5_1).f2)):=(blk_cell BK4.out 2).trans rfl;have hcz32_3 : w31.cell? ⟨gb4,3,none⟩ = some (.int .i64 ((rd_T79 l1_0 x5_1).f3)):=(blk_cell BK4.out 3).trans rfl;have hcz32_4 : w31.cell? ⟨gb4,4,none⟩ = some (.bool ((rd_T79 l1_0 x5_1).f4)):=(blk_cell BK4.out 4).trans rfl;have hfz32_0:=blk_frozen BK4.out 0;have hfz32_1:=blk_frozen BK4.out 1;have hfz32_2:=blk_frozen BK4.out 2;have hfz32_3:=blk_frozen BK4.out 3;have hfz32_4:=blk_frozen BK4.out 4) | (go_at_call 89;(with_reducible refine (spec_inRange.calls ((rd_T79 l1_0 x5_1).f1) 0 99 true _ A9.out).mono ?_);rintro e w' ⟨rfl,⟨nd,rfl⟩⟩;(try first | exact ⟨rfl,_,World.drewN_drewN _ _ _⟩ | exact ⟨rfl,_,Eq.trans (World.drewN_drewN _ _ _) (congrArg (World.drewN _) (Nat.add_assoc _ _ _))⟩);have hcz33_0 : w31.cell? ⟨gb2,0,none⟩ = some (.slice (some ad3) l1_0.length c1_0):=(blk_cell BK2.out 0).trans rfl;have hfz33_0:=blk_frozen BK2.out 0) | (go_at_call 90;(with_reducible refine (spec_validLinks.calls _ _ l1_0 x5_1 false _ ?side1 ?side2 A11.out).mono ?_);(case side1=>repeat (first | exact (Kd.C_below HR1_0.out hb_) | (with_reducible refine Kd.C_alloc ?_ _) | (with_reducible refine Kd.C_drewN ?_ _) | (with_reducible refine Kd.C_drew ?_)));(case side2=>exact HC1_0.out);rintro e w34 ⟨rfl,hb⟩;replace BK1:=kb_ BK1 hb;replace BK2:=kb_ BK2 hb;replace BK4:=kb_ BK4 hb;replace HB:=a0_ (below_step hb_ hb);(try clear hb);(try clear hb2);(try clear hk);(try clear hi)))
        repeat (go_quiet (first | ((with_reducible refine gate_dst (N:=6) rfl ?_);(try (refine gate_guard (by rfl) ?_;dsimp only));refine box_event ?hg (N:=6) ?hd (cs:=#[.int .i64 0,.int .i64 0,.int .i64 0,.int .i64 0,.bool false]) (t:=79) ?hr ?_;(case hd=>rfl);(case hg=>rfl);(case hr=>first | (go_simp;done) | (go_simp;rfl));intro gb4 hg w26 hbox hb;have n0_:=kb_ BK1 hb;have n1_:=kb_ BK2 hb;have n2_:=a0_ (below_step hb_ hb);have n3_:=a0_ (hbox);have n4_:=a0_ ((by rw [hg];exact (below_size hb_) : w.heap.size ≤ gb4));have n5_:=a0_ ((by rw [hg];exact (below_size hb_) : w.heap.size ≤ gb4));have n6_:=a0_ ((by rw [hg];exact Nat.ne_of_lt (blk_lt (bb_ BK1.out)) : gb1 ≠ gb4));have n7_:=a0_ ((by rw [hg];exact Nat.ne_of_gt (blk_lt (bb_ BK1.out)) : gb4 ≠ gb1));have n8_:=a0_ ((by rw [hg];exact Nat.ne_of_lt (blk_lt (bb_ BK2.out)) : gb2 ≠ gb4));have n9_:=a0_ ((by rw [hg];exact Nat.ne_of_gt (blk_lt (bb_ BK2.out)) : gb4 ≠ gb2));clear BK1 BK2 HB;have BK1:=n0_;have BK2:=n1_;have HB:=n2_;have BK4:=n3_;have GW4:=n4_;have GE4:=n5_;have NB1_4:=n6_;have NB4_1:=n7_;have NB2_4:=n8_;have NB4_2:=n9_;clear n0_ n1_ n2_ n3_ n4_ n5_ n6_ n7_ n8_ n9_;clear hb hbox hg;have hnb27:=NB4_1.out;have hnc27:=NB1_4.out;have hnb28:=NB4_2.out;have hnc28:=NB2_4.out;have hcz29_0 : w26.cell? ⟨gb4,0,none⟩ = some (.int .i64 0):=(blk_cell BK4.out 0).trans rfl;have hcz29_1 : w26.cell? ⟨gb4,1,none⟩ = some (.int .i64 0):=(blk_cell BK4.out 1).trans rfl;have hcz29_2 : w26.cell? ⟨gb4,2,none⟩ = some (.int .i64 0):=(blk_cell BK4.out 2).trans rfl;have hcz29_3 : w26.cell? ⟨gb4,3,none⟩ = some (.int .i64 0):=(blk_cell BK4.out 3).trans rfl;have hcz29_4 : w26.cell? ⟨gb4,4,none⟩ = some (.bool false):=(blk_cell BK4.out 4).trans rfl;have hfz29_0:=blk_frozen BK4.out 0;have hfz29_1:=blk_frozen BK4.out 1;have hfz29_2:=blk_frozen BK4.out 2;have hfz29_3:=blk_frozen BK4.out 3;have hfz29_4:=blk_frozen BK4.out 4;have hcz30_0 : w26.cell? ⟨gb1,0,none⟩ = some (.slice A0_0 l0_0.length c0_0):=(blk_cell BK1.out 0).trans rfl;have hfz30_0:=blk_frozen BK1.out 0) | (go_at_call 88;(with_reducible refine (spec_hasClass.calls _ _ l0_0 ((rd_T79 l1_0 x5_1).f0) true _ ?side1 ?side2 A7.out).mono ?_);(case side1=>exact Kd.C_below HR0_0.out hb_);(case side2=>exact HC0_0.out);rintro e w31 ⟨rfl,hb⟩;replace BK1:=a0_ (blk_below (g:=gb1) (o:=.cells #[.slice A0_0 l0_0.length c0_0] 33 (0,0)) (by (with_reducible repeat (first | refine blk_drewN ?_ _ | refine blk_drew ?_ | refine blk_alloc ?_ _));refine blk_far ?_ NB1_4.out _;(with_reducible repeat (first | refine blk_drewN ?_ _ | refine blk_drew ?_ | refine blk_alloc ?_ _));refine blk_far ?_ NB1_4.out _;(with_reducible repeat (first | refine blk_drewN ?_ _ | refine blk_drew ?_ | refine blk_alloc ?_ _));refine blk_far ?_ NB1_4.out _;(with_reducible repeat (first | refine blk_drewN ?_ _ | refine blk_drew ?_ | refine blk_alloc ?_ _));refine blk_far ?_ NB1_4.out _;(with_reducible repeat (first | refine blk_drewN ?_ _ | refine blk_drew ?_ | refine blk_alloc ?_ _));refine blk_far ?_ NB1_4.out _;(with_reducible repeat (first | refine blk_drewN ?_ _ | refine blk_drew ?_ | refine blk_alloc ?_ _));exact BK1.out) hb);replace BK2:=a0_ (blk_below (g:=gb2) (o:=.cells #[.slice (some ad3) l1_0.length c1_0] 37 (0,0)) (by (with_reducible repeat (first | refine blk_drewN ?_ _ | refine blk_drew ?_ | refine blk_alloc ?_ _));refine blk_far ?_ NB2_4.out _;(with_reducible repeat (first | refine blk_drewN ?_ _ | refine blk_drew ?_ | refine blk_alloc ?_ _));refine blk_far ?_ NB2_4.out _;(with_reducible repeat (first | refine blk_drewN ?_ _ | refine blk_drew ?_ | refine blk_alloc ?_ _));refine blk_far ?_ NB2_4.out _;(with_reducible repeat (first | refine blk_drewN ?_ _ | refine blk_drew ?_ | refine blk_alloc ?_ _));refine blk_far ?_ NB2_4.out _;(with_reducible repeat (first | refine blk_drewN ?_ _ | refine blk_drew ?_ | refine blk_alloc ?_ _));refine blk_far ?_ NB2_4.out _;(with_reducible repeat (first | refine blk_drewN ?_ _ | refine blk_drew ?_ | refine blk_alloc ?_ _));exact BK2.out) hb);replace BK4:=a0_ (blk_below (g:=gb4) (o:=.cells #[.int .i64 ((rd_T79 l1_0 x5_1).f0),.int .i64 ((rd_T79 l1_0 x5_1).f1),.int .i64 ((rd_T79 l1_0 x5_1).f2),.int .i64 ((rd_T79 l1_0 x5_1).f3),.bool ((rd_T79 l1_0 x5_1).f4)] 79 (0,0)) (by (with_reducible repeat (first | refine blk_drewN ?_ _ | refine blk_drew ?_ | refine blk_alloc ?_ _));refine blk_put (cs:=#[.int .i64 ((rd_T79 l1_0 x5_1).f0),.int .i64 ((rd_T79 l1_0 x5_1).f1),.int .i64 ((rd_T79 l1_0 x5_1).f2),.int .i64 ((rd_T79 l1_0 x5_1).f3),.bool false]) ?_ 4 _ rfl;(with_reducible repeat (first | refine blk_drewN ?_ _ | refine blk_drew ?_ | refine blk_alloc ?_ _));refine blk_put (cs:=#[.int .i64 ((rd_T79 l1_0 x5_1).f0),.int .i64 ((rd_T79 l1_0 x5_1).f1),.int .i64 ((rd_T79 l1_0 x5_1).f2),.int .i64 0,.bool false]) ?_ 3 _ rfl;(with_reducible repeat (first | refine blk_drewN ?_ _ | refine blk_drew ?_ | refine blk_alloc ?_ _));refine blk_put (cs:=#[.int .i64 ((rd_T79 l1_0 x5_1).f0),.int .i64 ((rd_T79 l1_0 x5_1).f1),.int .i64 0,.int .i64 0,.bool false]) ?_ 2 _ rfl;(with_reducible repeat (first | refine blk_drewN ?_ _ | refine blk_drew ?_ | refine blk_alloc ?_ _));refine blk_put (cs:=#[.int .i64 ((rd_T79 l1_0 x5_1).f0),.int .i64 0,.int .i64 0,.int .i64 0,.bool false]) ?_ 1 _ rfl;(with_reducible repeat (first | refine blk_drewN ?_ _ | refine blk_drew ?_ | refine blk_alloc ?_ _));refine blk_put (cs:=#[.int .i64 0,.int .i64 0,.int .i64 0,.int .i64 0,.bool false]) ?_ 0 _ rfl;(with_reducible repeat (first | refine blk_drewN ?_ _ | refine blk_drew ?_ | refine blk_alloc ?_ _));exact BK4.out) hb);replace HB:=a0_ (below_step hb_ hb);(try clear hb);have hcz32_0 : w31.cell? ⟨gb4,0,none⟩ = some (.int .i64 ((rd_T79 l1_0 x5_1).f0)):=(blk_cell BK4.out 0).trans rfl;have hcz32_1 : w31.cell? ⟨gb4,1,none⟩ = some (.int .i64 ((rd_T79 l1_0 x5_1).f1)):=(blk_cell BK4.out 1).trans rfl;have hcz32_2 : w31.cell? ⟨gb4,2,none⟩ = some (.int .i64 ((rd_T79 l1_0 x5_1).f2)):=(blk_cell BK4.out 2).trans rfl;have hcz32_3 : w31.cell? ⟨gb4,3,none⟩ = some (.int .i64 ((rd_T79 l1_0 x5_1).f3)):=(blk_cell BK4.out 3).trans rfl;have hcz32_4 : w31.cell? ⟨gb4,4,none⟩ = some (.bool ((rd_T79 l1_0 x5_1).f4)):=(blk_cell BK4.out 4).trans rfl;have hfz32_0:=blk_frozen BK4.out 0;have hfz32_1:=blk_frozen BK4.out 1;have hfz32_2:=blk_frozen BK4.out 2;have hfz32_3:=blk_frozen BK4.out 3;have hfz32_4:=blk_frozen BK4.out 4) | (go_at_call 89;(with_reducible refine (spec_inRange.calls ((rd_T79 l1_0 x5_1).f1) 0 99 true _ A9.out).mono ?_);rintro e w' ⟨rfl,⟨nd,rfl⟩⟩;(try first | exact ⟨rfl,_,World.drewN_drewN _ _ _⟩ | exact ⟨rfl,_,Eq.trans (World.drewN_drewN _ _ _) (congrArg (World.drewN _) (Nat.add_assoc _ _ _))⟩);have hcz33_0 : w31.cell? ⟨gb2,0,none⟩ = some (.slice (some ad3) l1_0.length c1_0):=(blk_cell BK2.out 0).trans rfl;have hfz33_0:=blk_frozen BK2.out 0) | (go_at_call 90;(with_reducible refine (spec_validLinks.calls _ _ l1_0 x5_1 false _ ?side1 ?side2 A11.out).mono ?_);(case side1=>repeat (first | exact (Kd.C_below HR1_0.out hb_) | (with_reducible refine Kd.C_alloc ?_ _) | (with_reducible refine Kd.C_drewN ?_ _) | (with_reducible refine Kd.C_drew ?_)));(case side2=>exact HC1_0.out);rintro e w34 ⟨rfl,hb⟩;replace BK1:=kb_ BK1 hb;replace BK2:=kb_ BK2 hb;replace BK4:=kb_ BK4 hb;replace HB:=a0_ (below_step hb_ hb);(try clear hb);(try clear hb2);(try clear hk);(try clear hi)));try go_wp2_with (first | ((with_reducible refine gate_dst (N:=6) rfl ?_);(try (refine gate_guard (by rfl) ?_;dsimp only));refine box_event ?hg (N:=6) ?hd (cs:=#[.int .i64 0,.int .i64 0,.int .i64 0,.int .i64 0,.bool false]) (t:=79) ?hr ?_;(case hd=>rfl);(case hg=>rfl);(case hr=>first | (go_simp;done) | (go_simp;rfl));intro gb4 hg w26 hbox hb;have n0_:=kb_ BK1 hb;have n1_:=kb_ BK2 hb;have n2_:=a0_ (below_step hb_ hb);have n3_:=a0_ (hbox);have n4_:=a0_ ((by rw [hg];exact (below_size hb_) : w.heap.size ≤ gb4));have n5_:=a0_ ((by rw [hg];exact (below_size hb_) : w.heap.size ≤ gb4));have n6_:=a0_ ((by rw [hg];exact Nat.ne_of_lt (blk_lt (bb_ BK1.out)) : gb1 ≠ gb4));have n7_:=a0_ ((by rw [hg];exact Nat.ne_of_gt (blk_lt (bb_ BK1.out)) : gb4 ≠ gb1));have n8_:=a0_ ((by rw [hg];exact Nat.ne_of_lt (blk_lt (bb_ BK2.out)) : gb2 ≠ gb4));have n9_:=a0_ ((by rw [hg];exact Nat.ne_of_gt (blk_lt (bb_ BK2.out)) : gb4 ≠ gb2));clear BK1 BK2 HB;have BK1:=n0_;have BK2:=n1_;have HB:=n2_;have BK4:=n3_;have GW4:=n4_;have GE4:=n5_;have NB1_4:=n6_;have NB4_1:=n7_;have NB2_4:=n8_;have NB4_2:=n9_;clear n0_ n1_ n2_ n3_ n4_ n5_ n6_ n7_ n8_ n9_;clear hb hbox hg;have hnb27:=NB4_1.out;have hnc27:=NB1_4.out;have hnb28:=NB4_2.out;have hnc28:=NB2_4.out;have hcz29_0 : w26.cell? ⟨gb4,0,none⟩ = some (.int .i64 0):=(blk_cell BK4.out 0).trans rfl;have hcz29_1 : w26.cell? ⟨gb4,1,none⟩ = some (.int .i64 0):=(blk_cell BK4.out 1).trans rfl;have hcz29_2 : w26.cell? ⟨gb4,2,none⟩ = some (.int .i64 0):=(blk_cell BK4.out 2).trans rfl;have hcz29_3 : w26.cell? ⟨gb4,3,none⟩ = some (.int .i64 0):=(blk_cell BK4.out 3).trans rfl;have hcz29_4 : w26.cell? ⟨gb4,4,none⟩ = some (.bool false):=(blk_cell BK4.out 4).trans rfl;have hfz29_0:=blk_frozen BK4.out 0;have hfz29_1:=blk_frozen BK4.out 1;have hfz29_2:=blk_frozen BK4.out 2;have hfz29_3:=blk_frozen BK4.out 3;have hfz29_4:=blk_frozen BK4.out 4;have hcz30_0 : w26.cell? ⟨gb1,0,none⟩ = some (.slice A0_0 l0_0.length c0_0):=(blk_cell BK1.out 0).trans rfl;have hfz30_0:=blk_frozen BK1.out 0) | (go_at_call 88;(with_reducible refine (spec_hasClass.calls _ _ l0_0 ((rd_T79 l1_0 x5_1).f0) true _ ?side1 ?side2 A7.out).mono ?_);(case side1=>exact Kd.C_below HR0_0.out hb_);(case side2=>exact HC0_0.out);rintro e w31 ⟨rfl,hb⟩;replace BK1:=a0_ (blk_below (g:=gb1) (o:=.cells #[.slice A0_0 l0_0.length c0_0] 33 (0,0)) (by (with_reducible repeat (first | refine blk_drewN ?_ _ | refine blk_drew ?_ | refine blk_alloc ?_ _));refine blk_far ?_ NB1_4.out _;(with_reducible repeat (first | refine blk_drewN ?_ _ | refine blk_drew ?_ | refine blk_alloc ?_ _));refine blk_far ?_ NB1_4.out _;(with_reducible repeat (first | refine blk_drewN ?_ _ | refine blk_drew ?_ | refine blk_alloc ?_ _));refine blk_far ?_ NB1_4.out _;(with_reducible repeat (first | refine blk_drewN ?_ _ | refine blk_drew ?_ | refine blk_alloc ?_ _));refine blk_far ?_ NB1_4.out _;(with_reducible repeat (first | refine blk_drewN ?_ _ | refine blk_drew ?_ | refine blk_alloc ?_ _));refine blk_far ?_ NB1_4.out _;(with_reducible repeat (first | refine blk_drewN ?_ _ | refine blk_drew ?_ | refine blk_alloc ?_ _));exact BK1.out) hb);replace BK2:=a0_ (blk_below (g:=gb2) (o:=.cells #[.slice (some ad3) l1_0.length c1_0] 37 (0,0)) (by (with_reducible repeat (first | refine blk_drewN ?_ _ | refine blk_drew ?_ | refine blk_alloc ?_ _));refine blk_far ?_ NB2_4.out _;(with_reducible repeat (first | refine blk_drewN ?_ _ | refine blk_drew ?_ | refine blk_alloc ?_ _));refine blk_far ?_ NB2_4.out _;(with_reducible repeat (first | refine blk_drewN ?_ _ | refine blk_drew ?_ | refine blk_alloc ?_ _));refine blk_far ?_ NB2_4.out _;(with_reducible repeat (first | refine blk_drewN ?_ _ | refine blk_drew ?_ | refine blk_alloc ?_ _));refine blk_far ?_ NB2_4.out _;(with_reducible repeat (first | refine blk_drewN ?_ _ | refine blk_drew ?_ | refine blk_alloc ?_ _));refine blk_far ?_ NB2_4.out _;(with_reducible repeat (first | refine blk_drewN ?_ _ | refine blk_drew ?_ | refine blk_alloc ?_ _));exact BK2.out) hb);replace BK4:=a0_ (blk_below (g:=gb4) (o:=.cells #[.int .i64 ((rd_T79 l1_0 x5_1).f0),.int .i64 ((rd_T79 l1_0 x5_1).f1),.int .i64 ((rd_T79 l1_0 x5_1).f2),.int .i64 ((rd_T79 l1_0 x5_1).f3),.bool ((rd_T79 l1_0 x5_1).f4)] 79 (0,0)) (by (with_reducible repeat (first | refine blk_drewN ?_ _ | refine blk_drew ?_ | refine blk_alloc ?_ _));refine blk_put (cs:=#[.int .i64 ((rd_T79 l1_0 x5_1).f0),.int .i64 ((rd_T79 l1_0 x5_1).f1),.int .i64 ((rd_T79 l1_0 x5_1).f2),.int .i64 ((rd_T79 l1_0 x5_1).f3),.bool false]) ?_ 4 _ rfl;(with_reducible repeat (first | refine blk_drewN ?_ _ | refine blk_drew ?_ | refine blk_alloc ?_ _));refine blk_put (cs:=#[.int .i64 ((rd_T79 l1_0 x5_1).f0),.int .i64 ((rd_T79 l1_0 x5_1).f1),.int .i64 ((rd_T79 l1_0 x5_1).f2),.int .i64 0,.bool false]) ?_ 3 _ rfl;(with_reducible repeat (first | refine blk_drewN ?_ _ | refine blk_drew ?_ | refine blk_alloc ?_ _));refine blk_put (cs:=#[.int .i64 ((rd_T79 l1_0 x5_1).f0),.int .i64 ((rd_T79 l1_0 x5_1).f1),.int .i64 0,.int .i64 0,.bool false]) ?_ 2 _ rfl;(with_reducible repeat (first | refine blk_drewN ?_ _ | refine blk_drew ?_ | refine blk_alloc ?_ _));refine blk_put (cs:=#[.int .i64 ((rd_T79 l1_0 x5_1).f0),.int .i64 0,.int .i64 0,.int .i64 0,.bool false]) ?_ 1 _ rfl;(with_reducible repeat (first | refine blk_drewN ?_ _ | refine blk_drew ?_ | refine blk_alloc ?_ _));refine blk_put (cs:=#[.int .i64 0,.int .i64 0,.int .i64 0,.int .i64 0,.bool false]) ?_ 0 _ rfl;(with_reducible repeat (first | refine blk_drewN ?_ _ | refine blk_drew ?_ | refine blk_alloc ?_ _));exact BK4.out) hb);replace HB:=a0_ (below_step hb_ hb);(try clear hb);have hcz32_0 : w31.cell? ⟨gb4,0,none⟩ = some (.int .i64 ((rd_T79 l1_0 x5_1).f0)):=(blk_cell BK4.out 0).trans rfl;have hcz32_1 : w31.cell? ⟨gb4,1,none⟩ = some (.int .i64 ((rd_T79 l1_0 x5_1).f1)):=(blk_cell BK4.out 1).trans rfl;have hcz32_2 : w31.cell? ⟨gb4,2,none⟩ = some (.int .i64 ((rd_T79 l1_0 x5_1).f2)):=(blk_cell BK4.out 2).trans rfl;have hcz32_3 : w31.cell? ⟨gb4,3,none⟩ = some (.int .i64 ((rd_T79 l1_0 x5_1).f3)):=(blk_cell BK4.out 3).trans rfl;have hcz32_4 : w31.cell? ⟨gb4,4,none⟩ = some (.bool ((rd_T79 l1_0 x5_1).f4)):=(blk_cell BK4.out 4).trans rfl;have hfz32_0:=blk_frozen BK4.out 0;have hfz32_1:=blk_frozen BK4.out 1;have hfz32_2:=blk_frozen BK4.out 2;have hfz32_3:=blk_frozen BK4.out 3;have hfz32_4:=blk_frozen BK4.out 4) | (go_at_call 89;(with_reducible refine (spec_inRange.calls ((rd_T79 l1_0 x5_1).f1) 0 99 true _ A9.out).mono ?_);rintro e w' ⟨rfl,⟨nd,rfl⟩⟩;(try first | exact ⟨rfl,_,World.drewN_drewN _ _ _⟩ | exact ⟨rfl,_,Eq.trans (World.drewN_drewN _ _ _) (congrArg (World.drewN _) (Nat.add_assoc _ _ _))⟩);have hcz33_0 : w31.cell? ⟨gb2,0,none⟩ = some (.slice (some ad3) l1_0.length c1_0):=(blk_cell BK2.out 0).trans rfl;have hfz33_0:=blk_frozen BK2.out 0) | (go_at_call 90;(with_reducible refine (spec_validLinks.calls _ _ l1_0 x5_1 false _ ?side1 ?side2 A11.out).mono ?_);(case side1=>repeat (first | exact (Kd.C_below HR1_0.out hb_) | (with_reducible refine Kd.C_alloc ?_ _) | (with_reducible refine Kd.C_drewN ?_ _) | (with_reducible refine Kd.C_drew ?_)));(case side2=>exact HC1_0.out);rintro e w34 ⟨rfl,hb⟩;replace BK1:=kb_ BK1 hb;replace BK2:=kb_ BK2 hb;replace BK4:=kb_ BK4 hb;replace HB:=a0_ (below_step hb_ hb);(try clear hb);(try clear hb2);(try clear hk);(try clear hi))))
        go_ret
        exact ⟨by first | rfl | (simp [errW_none,errW_some] <;> rfl) | (simp [*,errW_none,errW_some] <;> rfl),hb_⟩
      ·replace c10:=Bool.eq_false_iff.mpr c10
       subst c10
       have H1 : (some false) = some r:=by rw [if_neg (show ¬ (false = true) by decide)] at H;exact H
       clear H
       have H:=H1
       clear H1
       obtain rfl:=Option.some.inj H
       have hnb35:=NB2_1.out
       have hnc35:=NB1_2.out
       have hcz36_0 : wr.cell? ⟨gb2,0,none⟩ = some (.slice A1_0 l1_0.length c1_0):=(blk_cell BK2.out 0).trans rfl
       have hfz36_0:=blk_frozen BK2.out 0
       have p3 : 0 ≤ (x5_1 : Int):=of_decide_eq_true (by first | (with_reducible assumption) | assumption)
       have q3 : x5_1 < (l1_0.length : Int):=of_decide_eq_true (by first | (with_reducible assumption) | assumption)
       obtain ⟨ad3,e3,hx3_0,hx3_1,hx3_2,hx3_3,hx3_4⟩:=at_T79 HR1_0.out x5_1 p3 q3
       cases e3
       replace hx3_0:=(HB.out.cell (World.block_lt_of_cell? w _ hx3_0)).trans hx3_0
       replace hx3_1:=(HB.out.cell (World.block_lt_of_cell? w _ hx3_1)).trans hx3_1
       replace hx3_2:=(HB.out.cell (World.block_lt_of_cell? w _ hx3_2)).trans hx3_2
       replace hx3_3:=(HB.out.cell (World.block_lt_of_cell? w _ hx3_3)).trans hx3_3
       replace hx3_4:=(HB.out.cell (World.block_lt_of_cell? w _ hx3_4)).trans hx3_4
       replace p3:=eq_true p3
       replace q3:=eq_true q3
       go_wp2_with (first | ((with_reducible refine gate_dst (N:=6) rfl ?_);(try (refine gate_guard (by rfl) ?_;dsimp only));refine box_event ?hg (N:=6) ?hd (cs:=#[.int .i64 0,.int .i64 0,.int .i64 0,.int .i64 0,.bool false]) (t:=79) ?hr ?_;(case hd=>rfl);(case hg=>rfl);(case hr=>first | (go_simp;done) | (go_simp;rfl));intro gb4 hg w37 hbox hb;have n0_:=kb_ BK1 hb;have n1_:=kb_ BK2 hb;have n2_:=a0_ (below_step hb_ hb);have n3_:=a0_ (hbox);have n4_:=a0_ ((by rw [hg];exact (below_size hb_) : w.heap.size ≤ gb4));have n5_:=a0_ ((by rw [hg];exact (below_size hb_) : w.heap.size ≤ gb4));have n6_:=a0_ ((by rw [hg];exact Nat.ne_of_lt (blk_lt (bb_ BK1.out)) : gb1 ≠ gb4));have n7_:=a0_ ((by rw [hg];exact Nat.ne_of_gt (blk_lt (bb_ BK1.out)) : gb4 ≠ gb1));have n8_:=a0_ ((by rw [hg];exact Nat.ne_of_lt (blk_lt (bb_ BK2.out)) : gb2 ≠ gb4));have n9_:=a0_ ((by rw [hg];exact Nat.ne_of_gt (blk_lt (bb_ BK2.out)) : gb4 ≠ gb2));clear BK1 BK2 HB;have BK1:=n0_;have BK2:=n1_;have HB:=n2_;have BK4:=n3_;have GW4:=n4_;have GE4:=n5_;have NB1_4:=n6_;have NB4_1:=n7_;have NB2_4:=n8_;have NB4_2:=n9_;clear n0_ n1_ n2_ n3_ n4_ n5_ n6_ n7_ n8_ n9_;clear hb hbox hg;have hnb38:=NB4_1.out;have hnc38:=NB1_4.out;have hnb39:=NB4_2.out;have hnc39:=NB2_4.out;have hcz40_0 : w37.cell? ⟨gb4,0,none⟩ = some (.int .i64 0):=(blk_cell BK4.out 0).trans rfl;have hcz40_1 : w37.cell? ⟨gb4,1,none⟩ = some (.int .i64 0):=(blk_cell BK4.out 1).trans rfl;have hcz40_2 : w37.cell? ⟨gb4,2,none⟩ = some (.int .i64 0):=(blk_cell BK4.out 2).trans rfl;have hcz40_3 : w37.cell? ⟨gb4,3,none⟩ = some (.int .i64 0):=(blk_cell BK4.out 3).trans rfl;have hcz40_4 : w37.cell? ⟨gb4,4,none⟩ = some (.bool false):=(blk_cell BK4.out 4).trans rfl;have hfz40_0:=blk_frozen BK4.out 0;have hfz40_1:=blk_frozen BK4.out 1;have hfz40_2:=blk_frozen BK4.out 2;have hfz40_3:=blk_frozen BK4.out 3;have hfz40_4:=blk_frozen BK4.out 4;have hcz41_0 : w37.cell? ⟨gb1,0,none⟩ = some (.slice A0_0 l0_0.length c0_0):=(blk_cell BK1.out 0).trans rfl;have hfz41_0:=blk_frozen BK1.out 0) | (go_at_call 88;(with_reducible refine (spec_hasClass.calls _ _ l0_0 ((rd_T79 l1_0 x5_1).f0) true _ ?side1 ?side2 A7.out).mono ?_);(case side1=>exact Kd.C_below HR0_0.out hb_);(case side2=>exact HC0_0.out);rintro e w42 ⟨rfl,hb⟩;replace BK1:=a0_ (blk_below (g:=gb1) (o:=.cells #[.slice A0_0 l0_0.length c0_0] 33 (0,0)) (by (with_reducible repeat (first | refine blk_drewN ?_ _ | refine blk_drew ?_ | refine blk_alloc ?_ _));refine blk_far ?_ NB1_4.out _;(with_reducible repeat (first | refine blk_drewN ?_ _ | refine blk_drew ?_ | refine blk_alloc ?_ _));refine blk_far ?_ NB1_4.out _;(with_reducible repeat (first | refine blk_drewN ?_ _ | refine blk_drew ?_ | refine blk_alloc ?_ _));refine blk_far ?_ NB1_4.out _;(with_reducible repeat (first | refine blk_drewN ?_ _ | refine blk_drew ?_ | refine blk_alloc ?_ _));refine blk_far ?_ NB1_4.out _;(with_reducible repeat (first | refine blk_drewN ?_ _ | refine blk_drew ?_ | refine blk_alloc ?_ _));refine blk_far ?_ NB1_4.out _;(with_reducible repeat (first | refine blk_drewN ?_ _ | refine blk_drew ?_ | refine blk_alloc ?_ _));exact BK1.out) hb);replace BK2:=a0_ (blk_below (g:=gb2) (o:=.cells #[.slice (some ad3) l1_0.length c1_0] 37 (0,0)) (by (with_reducible repeat (first | refine blk_drewN ?_ _ | refine blk_drew ?_ | refine blk_alloc ?_ _));refine blk_far ?_ NB2_4.out _;(with_reducible repeat (first | refine blk_drewN ?_ _ | refine blk_drew ?_ | refine blk_alloc ?_ _));refine blk_far ?_ NB2_4.out _;(with_reducible repeat (first | refine blk_drewN ?_ _ | refine blk_drew ?_ | refine blk_alloc ?_ _));refine blk_far ?_ NB2_4.out _;(with_reducible repeat (first | refine blk_drewN ?_ _ | refine blk_drew ?_ | refine blk_alloc ?_ _));refine blk_far ?_ NB2_4.out _;(with_reducible repeat (first | refine blk_drewN ?_ _ | refine blk_drew ?_ | refine blk_alloc ?_ _));refine blk_far ?_ NB2_4.out _;(with_reducible repeat (first | refine blk_drewN ?_ _ | refine blk_drew ?_ | refine blk_alloc ?_ _));exact BK2.out) hb);replace BK4:=a0_ (blk_below (g:=gb4) (o:=.cells #[.int .i64 ((rd_T79 l1_0 x5_1).f0),.int .i64 ((rd_T79 l1_0 x5_1).f1),.int .i64 ((rd_T79 l1_0 x5_1).f2),.int .i64 ((rd_T79 l1_0 x5_1).f3),.bool ((rd_T79 l1_0 x5_1).f4)] 79 (0,0)) (by (with_reducible repeat (first | refine blk_drewN ?_ _ | refine blk_drew ?_ | refine blk_alloc ?_ _));refine blk_put (cs:=#[.int .i64 ((rd_T79 l1_0 x5_1).f0),.int .i64 ((rd_T79 l1_0 x5_1).f1),.int .i64 ((rd_T79 l1_0 x5_1).f2),.int .i64 ((rd_T79 l1_0 x5_1).f3),.bool false]) ?_ 4 _ rfl;(with_reducible repeat (first | refine blk_drewN ?_ _ | refine blk_drew ?_ | refine blk_alloc ?_ _));refine blk_put (cs:=#[.int .i64 ((rd_T79 l1_0 x5_1).f0),.int .i64 ((rd_T79 l1_0 x5_1).f1),.int .i64 ((rd_T79 l1_0 x5_1).f2),.int .i64 0,.bool false]) ?_ 3 _ rfl;(with_reducible repeat (first | refine blk_drewN ?_ _ | refine blk_drew ?_ | refine blk_alloc ?_ _));refine blk_put (cs:=#[.int .i64 ((rd_T79 l1_0 x5_1).f0),.int .i64 ((rd_T79 l1_0 x5_1).f1),.int .i64 0,.int .i64 0,.bool false]) ?_ 2 _ rfl;(with_reducible repeat (first | refine blk_drewN ?_ _ | refine blk_drew ?_ | refine blk_alloc ?_ _));refine blk_put (cs:=#[.int .i64 ((rd_T79 l1_0 x5_1).f0),.int .i64 0,.int .i64 0,.int .i64 0,.bool false]) ?_ 1 _ rfl;(with_reducible repeat (first | refine blk_drewN ?_ _ | refine blk_drew ?_ | refine blk_alloc ?_ _));refine blk_put (cs:=#[.int .i64 0,.int .i64 0,.int .i64 0,.int .i64 0,.bool false]) ?_ 0 _ rfl;(with_reducible repeat (first | refine blk_drewN ?_ _ | refine blk_drew ?_ | refine blk_alloc ?_ _));exact BK4.out) hb);replace HB:=a0_ (below_step hb_ hb);(try clear hb);have hcz43_0 : w42.cell? ⟨gb4,0,none⟩ = some (.int .i64 ((rd_T79 l1_0 x5_1).f0)):=(blk_cell BK4.out 0).trans rfl;have hcz43_1 : w42.cell? ⟨gb4,1,none⟩ = some (.int .i64 ((rd_T79 l1_0 x5_1).f1)):=(blk_cell BK4.out 1).trans rfl;have hcz43_2 : w42.cell? ⟨gb4,2,none⟩ = some (.int .i64 ((rd_T79 l1_0 x5_1).f2)):=(blk_cell BK4.out 2).trans rfl;have hcz43_3 : w42.cell? ⟨gb4,3,none⟩ = some (.int .i64 ((rd_T79 l1_0 x5_1).f3)):=(blk_cell BK4.out 3).trans rfl;have hcz43_4 : w42.cell? ⟨gb4,4,none⟩ = some (.bool ((rd_T79 l1_0 x5_1).f4)):=(blk_cell BK4.out 4).trans rfl;have hfz43_0:=blk_frozen BK4.out 0;have hfz43_1:=blk_frozen BK4.out 1;have hfz43_2:=blk_frozen BK4.out 2;have hfz43_3:=blk_frozen BK4.out 3;have hfz43_4:=blk_frozen BK4.out 4) | (go_at_call 89;(with_reducible refine (spec_inRange.calls ((rd_T79 l1_0 x5_1).f1) 0 99 false _ A9.out).mono ?_);rintro e w' ⟨rfl,⟨nd,rfl⟩⟩;(try first | exact ⟨rfl,_,World.drewN_drewN _ _ _⟩ | exact ⟨rfl,_,Eq.trans (World.drewN_drewN _ _ _) (congrArg (World.drewN _) (Nat.add_assoc _ _ _))⟩)))
       repeat (go_quiet (first | ((with_reducible refine gate_dst (N:=6) rfl ?_);(try (refine gate_guard (by rfl) ?_;dsimp only));refine box_event ?hg (N:=6) ?hd (cs:=#[.int .i64 0,.int .i64 0,.int .i64 0,.int .i64 0,.bool false]) (t:=79) ?hr ?_;(case hd=>rfl);(case hg=>rfl);(case hr=>first | (go_simp;done) | (go_simp;rfl));intro gb4 hg w37 hbox hb;have n0_:=kb_ BK1 hb;have n1_:=kb_ BK2 hb;have n2_:=a0_ (below_step hb_ hb);have n3_:=a0_ (hbox);have n4_:=a0_ ((by rw [hg];exact (below_size hb_) : w.heap.size ≤ gb4));have n5_:=a0_ ((by rw [hg];exact (below_size hb_) : w.heap.size ≤ gb4));have n6_:=a0_ ((by rw [hg];exact Nat.ne_of_lt (blk_lt (bb_ BK1.out)) : gb1 ≠ gb4));have n7_:=a0_ ((by rw [hg];exact Nat.ne_of_gt (blk_lt (bb_ BK1.out)) : gb4 ≠ gb1));have n8_:=a0_ ((by rw [hg];exact Nat.ne_of_lt (blk_lt (bb_ BK2.out)) : gb2 ≠ gb4));have n9_:=a0_ ((by rw [hg];exact Nat.ne_of_gt (blk_lt (bb_ BK2.out)) : gb4 ≠ gb2));clear BK1 BK2 HB;have BK1:=n0_;have BK2:=n1_;have HB:=n2_;have BK4:=n3_;have GW4:=n4_;have GE4:=n5_;have NB1_4:=n6_;have NB4_1:=n7_;have NB2_4:=n8_;have NB4_2:=n9_;clear n0_ n1_ n2_ n3_ n4_ n5_ n6_ n7_ n8_ n9_;clear hb hbox hg;have hnb38:=NB4_1.out;have hnc38:=NB1_4.out;have hnb39:=NB4_2.out;have hnc39:=NB2_4.out;have hcz40_0 : w37.cell? ⟨gb4,0,none⟩ = some (.int .i64 0):=(blk_cell BK4.out 0).trans rfl;have hcz40_1 : w37.cell? ⟨gb4,1,none⟩ = some (.int .i64 0):=(blk_cell BK4.out 1).trans rfl;have hcz40_2 : w37.cell? ⟨gb4,2,none⟩ = some (.int .i64 0):=(blk_cell BK4.out 2).trans rfl;have hcz40_3 : w37.cell? ⟨gb4,3,none⟩ = some (.int .i64 0):=(blk_cell BK4.out 3).trans rfl;have hcz40_4 : w37.cell? ⟨gb4,4,none⟩ = some (.bool false):=(blk_cell BK4.out 4).trans rfl;have hfz40_0:=blk_frozen BK4.out 0;have hfz40_1:=blk_frozen BK4.out 1;have hfz40_2:=blk_frozen BK4.out 2;have hfz40_3:=blk_frozen BK4.out 3;have hfz40_4:=blk_frozen BK4.out 4;have hcz41_0 : w37.cell? ⟨gb1,0,none⟩ = some (.slice A0_0 l0_0.length c0_0):=(blk_cell BK1.out 0).trans rfl;have hfz41_0:=blk_frozen BK1.out 0) | (go_at_call 88;(with_reducible refine (spec_hasClass.calls _ _ l0_0 ((rd_T79 l1_0 x5_1).f0) true _ ?side1 ?side2 A7.out).mono ?_);(case side1=>exact Kd.C_below HR0_0.out hb_);(case side2=>exact HC0_0.out);rintro e w42 ⟨rfl,hb⟩;replace BK1:=a0_ (blk_below (g:=gb1) (o:=.cells #[.slice A0_0 l0_0.length c0_0] 33 (0,0)) (by (with_reducible repeat (first | refine blk_drewN ?_ _ | refine blk_drew ?_ | refine blk_alloc ?_ _));refine blk_far ?_ NB1_4.out _;(with_reducible repeat (first | refine blk_drewN ?_ _ | refine blk_drew ?_ | refine blk_alloc ?_ _));refine blk_far ?_ NB1_4.out _;(with_reducible repeat (first | refine blk_drewN ?_ _ | refine blk_drew ?_ | refine blk_alloc ?_ _));refine blk_far ?_ NB1_4.out _;(with_reducible repeat (first | refine blk_drewN ?_ _ | refine blk_drew ?_ | refine blk_alloc ?_ _));refine blk_far ?_ NB1_4.out _;(with_reducible repeat (first | refine blk_drewN ?_ _ | refine blk_drew ?_ | refine blk_alloc ?_ _));refine blk_far ?_ NB1_4.out _;(with_reducible repeat (first | refine blk_drewN ?_ _ | refine blk_drew ?_ | refine blk_alloc ?_ _));exact BK1.out) hb);replace BK2:=a0_ (blk_below (g:=gb2) (o:=.cells #[.slice (some ad3) l1_0.length c1_0] 37 (0,0)) (by (with_reducible repeat (first | refine blk_drewN ?_ _ | refine blk_drew ?_ | refine blk_alloc ?_ _));refine blk_far ?_ NB2_4.out _;(with_reducible repeat (first | refine blk_drewN ?_ _ | refine blk_drew ?_ | refine blk_alloc ?_ _));refine blk_far ?_ NB2_4.out _;(with_reducible repeat (first | refine blk_drewN ?_ _ | refine blk_drew ?_ | refine blk_alloc ?_ _));refine blk_far ?_ NB2_4.out _;(with_reducible repeat (first | refine blk_drewN ?_ _ | refine blk_drew ?_ | refine blk_alloc ?_ _));refine blk_far ?_ NB2_4.out _;(with_reducible repeat (first | refine blk_drewN ?_ _ | refine blk_drew ?_ | refine blk_alloc ?_ _));refine blk_far ?_ NB2_4.out _;(with_reducible repeat (first | refine blk_drewN ?_ _ | refine blk_drew ?_ | refine blk_alloc ?_ _));exact BK2.out) hb);replace BK4:=a0_ (blk_below (g:=gb4) (o:=.cells #[.int .i64 ((rd_T79 l1_0 x5_1).f0),.int .i64 ((rd_T79 l1_0 x5_1).f1),.int .i64 ((rd_T79 l1_0 x5_1).f2),.int .i64 ((rd_T79 l1_0 x5_1).f3),.bool ((rd_T79 l1_0 x5_1).f4)] 79 (0,0)) (by (with_reducible repeat (first | refine blk_drewN ?_ _ | refine blk_drew ?_ | refine blk_alloc ?_ _));refine blk_put (cs:=#[.int .i64 ((rd_T79 l1_0 x5_1).f0),.int .i64 ((rd_T79 l1_0 x5_1).f1),.int .i64 ((rd_T79 l1_0 x5_1).f2),.int .i64 ((rd_T79 l1_0 x5_1).f3),.bool false]) ?_ 4 _ rfl;(with_reducible repeat (first | refine blk_drewN ?_ _ | refine blk_drew ?_ | refine blk_alloc ?_ _));refine blk_put (cs:=#[.int .i64 ((rd_T79 l1_0 x5_1).f0),.int .i64 ((rd_T79 l1_0 x5_1).f1),.int .i64 ((rd_T79 l1_0 x5_1).f2),.int .i64 0,.bool false]) ?_ 3 _ rfl;(with_reducible repeat (first | refine blk_drewN ?_ _ | refine blk_drew ?_ | refine blk_alloc ?_ _));refine blk_put (cs:=#[.int .i64 ((rd_T79 l1_0 x5_1).f0),.int .i64 ((rd_T79 l1_0 x5_1).f1),.int .i64 0,.int .i64 0,.bool false]) ?_ 2 _ rfl;(with_reducible repeat (first | refine blk_drewN ?_ _ | refine blk_drew ?_ | refine blk_alloc ?_ _));refine blk_put (cs:=#[.int .i64 ((rd_T79 l1_0 x5_1).f0),.int .i64 0,.int .i64 0,.int .i64 0,.bool false]) ?_ 1 _ rfl;(with_reducible repeat (first | refine blk_drewN ?_ _ | refine blk_drew ?_ | refine blk_alloc ?_ _));refine blk_put (cs:=#[.int .i64 0,.int .i64 0,.int .i64 0,.int .i64 0,.bool false]) ?_ 0 _ rfl;(with_reducible repeat (first | refine blk_drewN ?_ _ | refine blk_drew ?_ | refine blk_alloc ?_ _));exact BK4.out) hb);replace HB:=a0_ (below_step hb_ hb);(try clear hb);have hcz43_0 : w42.cell? ⟨gb4,0,none⟩ = some (.int .i64 ((rd_T79 l1_0 x5_1).f0)):=(blk_cell BK4.out 0).trans rfl;have hcz43_1 : w42.cell? ⟨gb4,1,none⟩ = some (.int .i64 ((rd_T79 l1_0 x5_1).f1)):=(blk_cell BK4.out 1).trans rfl;have hcz43_2 : w42.cell? ⟨gb4,2,none⟩ = some (.int .i64 ((rd_T79 l1_0 x5_1).f2)):=(blk_cell BK4.out 2).trans rfl;have hcz43_3 : w42.cell? ⟨gb4,3,none⟩ = some (.int .i64 ((rd_T79 l1_0 x5_1).f3)):=(blk_cell BK4.out 3).trans rfl;have hcz43_4 : w42.cell? ⟨gb4,4,none⟩ = some (.bool ((rd_T79 l1_0 x5_1).f4)):=(blk_cell BK4.out 4).trans rfl;have hfz43_0:=blk_frozen BK4.out 0;have hfz43_1:=blk_frozen BK4.out 1;have hfz43_2:=blk_frozen BK4.out 2;have hfz43_3:=blk_frozen BK4.out 3;have hfz43_4:=blk_frozen BK4.out 4) | (go_at_call 89;(with_reducible refine (spec_inRange.calls ((rd_T79 l1_0 x5_1).f1) 0 99 false _ A9.out).mono ?_);rintro e w' ⟨rfl,⟨nd,rfl⟩⟩;(try first | exact ⟨rfl,_,World.drewN_drewN _ _ _⟩ | exact ⟨rfl,_,Eq.trans (World.drewN_drewN _ _ _) (congrArg (World.drewN _) (Nat.add_assoc _ _ _))⟩)));try go_wp2_with (first | ((with_reducible refine gate_dst (N:=6) rfl ?_);(try (refine gate_guard (by rfl) ?_;dsimp only));refine box_event ?hg (N:=6) ?hd (cs:=#[.int .i64 0,.int .i64 0,.int .i64 0,.int .i64 0,.bool false]) (t:=79) ?hr ?_;(case hd=>rfl);(case hg=>rfl);(case hr=>first | (go_simp;done) | (go_simp;rfl));intro gb4 hg w37 hbox hb;have n0_:=kb_ BK1 hb;have n1_:=kb_ BK2 hb;have n2_:=a0_ (below_step hb_ hb);have n3_:=a0_ (hbox);have n4_:=a0_ ((by rw [hg];exact (below_size hb_) : w.heap.size ≤ gb4));have n5_:=a0_ ((by rw [hg];exact (below_size hb_) : w.heap.size ≤ gb4));have n6_:=a0_ ((by rw [hg];exact Nat.ne_of_lt (blk_lt (bb_ BK1.out)) : gb1 ≠ gb4));have n7_:=a0_ ((by rw [hg];exact Nat.ne_of_gt (blk_lt (bb_ BK1.out)) : gb4 ≠ gb1));have n8_:=a0_ ((by rw [hg];exact Nat.ne_of_lt (blk_lt (bb_ BK2.out)) : gb2 ≠ gb4));have n9_:=a0_ ((by rw [hg];exact Nat.ne_of_gt (blk_lt (bb_ BK2.out)) : gb4 ≠ gb2));clear BK1 BK2 HB;have BK1:=n0_;have BK2:=n1_;have HB:=n2_;have BK4:=n3_;have GW4:=n4_;have GE4:=n5_;have NB1_4:=n6_;have NB4_1:=n7_;have NB2_4:=n8_;have NB4_2:=n9_;clear n0_ n1_ n2_ n3_ n4_ n5_ n6_ n7_ n8_ n9_;clear hb hbox hg;have hnb38:=NB4_1.out;have hnc38:=NB1_4.out;have hnb39:=NB4_2.out;have hnc39:=NB2_4.out;have hcz40_0 : w37.cell? ⟨gb4,0,none⟩ = some (.int .i64 0):=(blk_cell BK4.out 0).trans rfl;have hcz40_1 : w37.cell? ⟨gb4,1,none⟩ = some (.int .i64 0):=(blk_cell BK4.out 1).trans rfl;have hcz40_2 : w37.cell? ⟨gb4,2,none⟩ = some (.int .i64 0):=(blk_cell BK4.out 2).trans rfl;have hcz40_3 : w37.cell? ⟨gb4,3,none⟩ = some (.int .i64 0):=(blk_cell BK4.out 3).trans rfl;have hcz40_4 : w37.cell? ⟨gb4,4,none⟩ = some (.bool false):=(blk_cell BK4.out 4).trans rfl;have hfz40_0:=blk_frozen BK4.out 0;have hfz40_1:=blk_frozen BK4.out 1;have hfz40_2:=blk_frozen BK4.out 2;have hfz40_3:=blk_frozen BK4.out 3;have hfz40_4:=blk_frozen BK4.out 4;have hcz41_0 : w37.cell? ⟨gb1,0,none⟩ = some (.slice A0_0 l0_0.length c0_0):=(blk_cell BK1.out 0).trans rfl;have hfz41_0:=blk_frozen BK1.out 0) | (go_at_call 88;(with_reducible refine (spec_hasClass.calls _ _ l0_0 ((rd_T79 l1_0 x5_1).f0) true _ ?side1 ?side2 A7.out).mono ?_);(case side1=>exact Kd.C_below HR0_0.out hb_);(case side2=>exact HC0_0.out);rintro e w42 ⟨rfl,hb⟩;replace BK1:=a0_ (blk_below (g:=gb1) (o:=.cells #[.slice A0_0 l0_0.length c0_0] 33 (0,0)) (by (with_reducible repeat (first | refine blk_drewN ?_ _ | refine blk_drew ?_ | refine blk_alloc ?_ _));refine blk_far ?_ NB1_4.out _;(with_reducible repeat (first | refine blk_drewN ?_ _ | refine blk_drew ?_ | refine blk_alloc ?_ _));refine blk_far ?_ NB1_4.out _;(with_reducible repeat (first | refine blk_drewN ?_ _ | refine blk_drew ?_ | refine blk_alloc ?_ _));refine blk_far ?_ NB1_4.out _;(with_reducible repeat (first | refine blk_drewN ?_ _ | refine blk_drew ?_ | refine blk_alloc ?_ _));refine blk_far ?_ NB1_4.out _;(with_reducible repeat (first | refine blk_drewN ?_ _ | refine blk_drew ?_ | refine blk_alloc ?_ _));refine blk_far ?_ NB1_4.out _;(with_reducible repeat (first | refine blk_drewN ?_ _ | refine blk_drew ?_ | refine blk_alloc ?_ _));exact BK1.out) hb);replace BK2:=a0_ (blk_below (g:=gb2) (o:=.cells #[.slice (some ad3) l1_0.length c1_0] 37 (0,0)) (by (with_reducible repeat (first | refine blk_drewN ?_ _ | refine blk_drew ?_ | refine blk_alloc ?_ _));refine blk_far ?_ NB2_4.out _;(with_reducible repeat (first | refine blk_drewN ?_ _ | refine blk_drew ?_ | refine blk_alloc ?_ _));refine blk_far ?_ NB2_4.out _;(with_reducible repeat (first | refine blk_drewN ?_ _ | refine blk_drew ?_ | refine blk_alloc ?_ _));refine blk_far ?_ NB2_4.out _;(with_reducible repeat (first | refine blk_drewN ?_ _ | refine blk_drew ?_ | refine blk_alloc ?_ _));refine blk_far ?_ NB2_4.out _;(with_reducible repeat (first | refine blk_drewN ?_ _ | refine blk_drew ?_ | refine blk_alloc ?_ _));refine blk_far ?_ NB2_4.out _;(with_reducible repeat (first | refine blk_drewN ?_ _ | refine blk_drew ?_ | refine blk_alloc ?_ _));exact BK2.out) hb);replace BK4:=a0_ (blk_below (g:=gb4) (o:=.cells #[.int .i64 ((rd_T79 l1_0 x5_1).f0),.int .i64 ((rd_T79 l1_0 x5_1).f1),.int .i64 ((rd_T79 l1_0 x5_1).f2),.int .i64 ((rd_T79 l1_0 x5_1).f3),.bool ((rd_T79 l1_0 x5_1).f4)] 79 (0,0)) (by (with_reducible repeat (first | refine blk_drewN ?_ _ | refine blk_drew ?_ | refine blk_alloc ?_ _));refine blk_put (cs:=#[.int .i64 ((rd_T79 l1_0 x5_1).f0),.int .i64 ((rd_T79 l1_0 x5_1).f1),.int .i64 ((rd_T79 l1_0 x5_1).f2),.int .i64 ((rd_T79 l1_0 x5_1).f3),.bool false]) ?_ 4 _ rfl;(with_reducible repeat (first | refine blk_drewN ?_ _ | refine blk_drew ?_ | refine blk_alloc ?_ _));refine blk_put (cs:=#[.int .i64 ((rd_T79 l1_0 x5_1).f0),.int .i64 ((rd_T79 l1_0 x5_1).f1),.int .i64 ((rd_T79 l1_0 x5_1).f2),.int .i64 0,.bool false]) ?_ 3 _ rfl;(with_reducible repeat (first | refine blk_drewN ?_ _ | refine blk_drew ?_ | refine blk_alloc ?_ _));refine blk_put (cs:=#[.int .i64 ((rd_T79 l1_0 x5_1).f0),.int .i64 ((rd_T79 l1_0 x5_1).f1),.int .i64 0,.int .i64 0,.bool false]) ?_ 2 _ rfl;(with_reducible repeat (first | refine blk_drewN ?_ _ | refine blk_drew ?_ | refine blk_alloc ?_ _));refine blk_put (cs:=#[.int .i64 ((rd_T79 l1_0 x5_1).f0),.int .i64 0,.int .i64 0,.int .i64 0,.bool false]) ?_ 1 _ rfl;(with_reducible repeat (first | refine blk_drewN ?_ _ | refine blk_drew ?_ | refine blk_alloc ?_ _));refine blk_put (cs:=#[.int .i64 0,.int .i64 0,.int .i64 0,.int .i64 0,.bool false]) ?_ 0 _ rfl;(with_reducible repeat (first | refine blk_drewN ?_ _ | refine blk_drew ?_ | refine blk_alloc ?_ _));exact BK4.out) hb);replace HB:=a0_ (below_step hb_ hb);(try clear hb);have hcz43_0 : w42.cell? ⟨gb4,0,none⟩ = some (.int .i64 ((rd_T79 l1_0 x5_1).f0)):=(blk_cell BK4.out 0).trans rfl;have hcz43_1 : w42.cell? ⟨gb4,1,none⟩ = some (.int .i64 ((rd_T79 l1_0 x5_1).f1)):=(blk_cell BK4.out 1).trans rfl;have hcz43_2 : w42.cell? ⟨gb4,2,none⟩ = some (.int .i64 ((rd_T79 l1_0 x5_1).f2)):=(blk_cell BK4.out 2).trans rfl;have hcz43_3 : w42.cell? ⟨gb4,3,none⟩ = some (.int .i64 ((rd_T79 l1_0 x5_1).f3)):=(blk_cell BK4.out 3).trans rfl;have hcz43_4 : w42.cell? ⟨gb4,4,none⟩ = some (.bool ((rd_T79 l1_0 x5_1).f4)):=(blk_cell BK4.out 4).trans rfl;have hfz43_0:=blk_frozen BK4.out 0;have hfz43_1:=blk_frozen BK4.out 1;have hfz43_2:=blk_frozen BK4.out 2;have hfz43_3:=blk_frozen BK4.out 3;have hfz43_4:=blk_frozen BK4.out 4) | (go_at_call 89;(with_reducible refine (spec_inRange.calls ((rd_T79 l1_0 x5_1).f1) 0 99 false _ A9.out).mono ?_);rintro e w' ⟨rfl,⟨nd,rfl⟩⟩;(try first | exact ⟨rfl,_,World.drewN_drewN _ _ _⟩ | exact ⟨rfl,_,Eq.trans (World.drewN_drewN _ _ _) (congrArg (World.drewN _) (Nat.add_assoc _ _ _))⟩))))
       go_ret
       exact ⟨by first | rfl | (simp [errW_none,errW_some] <;> rfl) | (simp [*,errW_none,errW_some] <;> rfl),hb_⟩
     ·replace c8:=Bool.eq_false_iff.mpr c8
      subst c8
      have H1 : (some false) = some r:=by rw [if_neg (show ¬ (false = true) by decide)] at H;exact H
      clear H
      have H:=H1
      clear H1
      obtain rfl:=Option.some.inj H
      have hnb44:=NB2_1.out
      have hnc44:=NB1_2.out
      have hcz45_0 : wr.cell? ⟨gb2,0,none⟩ = some (.slice A1_0 l1_0.length c1_0):=(blk_cell BK2.out 0).trans rfl
      have hfz45_0:=blk_frozen BK2.out 0
      have p3 : 0 ≤ (x5_1 : Int):=of_decide_eq_true (by first | (with_reducible assumption) | assumption)
      have q3 : x5_1 < (l1_0.length : Int):=of_decide_eq_true (by first | (with_reducible assumption) | assumption)
      obtain ⟨ad3,e3,hx3_0,hx3_1,hx3_2,hx3_3,hx3_4⟩:=at_T79 HR1_0.out x5_1 p3 q3
      cases e3
      replace hx3_0:=(HB.out.cell (World.block_lt_of_cell? w _ hx3_0)).trans hx3_0
      replace hx3_1:=(HB.out.cell (World.block_lt_of_cell? w _ hx3_1)).trans hx3_1
      replace hx3_2:=(HB.out.cell (World.block_lt_of_cell? w _ hx3_2)).trans hx3_2
      replace hx3_3:=(HB.out.cell (World.block_lt_of_cell? w _ hx3_3)).trans hx3_3
      replace hx3_4:=(HB.out.cell (World.block_lt_of_cell? w _ hx3_4)).trans hx3_4
      replace p3:=eq_true p3
      replace q3:=eq_true q3
      go_wp2_with (first | ((with_reducible refine gate_dst (N:=6) rfl ?_);(try (refine gate_guard (by rfl) ?_;dsimp only));refine box_event ?hg (N:=6) ?hd (cs:=#[.int .i64 0,.int .i64 0,.int .i64 0,.int .i64 0,.bool false]) (t:=79) ?hr ?_;(case hd=>rfl);(case hg=>rfl);(case hr=>first | (go_simp;done) | (go_simp;rfl));intro gb4 hg w46 hbox hb;have n0_:=kb_ BK1 hb;have n1_:=kb_ BK2 hb;have n2_:=a0_ (below_step hb_ hb);have n3_:=a0_ (hbox);have n4_:=a0_ ((by rw [hg];exact (below_size hb_) : w.heap.size ≤ gb4));have n5_:=a0_ ((by rw [hg];exact (below_size hb_) : w.heap.size ≤ gb4));have n6_:=a0_ ((by rw [hg];exact Nat.ne_of_lt (blk_lt (bb_ BK1.out)) : gb1 ≠ gb4));have n7_:=a0_ ((by rw [hg];exact Nat.ne_of_gt (blk_lt (bb_ BK1.out)) : gb4 ≠ gb1));have n8_:=a0_ ((by rw [hg];exact Nat.ne_of_lt (blk_lt (bb_ BK2.out)) : gb2 ≠ gb4));have n9_:=a0_ ((by rw [hg];exact Nat.ne_of_gt (blk_lt (bb_ BK2.out)) : gb4 ≠ gb2));clear BK1 BK2 HB;have BK1:=n0_;have BK2:=n1_;have HB:=n2_;have BK4:=n3_;have GW4:=n4_;have GE4:=n5_;have NB1_4:=n6_;have NB4_1:=n7_;have NB2_4:=n8_;have NB4_2:=n9_;clear n0_ n1_ n2_ n3_ n4_ n5_ n6_ n7_ n8_ n9_;clear hb hbox hg;have hnb47:=NB4_1.out;have hnc47:=NB1_4.out;have hnb48:=NB4_2.out;have hnc48:=NB2_4.out;have hcz49_0 : w46.cell? ⟨gb4,0,none⟩ = some (.int .i64 0):=(blk_cell BK4.out 0).trans rfl;have hcz49_1 : w46.cell? ⟨gb4,1,none⟩ = some (.int .i64 0):=(blk_cell BK4.out 1).trans rfl;have hcz49_2 : w46.cell? ⟨gb4,2,none⟩ = some (.int .i64 0):=(blk_cell BK4.out 2).trans rfl;have hcz49_3 : w46.cell? ⟨gb4,3,none⟩ = some (.int .i64 0):=(blk_cell BK4.out 3).trans rfl;have hcz49_4 : w46.cell? ⟨gb4,4,none⟩ = some (.bool false):=(blk_cell BK4.out 4).trans rfl;have hfz49_0:=blk_frozen BK4.out 0;have hfz49_1:=blk_frozen BK4.out 1;have hfz49_2:=blk_frozen BK4.out 2;have hfz49_3:=blk_frozen BK4.out 3;have hfz49_4:=blk_frozen BK4.out 4;have hcz50_0 : w46.cell? ⟨gb1,0,none⟩ = some (.slice A0_0 l0_0.length c0_0):=(blk_cell BK1.out 0).trans rfl;have hfz50_0:=blk_frozen BK1.out 0) | (go_at_call 88;(with_reducible refine (spec_hasClass.calls _ _ l0_0 ((rd_T79 l1_0 x5_1).f0) false _ ?side1 ?side2 A7.out).mono ?_);(case side1=>exact Kd.C_below HR0_0.out hb_);(case side2=>exact HC0_0.out);rintro e w51 ⟨rfl,hb⟩;replace BK1:=a0_ (blk_below (g:=gb1) (o:=.cells #[.slice A0_0 l0_0.length c0_0] 33 (0,0)) (by (with_reducible repeat (first | refine blk_drewN ?_ _ | refine blk_drew ?_ | refine blk_alloc ?_ _));refine blk_far ?_ NB1_4.out _;(with_reducible repeat (first | refine blk_drewN ?_ _ | refine blk_drew ?_ | refine blk_alloc ?_ _));refine blk_far ?_ NB1_4.out _;(with_reducible repeat (first | refine blk_drewN ?_ _ | refine blk_drew ?_ | refine blk_alloc ?_ _));refine blk_far ?_ NB1_4.out _;(with_reducible repeat (first | refine blk_drewN ?_ _ | refine blk_drew ?_ | refine blk_alloc ?_ _));refine blk_far ?_ NB1_4.out _;(with_reducible repeat (first | refine blk_drewN ?_ _ | refine blk_drew ?_ | refine blk_alloc ?_ _));refine blk_far ?_ NB1_4.out _;(with_reducible repeat (first | refine blk_drewN ?_ _ | refine blk_drew ?_ | refine blk_alloc ?_ _));exact BK1.out) hb);replace BK2:=a0_ (blk_below (g:=gb2) (o:=.cells #[.slice (some ad3) l1_0.length c1_0] 37 (0,0)) (by (with_reducible repeat (first | refine blk_drewN ?_ _ | refine blk_drew ?_ | refine blk_alloc ?_ _));refine blk_far ?_ NB2_4.out _;(with_reducible repeat (first | refine blk_drewN ?_ _ | refine blk_drew ?_ | refine blk_alloc ?_ _));refine blk_far ?_ NB2_4.out _;(with_reducible repeat (first | refine blk_drewN ?_ _ | refine blk_drew ?_ | refine blk_alloc ?_ _));refine blk_far ?_ NB2_4.out _;(with_reducible repeat (first | refine blk_drewN ?_ _ | refine blk_drew ?_ | refine blk_alloc ?_ _));refine blk_far ?_ NB2_4.out _;(with_reducible repeat (first | refine blk_drewN ?_ _ | refine blk_drew ?_ | refine blk_alloc ?_ _));refine blk_far ?_ NB2_4.out _;(with_reducible repeat (first | refine blk_drewN ?_ _ | refine blk_drew ?_ | refine blk_alloc ?_ _));exact BK2.out) hb);replace BK4:=a0_ (blk_below (g:=gb4) (o:=.cells #[.int .i64 ((rd_T79 l1_0 x5_1).f0),.int .i64 ((rd_T79 l1_0 x5_1).f1),.int .i64 ((rd_T79 l1_0 x5_1).f2),.int .i64 ((rd_T79 l1_0 x5_1).f3),.bool ((rd_T79 l1_0 x5_1).f4)] 79 (0,0)) (by (with_reducible repeat (first | refine blk_drewN ?_ _ | refine blk_drew ?_ | refine blk_alloc ?_ _));refine blk_put (cs:=#[.int .i64 ((rd_T79 l1_0 x5_1).f0),.int .i64 ((rd_T79 l1_0 x5_1).f1),.int .i64 ((rd_T79 l1_0 x5_1).f2),.int .i64 ((rd_T79 l1_0 x5_1).f3),.bool false]) ?_ 4 _ rfl;(with_reducible repeat (first | refine blk_drewN ?_ _ | refine blk_drew ?_ | refine blk_alloc ?_ _));refine blk_put (cs:=#[.int .i64 ((rd_T79 l1_0 x5_1).f0),.int .i64 ((rd_T79 l1_0 x5_1).f1),.int .i64 ((rd_T79 l1_0 x5_1).f2),.int .i64 0,.bool false]) ?_ 3 _ rfl;(with_reducible repeat (first | refine blk_drewN ?_ _ | refine blk_drew ?_ | refine blk_alloc ?_ _));refine blk_put (cs:=#[.int .i64 ((rd_T79 l1_0 x5_1).f0),.int .i64 ((rd_T79 l1_0 x5_1).f1),.int .i64 0,.int .i64 0,.bool false]) ?_ 2 _ rfl;(with_reducible repeat (first | refine blk_drewN ?_ _ | refine blk_drew ?_ | refine blk_alloc ?_ _));refine blk_put (cs:=#[.int .i64 ((rd_T79 l1_0 x5_1).f0),.int .i64 0,.int .i64 0,.int .i64 0,.bool false]) ?_ 1 _ rfl;(with_reducible repeat (first | refine blk_drewN ?_ _ | refine blk_drew ?_ | refine blk_alloc ?_ _));refine blk_put (cs:=#[.int .i64 0,.int .i64 0,.int .i64 0,.int .i64 0,.bool false]) ?_ 0 _ rfl;(with_reducible repeat (first | refine blk_drewN ?_ _ | refine blk_drew ?_ | refine blk_alloc ?_ _));exact BK4.out) hb);replace HB:=a0_ (below_step hb_ hb);(try clear hb);(try clear hb2);(try clear hk);(try clear hi)))
      repeat (go_quiet (first | ((with_reducible refine gate_dst (N:=6) rfl ?_);(try (refine gate_guard (by rfl) ?_;dsimp only));refine box_event ?hg (N:=6) ?hd (cs:=#[.int .i64 0,.int .i64 0,.int .i64 0,.int .i64 0,.bool false]) (t:=79) ?hr ?_;(case hd=>rfl);(case hg=>rfl);(case hr=>first | (go_simp;done) | (go_simp;rfl));intro gb4 hg w46 hbox hb;have n0_:=kb_ BK1 hb;have n1_:=kb_ BK2 hb;have n2_:=a0_ (below_step hb_ hb);have n3_:=a0_ (hbox);have n4_:=a0_ ((by rw [hg];exact (below_size hb_) : w.heap.size ≤ gb4));have n5_:=a0_ ((by rw [hg];exact (below_size hb_) : w.heap.size ≤ gb4));have n6_:=a0_ ((by rw [hg];exact Nat.ne_of_lt (blk_lt (bb_ BK1.out)) : gb1 ≠ gb4));have n7_:=a0_ ((by rw [hg];exact Nat.ne_of_gt (blk_lt (bb_ BK1.out)) : gb4 ≠ gb1));have n8_:=a0_ ((by rw [hg];exact Nat.ne_of_lt (blk_lt (bb_ BK2.out)) : gb2 ≠ gb4));have n9_:=a0_ ((by rw [hg];exact Nat.ne_of_gt (blk_lt (bb_ BK2.out)) : gb4 ≠ gb2));clear BK1 BK2 HB;have BK1:=n0_;have BK2:=n1_;have HB:=n2_;have BK4:=n3_;have GW4:=n4_;have GE4:=n5_;have NB1_4:=n6_;have NB4_1:=n7_;have NB2_4:=n8_;have NB4_2:=n9_;clear n0_ n1_ n2_ n3_ n4_ n5_ n6_ n7_ n8_ n9_;clear hb hbox hg;have hnb47:=NB4_1.out;have hnc47:=NB1_4.out;have hnb48:=NB4_2.out;have hnc48:=NB2_4.out;have hcz49_0 : w46.cell? ⟨gb4,0,none⟩ = some (.int .i64 0):=(blk_cell BK4.out 0).trans rfl;have hcz49_1 : w46.cell? ⟨gb4,1,none⟩ = some (.int .i64 0):=(blk_cell BK4.out 1).trans rfl;have hcz49_2 : w46.cell? ⟨gb4,2,none⟩ = some (.int .i64 0):=(blk_cell BK4.out 2).trans rfl;have hcz49_3 : w46.cell? ⟨gb4,3,none⟩ = some (.int .i64 0):=(blk_cell BK4.out 3).trans rfl;have hcz49_4 : w46.cell? ⟨gb4,4,none⟩ = some (.bool false):=(blk_cell BK4.out 4).trans rfl;have hfz49_0:=blk_frozen BK4.out 0;have hfz49_1:=blk_frozen BK4.out 1;have hfz49_2:=blk_frozen BK4.out 2;have hfz49_3:=blk_frozen BK4.out 3;have hfz49_4:=blk_frozen BK4.out 4;have hcz50_0 : w46.cell? ⟨gb1,0,none⟩ = some (.slice A0_0 l0_0.length c0_0):=(blk_cell BK1.out 0).trans rfl;have hfz50_0:=blk_frozen BK1.out 0) | (go_at_call 88;(with_reducible refine (spec_hasClass.calls _ _ l0_0 ((rd_T79 l1_0 x5_1).f0) false _ ?side1 ?side2 A7.out).mono ?_);(case side1=>exact Kd.C_below HR0_0.out hb_);(case side2=>exact HC0_0.out);rintro e w51 ⟨rfl,hb⟩;replace BK1:=a0_ (blk_below (g:=gb1) (o:=.cells #[.slice A0_0 l0_0.length c0_0] 33 (0,0)) (by (with_reducible repeat (first | refine blk_drewN ?_ _ | refine blk_drew ?_ | refine blk_alloc ?_ _));refine blk_far ?_ NB1_4.out _;(with_reducible repeat (first | refine blk_drewN ?_ _ | refine blk_drew ?_ | refine blk_alloc ?_ _));refine blk_far ?_ NB1_4.out _;(with_reducible repeat (first | refine blk_drewN ?_ _ | refine blk_drew ?_ | refine blk_alloc ?_ _));refine blk_far ?_ NB1_4.out _;(with_reducible repeat (first | refine blk_drewN ?_ _ | refine blk_drew ?_ | refine blk_alloc ?_ _));refine blk_far ?_ NB1_4.out _;(with_reducible repeat (first | refine blk_drewN ?_ _ | refine blk_drew ?_ | refine blk_alloc ?_ _));refine blk_far ?_ NB1_4.out _;(with_reducible repeat (first | refine blk_drewN ?_ _ | refine blk_drew ?_ | refine blk_alloc ?_ _));exact BK1.out) hb);replace BK2:=a0_ (blk_below (g:=gb2) (o:=.cells #[.slice (some ad3) l1_0.length c1_0] 37 (0,0)) (by (with_reducible repeat (first | refine blk_drewN ?_ _ | refine blk_drew ?_ | refine blk_alloc ?_ _));refine blk_far ?_ NB2_4.out _;(with_reducible repeat (first | refine blk_drewN ?_ _ | refine blk_drew ?_ | refine blk_alloc ?_ _));refine blk_far ?_ NB2_4.out _;(with_reducible repeat (first | refine blk_drewN ?_ _ | refine blk_drew ?_ | refine blk_alloc ?_ _));refine blk_far ?_ NB2_4.out _;(with_reducible repeat (first | refine blk_drewN ?_ _ | refine blk_drew ?_ | refine blk_alloc ?_ _));refine blk_far ?_ NB2_4.out _;(with_reducible repeat (first | refine blk_drewN ?_ _ | refine blk_drew ?_ | refine blk_alloc ?_ _));refine blk_far ?_ NB2_4.out _;(with_reducible repeat (first | refine blk_drewN ?_ _ | refine blk_drew ?_ | refine blk_alloc ?_ _));exact BK2.out) hb);replace BK4:=a0_ (blk_below (g:=gb4) (o:=.cells #[.int .i64 ((rd_T79 l1_0 x5_1).f0),.int .i64 ((rd_T79 l1_0 x5_1).f1),.int .i64 ((rd_T79 l1_0 x5_1).f2),.int .i64 ((rd_T79 l1_0 x5_1).f3),.bool ((rd_T79 l1_0 x5_1).f4)] 79 (0,0)) (by (with_reducible repeat (first | refine blk_drewN ?_ _ | refine blk_drew ?_ | refine blk_alloc ?_ _));refine blk_put (cs:=#[.int .i64 ((rd_T79 l1_0 x5_1).f0),.int .i64 ((rd_T79 l1_0 x5_1).f1),.int .i64 ((rd_T79 l1_0 x5_1).f2),.int .i64 ((rd_T79 l1_0 x5_1).f3),.bool false]) ?_ 4 _ rfl;(with_reducible repeat (first | refine blk_drewN ?_ _ | refine blk_drew ?_ | refine blk_alloc ?_ _));refine blk_put (cs:=#[.int .i64 ((rd_T79 l1_0 x5_1).f0),.int .i64 ((rd_T79 l1_0 x5_1).f1),.int .i64 ((rd_T79 l1_0 x5_1).f2),.int .i64 0,.bool false]) ?_ 3 _ rfl;(with_reducible repeat (first | refine blk_drewN ?_ _ | refine blk_drew ?_ | refine blk_alloc ?_ _));refine blk_put (cs:=#[.int .i64 ((rd_T79 l1_0 x5_1).f0),.int .i64 ((rd_T79 l1_0 x5_1).f1),.int .i64 0,.int .i64 0,.bool false]) ?_ 2 _ rfl;(with_reducible repeat (first | refine blk_drewN ?_ _ | refine blk_drew ?_ | refine blk_alloc ?_ _));refine blk_put (cs:=#[.int .i64 ((rd_T79 l1_0 x5_1).f0),.int .i64 0,.int .i64 0,.int .i64 0,.bool false]) ?_ 1 _ rfl;(with_reducible repeat (first | refine blk_drewN ?_ _ | refine blk_drew ?_ | refine blk_alloc ?_ _));refine blk_put (cs:=#[.int .i64 0,.int .i64 0,.int .i64 0,.int .i64 0,.bool false]) ?_ 0 _ rfl;(with_reducible repeat (first | refine blk_drewN ?_ _ | refine blk_drew ?_ | refine blk_alloc ?_ _));exact BK4.out) hb);replace HB:=a0_ (below_step hb_ hb);(try clear hb);(try clear hb2);(try clear hk);(try clear hi)));try go_wp2_with (first | ((with_reducible refine gate_dst (N:=6) rfl ?_);(try (refine gate_guard (by rfl) ?_;dsimp only));refine box_event ?hg (N:=6) ?hd (cs:=#[.int .i64 0,.int .i64 0,.int .i64 0,.int .i64 0,.bool false]) (t:=79) ?hr ?_;(case hd=>rfl);(case hg=>rfl);(case hr=>first | (go_simp;done) | (go_simp;rfl));intro gb4 hg w46 hbox hb;have n0_:=kb_ BK1 hb;have n1_:=kb_ BK2 hb;have n2_:=a0_ (below_step hb_ hb);have n3_:=a0_ (hbox);have n4_:=a0_ ((by rw [hg];exact (below_size hb_) : w.heap.size ≤ gb4));have n5_:=a0_ ((by rw [hg];exact (below_size hb_) : w.heap.size ≤ gb4));have n6_:=a0_ ((by rw [hg];exact Nat.ne_of_lt (blk_lt (bb_ BK1.out)) : gb1 ≠ gb4));have n7_:=a0_ ((by rw [hg];exact Nat.ne_of_gt (blk_lt (bb_ BK1.out)) : gb4 ≠ gb1));have n8_:=a0_ ((by rw [hg];exact Nat.ne_of_lt (blk_lt (bb_ BK2.out)) : gb2 ≠ gb4));have n9_:=a0_ ((by rw [hg];exact Nat.ne_of_gt (blk_lt (bb_ BK2.out)) : gb4 ≠ gb2));clear BK1 BK2 HB;have BK1:=n0_;have BK2:=n1_;have HB:=n2_;have BK4:=n3_;have GW4:=n4_;have GE4:=n5_;have NB1_4:=n6_;have NB4_1:=n7_;have NB2_4:=n8_;have NB4_2:=n9_;clear n0_ n1_ n2_ n3_ n4_ n5_ n6_ n7_ n8_ n9_;clear hb hbox hg;have hnb47:=NB4_1.out;have hnc47:=NB1_4.out;have hnb48:=NB4_2.out;have hnc48:=NB2_4.out;have hcz49_0 : w46.cell? ⟨gb4,0,none⟩ = some (.int .i64 0):=(blk_cell BK4.out 0).trans rfl;have hcz49_1 : w46.cell? ⟨gb4,1,none⟩ = some (.int .i64 0):=(blk_cell BK4.out 1).trans rfl;have hcz49_2 : w46.cell? ⟨gb4,2,none⟩ = some (.int .i64 0):=(blk_cell BK4.out 2).trans rfl;have hcz49_3 : w46.cell? ⟨gb4,3,none⟩ = some (.int .i64 0):=(blk_cell BK4.out 3).trans rfl;have hcz49_4 : w46.cell? ⟨gb4,4,none⟩ = some (.bool false):=(blk_cell BK4.out 4).trans rfl;have hfz49_0:=blk_frozen BK4.out 0;have hfz49_1:=blk_frozen BK4.out 1;have hfz49_2:=blk_frozen BK4.out 2;have hfz49_3:=blk_frozen BK4.out 3;have hfz49_4:=blk_frozen BK4.out 4;have hcz50_0 : w46.cell? ⟨gb1,0,none⟩ = some (.slice A0_0 l0_0.length c0_0):=(blk_cell BK1.out 0).trans rfl;have hfz50_0:=blk_frozen BK1.out 0) | (go_at_call 88;(with_reducible refine (spec_hasClass.calls _ _ l0_0 ((rd_T79 l1_0 x5_1).f0) false _ ?side1 ?side2 A7.out).mono ?_);(case side1=>exact Kd.C_below HR0_0.out hb_);(case side2=>exact HC0_0.out);rintro e w51 ⟨rfl,hb⟩;replace BK1:=a0_ (blk_below (g:=gb1) (o:=.cells #[.slice A0_0 l0_0.length c0_0] 33 (0,0)) (by (with_reducible repeat (first | refine blk_drewN ?_ _ | refine blk_drew ?_ | refine blk_alloc ?_ _));refine blk_far ?_ NB1_4.out _;(with_reducible repeat (first | refine blk_drewN ?_ _ | refine blk_drew ?_ | refine blk_alloc ?_ _));refine blk_far ?_ NB1_4.out _;(with_reducible repeat (first | refine blk_drewN ?_ _ | refine blk_drew ?_ | refine blk_alloc ?_ _));refine blk_far ?_ NB1_4.out _;(with_reducible repeat (first | refine blk_drewN ?_ _ | refine blk_drew ?_ | refine blk_alloc ?_ _));refine blk_far ?_ NB1_4.out _;(with_reducible repeat (first | refine blk_drewN ?_ _ | refine blk_drew ?_ | refine blk_alloc ?_ _));refine blk_far ?_ NB1_4.out _;(with_reducible repeat (first | refine blk_drewN ?_ _ | refine blk_drew ?_ | refine blk_alloc ?_ _));exact BK1.out) hb);replace BK2:=a0_ (blk_below (g:=gb2) (o:=.cells #[.slice (some ad3) l1_0.length c1_0] 37 (0,0)) (by (with_reducible repeat (first | refine blk_drewN ?_ _ | refine blk_drew ?_ | refine blk_alloc ?_ _));refine blk_far ?_ NB2_4.out _;(with_reducible repeat (first | refine blk_drewN ?_ _ | refine blk_drew ?_ | refine blk_alloc ?_ _));refine blk_far ?_ NB2_4.out _;(with_reducible repeat (first | refine blk_drewN ?_ _ | refine blk_drew ?_ | refine blk_alloc ?_ _));refine blk_far ?_ NB2_4.out _;(with_reducible repeat (first | refine blk_drewN ?_ _ | refine blk_drew ?_ | refine blk_alloc ?_ _));refine blk_far ?_ NB2_4.out _;(with_reducible repeat (first | refine blk_drewN ?_ _ | refine blk_drew ?_ | refine blk_alloc ?_ _));refine blk_far ?_ NB2_4.out _;(with_reducible repeat (first | refine blk_drewN ?_ _ | refine blk_drew ?_ | refine blk_alloc ?_ _));exact BK2.out) hb);replace BK4:=a0_ (blk_below (g:=gb4) (o:=.cells #[.int .i64 ((rd_T79 l1_0 x5_1).f0),.int .i64 ((rd_T79 l1_0 x5_1).f1),.int .i64 ((rd_T79 l1_0 x5_1).f2),.int .i64 ((rd_T79 l1_0 x5_1).f3),.bool ((rd_T79 l1_0 x5_1).f4)] 79 (0,0)) (by (with_reducible repeat (first | refine blk_drewN ?_ _ | refine blk_drew ?_ | refine blk_alloc ?_ _));refine blk_put (cs:=#[.int .i64 ((rd_T79 l1_0 x5_1).f0),.int .i64 ((rd_T79 l1_0 x5_1).f1),.int .i64 ((rd_T79 l1_0 x5_1).f2),.int .i64 ((rd_T79 l1_0 x5_1).f3),.bool false]) ?_ 4 _ rfl;(with_reducible repeat (first | refine blk_drewN ?_ _ | refine blk_drew ?_ | refine blk_alloc ?_ _));refine blk_put (cs:=#[.int .i64 ((rd_T79 l1_0 x5_1).f0),.int .i64 ((rd_T79 l1_0 x5_1).f1),.int .i64 ((rd_T79 l1_0 x5_1).f2),.int .i64 0,.bool false]) ?_ 3 _ rfl;(with_reducible repeat (first | refine blk_drewN ?_ _ | refine blk_drew ?_ | refine blk_alloc ?_ _));refine blk_put (cs:=#[.int .i64 ((rd_T79 l1_0 x5_1).f0),.int .i64 ((rd_T79 l1_0 x5_1).f1),.int .i64 0,.int .i64 0,.bool false]) ?_ 2 _ rfl;(with_reducible repeat (first | refine blk_drewN ?_ _ | refine blk_drew ?_ | refine blk_alloc ?_ _));refine blk_put (cs:=#[.int .i64 ((rd_T79 l1_0 x5_1).f0),.int .i64 0,.int .i64 0,.int .i64 0,.bool false]) ?_ 1 _ rfl;(with_reducible repeat (first | refine blk_drewN ?_ _ | refine blk_drew ?_ | refine blk_alloc ?_ _));refine blk_put (cs:=#[.int .i64 0,.int .i64 0,.int .i64 0,.int .i64 0,.bool false]) ?_ 0 _ rfl;(with_reducible repeat (first | refine blk_drewN ?_ _ | refine blk_drew ?_ | refine blk_alloc ?_ _));exact BK4.out) hb);replace HB:=a0_ (below_step hb_ hb);(try clear hb);(try clear hb2);(try clear hk);(try clear hi))))
      go_ret
      exact ⟨by first | rfl | (simp [errW_none,errW_some] <;> rfl) | (simp [*,errW_none,errW_some] <;> rfl),hb_⟩
    ·rw [if_neg c6] at H
     exact absurd H (by simp)
   ·rw [if_neg c5] at H
    have c5b0 : decide (x5_1 < (l1_0.length : Int)) = false:=decide_eq_false c5
    clear c5
    have H':=a0_ H
    clear H
    have hnb52:=NB2_1.out
    have hnc52:=NB1_2.out
    have hcz53_0 : wr.cell? ⟨gb2,0,none⟩ = some (.slice A1_0 l1_0.length c1_0):=(blk_cell BK2.out 0).trans rfl
    have hfz53_0:=blk_frozen BK2.out 0
    go_wp2
    repeat (go_quiet (fail);try go_wp2)
    go_loopg [7] k1 (fun kq v7 w'=>∃ (x7_2 : Int),v7 = .int .i64 x7_2 ∧ Aside0 (spec_validHeap.l1 kq x7_2 l0_0 l1_0 = some r) ∧ Aside0 (kq ≤ k1) ∧ Aside0 (w'.heap[gb1]? = some (.cells #[(.slice A0_0 l0_0.length c0_0)] 33 (0,0))) ∧ Aside0 (w'.heap[gb2]? = some (.cells #[(.slice A1_0 l1_0.length c1_0)] 37 (0,0))) ∧ Aside0 (Below w.heap.size w w'))
    case atStart=>exact ⟨(0),(by first | rfl | (simp;done) | (simp [*];done)),H',⟨Nat.le_refl _⟩,⟨by (with_reducible repeat (first | refine blk_drewN ?_ _ | refine blk_drew ?_ | refine blk_alloc ?_ _));exact BK1.out⟩,⟨by (with_reducible repeat (first | refine blk_drewN ?_ _ | refine blk_drew ?_ | refine blk_alloc ?_ _));exact BK2.out⟩,⟨hb_⟩⟩
    case round =>
     clear H'
     try clear c1
     try clear c2
     try clear p2
     try clear c3
     try clear p3
     try clear q3
     try clear hx3
     try clear c4
     try clear c5
     try clear c5b0
     try clear c6
     try clear c6b0
     try clear p6
     try clear c8
     try clear c10
     try clear c12
     try clear c13
     try clear c16
     try clear c17
     try clear c24
     try clear c27
     try clear c28
     try clear c35
     try clear c38
     try clear c39
     try clear c44
     try clear c47
     try clear c48
     try clear c52
     try clear hcz14_0
     try clear hcz18_0
     try clear hcz18_1
     try clear hcz18_2
     try clear hcz18_3
     try clear hcz18_4
     try clear hcz19_0
     try clear hcz21_0
     try clear hcz21_1
     try clear hcz21_2
     try clear hcz21_3
     try clear hcz21_4
     try clear hcz22_0
     try clear hcz25_0
     try clear hcz29_0
     try clear hcz29_1
     try clear hcz29_2
     try clear hcz29_3
     try clear hcz29_4
     try clear hcz30_0
     try clear hcz32_0
     try clear hcz32_1
     try clear hcz32_2
     try clear hcz32_3
     try clear hcz32_4
     try clear hcz33_0
     try clear hcz36_0
     try clear hcz40_0
     try clear hcz40_1
     try clear hcz40_2
     try clear hcz40_3
     try clear hcz40_4
     try clear hcz41_0
     try clear hcz43_0
     try clear hcz43_1
     try clear hcz43_2
     try clear hcz43_3
     try clear hcz43_4
     try clear hcz45_0
     try clear hcz49_0
     try clear hcz49_1
     try clear hcz49_2
     try clear hcz49_3
     try clear hcz49_4
     try clear hcz50_0
     try clear hcz53_0
     try clear hfz14_0
     try clear hfz18_0
     try clear hfz18_1
     try clear hfz18_2
     try clear hfz18_3
     try clear hfz18_4
     try clear hfz19_0
     try clear hfz21_0
     try clear hfz21_1
     try clear hfz21_2
     try clear hfz21_3
     try clear hfz21_4
     try clear hfz22_0
     try clear hfz25_0
     try clear hfz29_0
     try clear hfz29_1
     try clear hfz29_2
     try clear hfz29_3
     try clear hfz29_4
     try clear hfz30_0
     try clear hfz32_0
     try clear hfz32_1
     try clear hfz32_2
     try clear hfz32_3
     try clear hfz32_4
     try clear hfz33_0
     try clear hfz36_0
     try clear hfz40_0
     try clear hfz40_1
     try clear hfz40_2
     try clear hfz40_3
     try clear hfz40_4
     try clear hfz41_0
     try clear hfz43_0
     try clear hfz43_1
     try clear hfz43_2
     try clear hfz43_3
     try clear hfz43_4
     try clear hfz45_0
     try clear hfz49_0
     try clear hfz49_1
     try clear hfz49_2
     try clear hfz49_3
     try clear hfz49_4
     try clear hfz50_0
     try clear hfz53_0
     try clear hx3_0
     try clear hx3_1
     try clear hx3_2
     try clear hx3_3
     try clear hx3_4
     try clear p2
     try clear p3
     try clear q3
     obtain ⟨x7_2,rfl,HA,HK2,BK1,BK2,HB⟩:=hrel
     cases gk with
     | zero=>exact absurd HA.out (by simp [spec_validHeap.l1])
     | succ k2 =>
      have H:=HA.out
      clear HA
      simp only [spec_validHeap.l1] at H
      by_cases c54 : x7_2 < (l1_0.length : Int)
      ·rw [if_pos c54] at H
       have c54b0 : decide (x7_2 < (l1_0.length : Int)) = true:=decide_eq_true c54
       clear c54
       replace H:=Option.bind_eq_some_iff.mp H
       obtain ⟨t8,A550,H⟩:=H
       replace H : (if 0 ≤ (wrap64 ((t8.length : Int) - 1)) then (if (wrap64 ((t8.length : Int) - 1)) < (t8.length : Int) then (if 0 ≤ (rd t8 (wrap64 ((t8.length : Int) - 1))) then (if (rd t8 (wrap64 ((t8.length : Int) - 1))) < (l1_0.length : Int) then (if ((rd_T79 l1_0 (rd t8 (wrap64 ((t8.length : Int) - 1)))).f3) ≥ 0 then (some false) else (spec_validHeap.l1 k2 (wrap64 (x7_2 + 1)) l0_0 l1_0)) else (none)) else (none)) else (none)) else (none)) = some r:=H
       have A55:=a0_ A550
       clear A550
       obtain ⟨ji56,hji56⟩ : ∃ j_ : Int,(wrap64 ((t8.length : Int) - 1)) = j_:=⟨_,rfl⟩
       replace H : (if 0 ≤ (ji56) then (if (ji56) < (t8.length : Int) then (if 0 ≤ (rd t8 (ji56)) then (if (rd t8 (ji56)) < (l1_0.length : Int) then (if ((rd_T79 l1_0 (rd t8 (ji56))).f3) ≥ 0 then (some false) else (spec_validHeap.l1 k2 (wrap64 (x7_2 + 1)) l0_0 l1_0)) else (none)) else (none)) else (none)) else (none)) = some r:=by first | (rw [hji56] at H;exact H) | (simp only [hji56] at H ⊢;exact H)
       (try rw [hji56] at A55)
       have hji56w : (IntKind.i64.wrap ((t8.length : Int) - 1)) = ji56:=(i64_w _).trans hji56
       by_cases c57 : 0 ≤ (ji56)
       ·rw [if_pos c57] at H
        have c57b0 : decide (0 ≤ (ji56)) = true:=decide_eq_true c57
        clear c57
        by_cases c58 : (ji56) < (t8.length : Int)
        ·rw [if_pos c58] at H
         have c58b0 : decide ((ji56) < (t8.length : Int)) = true:=decide_eq_true c58
         clear c58
         by_cases c59 : 0 ≤ (rd t8 (ji56))
         ·rw [if_pos c59] at H
          have c59b0 : decide (0 ≤ (rd t8 (ji56))) = true:=decide_eq_true c59
          clear c59
          by_cases c60 : (rd t8 (ji56)) < (l1_0.length : Int)
          ·rw [if_pos c60] at H
           have c60b0 : decide ((rd t8 (ji56)) < (l1_0.length : Int)) = true:=decide_eq_true c60
           clear c60
           by_cases c61 : ((rd_T79 l1_0 (rd t8 (ji56))).f3) ≥ 0
           ·rw [if_pos c61] at H
            have c61b0 : decide (0 ≤ ((rd_T79 l1_0 (rd t8 (ji56))).f3)) = true:=decide_eq_true c61
            clear c61
            obtain rfl:=Option.some.inj H
            have hnb62:=NB2_1.out
            have hnc62:=NB1_2.out
            have hcz63_0 : wr.cell? ⟨gb2,0,none⟩ = some (.slice A1_0 l1_0.length c1_0):=(blk_cell BK2.out 0).trans rfl
            have hfz63_0:=blk_frozen BK2.out 0
            go_wp2_with (first | (go_at_call 73;(with_reducible refine (spec_contexts.calls k2 _ _ l1_0 x7_2 t8 _ ?side1 ?side2 A55.out).mono ?_);(case side1=>exact cc_ (Kd.C_below HR1_0.out HB.out));(case side2=>exact HC1_0.out);rintro e w64 ⟨v9,rfl,ho0,hb⟩;have HO10:=a0_ (Kd.R_lower ho0 (below_size hb_));replace BK1:=kb_ BK1 hb;replace BK2:=kb_ BK2 hb;replace HB:=a0_ (below_step hb_ hb);(try clear hb);(try clear ho0);have hcz65_0 : w64.cell? ⟨gb2,0,none⟩ = some (.slice A1_0 l1_0.length c1_0):=(blk_cell BK2.out 0).trans rfl;have hfz65_0:=blk_frozen BK2.out 0;obtain ⟨Ao66,co66,eo66⟩:=Kd.R_slice HO10.out;subst eo66;have p11 : 0 ≤ ((ji56) : Int):=of_decide_eq_true (by first | (with_reducible assumption) | assumption);have q11 : (ji56) < (t8.length : Int):=of_decide_eq_true (by first | (with_reducible assumption) | assumption);obtain ⟨ad11,e11,hx11_0⟩:=Kd.at_int (Kd.R_reads' HO10.out).2.2 (ji56) p11 q11;cases e11;replace p11:=eq_true p11;replace q11:=eq_true q11;have p12 : 0 ≤ ((rd t8 (ji56)) : Int):=of_decide_eq_true (by first | (with_reducible assumption) | assumption);have q12 : (rd t8 (ji56)) < (l1_0.length : Int):=of_decide_eq_true (by first | (with_reducible assumption) | assumption);obtain ⟨ad12,e12,hx12_0,hx12_1,hx12_2,hx12_3,hx12_4⟩:=at_T79 HR1_0.out (rd t8 (ji56)) p12 q12;cases e12;replace hx12_0:=(HB.out.cell (World.block_lt_of_cell? w _ hx12_0)).trans hx12_0;replace hx12_1:=(HB.out.cell (World.block_lt_of_cell? w _ hx12_1)).trans hx12_1;replace hx12_2:=(HB.out.cell (World.block_lt_of_cell? w _ hx12_2)).trans hx12_2;replace hx12_3:=(HB.out.cell (World.block_lt_of_cell? w _ hx12_3)).trans hx12_3;replace hx12_4:=(HB.out.cell (World.block_lt_of_cell? w _ hx12_4)).trans hx12_4;replace p12:=eq_true p12;replace q12:=eq_true q12))
            repeat (go_quiet (first | (go_at_call 73;(with_reducible refine (spec_contexts.calls k2 _ _ l1_0 x7_2 t8 _ ?side1 ?side2 A55.out).mono ?_);(case side1=>exact cc_ (Kd.C_below HR1_0.out HB.out));(case side2=>exact HC1_0.out);rintro e w64 ⟨v9,rfl,ho0,hb⟩;have HO10:=a0_ (Kd.R_lower ho0 (below_size hb_));replace BK1:=kb_ BK1 hb;replace BK2:=kb_ BK2 hb;replace HB:=a0_ (below_step hb_ hb);(try clear hb);(try clear ho0);have hcz65_0 : w64.cell? ⟨gb2,0,none⟩ = some (.slice A1_0 l1_0.length c1_0):=(blk_cell BK2.out 0).trans rfl;have hfz65_0:=blk_frozen BK2.out 0;obtain ⟨Ao66,co66,eo66⟩:=Kd.R_slice HO10.out;subst eo66;have p11 : 0 ≤ ((ji56) : Int):=of_decide_eq_true (by first | (with_reducible assumption) | assumption);have q11 : (ji56) < (t8.length : Int):=of_decide_eq_true (by first | (with_reducible assumption) | assumption);obtain ⟨ad11,e11,hx11_0⟩:=Kd.at_int (Kd.R_reads' HO10.out).2.2 (ji56) p11 q11;cases e11;replace p11:=eq_true p11;replace q11:=eq_true q11;have p12 : 0 ≤ ((rd t8 (ji56)) : Int):=of_decide_eq_true (by first | (with_reducible assumption) | assumption);have q12 : (rd t8 (ji56)) < (l1_0.length : Int):=of_decide_eq_true (by first | (with_reducible assumption) | assumption);obtain ⟨ad12,e12,hx12_0,hx12_1,hx12_2,hx12_3,hx12_4⟩:=at_T79 HR1_0.out (rd t8 (ji56)) p12 q12;cases e12;replace hx12_0:=(HB.out.cell (World.block_lt_of_cell? w _ hx12_0)).trans hx12_0;replace hx12_1:=(HB.out.cell (World.block_lt_of_cell? w _ hx12_1)).trans hx12_1;replace hx12_2:=(HB.out.cell (World.block_lt_of_cell? w _ hx12_2)).trans hx12_2;replace hx12_3:=(HB.out.cell (World.block_lt_of_cell? w _ hx12_3)).trans hx12_3;replace hx12_4:=(HB.out.cell (World.block_lt_of_cell? w _ hx12_4)).trans hx12_4;replace p12:=eq_true p12;replace q12:=eq_true q12));try go_wp2_with (first | (go_at_call 73;(with_reducible refine (spec_contexts.calls k2 _ _ l1_0 x7_2 t8 _ ?side1 ?side2 A55.out).mono ?_);(case side1=>exact cc_ (Kd.C_below HR1_0.out HB.out));(case side2=>exact HC1_0.out);rintro e w64 ⟨v9,rfl,ho0,hb⟩;have HO10:=a0_ (Kd.R_lower ho0 (below_size hb_));replace BK1:=kb_ BK1 hb;replace BK2:=kb_ BK2 hb;replace HB:=a0_ (below_step hb_ hb);(try clear hb);(try clear ho0);have hcz65_0 : w64.cell? ⟨gb2,0,none⟩ = some (.slice A1_0 l1_0.length c1_0):=(blk_cell BK2.out 0).trans rfl;have hfz65_0:=blk_frozen BK2.out 0;obtain ⟨Ao66,co66,eo66⟩:=Kd.R_slice HO10.out;subst eo66;have p11 : 0 ≤ ((ji56) : Int):=of_decide_eq_true (by first | (with_reducible assumption) | assumption);have q11 : (ji56) < (t8.length : Int):=of_decide_eq_true (by first | (with_reducible assumption) | assumption);obtain ⟨ad11,e11,hx11_0⟩:=Kd.at_int (Kd.R_reads' HO10.out).2.2 (ji56) p11 q11;cases e11;replace p11:=eq_true p11;replace q11:=eq_true q11;have p12 : 0 ≤ ((rd t8 (ji56)) : Int):=of_decide_eq_true (by first | (with_reducible assumption) | assumption);have q12 : (rd t8 (ji56)) < (l1_0.length : Int):=of_decide_eq_true (by first | (with_reducible assumption) | assumption);obtain ⟨ad12,e12,hx12_0,hx12_1,hx12_2,hx12_3,hx12_4⟩:=at_T79 HR1_0.out (rd t8 (ji56)) p12 q12;cases e12;replace hx12_0:=(HB.out.cell (World.block_lt_of_cell? w _ hx12_0)).trans hx12_0;replace hx12_1:=(HB.out.cell (World.block_lt_of_cell? w _ hx12_1)).trans hx12_1;replace hx12_2:=(HB.out.cell (World.block_lt_of_cell? w _ hx12_2)).trans hx12_2;replace hx12_3:=(HB.out.cell (World.block_lt_of_cell? w _ hx12_3)).trans hx12_3;replace hx12_4:=(HB.out.cell (World.block_lt_of_cell? w _ hx12_4)).trans hx12_4;replace p12:=eq_true p12;replace q12:=eq_true q12)))
            go_ret
            exact ⟨by first | rfl | (simp [errW_none,errW_some] <;> rfl) | (simp only [← hji56];first | rfl | (simp [errW_none,errW_some] <;> rfl)) | (simp [*,errW_none,errW_some] <;> rfl),hb_⟩
           ·rw [if_neg c61] at H
            have c61b0 : decide (0 ≤ ((rd_T79 l1_0 (rd t8 (ji56))).f3)) = false:=decide_eq_false c61
            clear c61
            have H':=a0_ H
            clear H
            have hnb67:=NB2_1.out
            have hnc67:=NB1_2.out
            have hcz68_0 : wr.cell? ⟨gb2,0,none⟩ = some (.slice A1_0 l1_0.length c1_0):=(blk_cell BK2.out 0).trans rfl
            have hfz68_0:=blk_frozen BK2.out 0
            go_wp2_with (first | (go_at_call 73;(with_reducible refine (spec_contexts.calls k2 _ _ l1_0 x7_2 t8 _ ?side1 ?side2 A55.out).mono ?_);(case side1=>exact cc_ (Kd.C_below HR1_0.out HB.out));(case side2=>exact HC1_0.out);rintro e w69 ⟨v9,rfl,ho0,hb⟩;have HO10:=a0_ (Kd.R_lower ho0 (below_size hb_));replace BK1:=kb_ BK1 hb;replace BK2:=kb_ BK2 hb;replace HB:=a0_ (below_step hb_ hb);(try clear hb);(try clear ho0);have hcz70_0 : w69.cell? ⟨gb2,0,none⟩ = some (.slice A1_0 l1_0.length c1_0):=(blk_cell BK2.out 0).trans rfl;have hfz70_0:=blk_frozen BK2.out 0;obtain ⟨Ao71,co71,eo71⟩:=Kd.R_slice HO10.out;subst eo71;have p11 : 0 ≤ ((ji56) : Int):=of_decide_eq_true (by first | (with_reducible assumption) | assumption);have q11 : (ji56) < (t8.length : Int):=of_decide_eq_true (by first | (with_reducible assumption) | assumption);obtain ⟨ad11,e11,hx11_0⟩:=Kd.at_int (Kd.R_reads' HO10.out).2.2 (ji56) p11 q11;cases e11;replace p11:=eq_true p11;replace q11:=eq_true q11;have p12 : 0 ≤ ((rd t8 (ji56)) : Int):=of_decide_eq_true (by first | (with_reducible assumption) | assumption);have q12 : (rd t8 (ji56)) < (l1_0.length : Int):=of_decide_eq_true (by first | (with_reducible assumption) | assumption);obtain ⟨ad12,e12,hx12_0,hx12_1,hx12_2,hx12_3,hx12_4⟩:=at_T79 HR1_0.out (rd t8 (ji56)) p12 q12;cases e12;replace hx12_0:=(HB.out.cell (World.block_lt_of_cell? w _ hx12_0)).trans hx12_0;replace hx12_1:=(HB.out.cell (World.block_lt_of_cell? w _ hx12_1)).trans hx12_1;replace hx12_2:=(HB.out.cell (World.block_lt_of_cell? w _ hx12_2)).trans hx12_2;replace hx12_3:=(HB.out.cell (World.block_lt_of_cell? w _ hx12_3)).trans hx12_3;replace hx12_4:=(HB.out.cell (World.block_lt_of_cell? w _ hx12_4)).trans hx12_4;replace p12:=eq_true p12;replace q12:=eq_true q12))
            repeat (go_quiet (first | (go_at_call 73;(with_reducible refine (spec_contexts.calls k2 _ _ l1_0 x7_2 t8 _ ?side1 ?side2 A55.out).mono ?_);(case side1=>exact cc_ (Kd.C_below HR1_0.out HB.out));(case side2=>exact HC1_0.out);rintro e w69 ⟨v9,rfl,ho0,hb⟩;have HO10:=a0_ (Kd.R_lower ho0 (below_size hb_));replace BK1:=kb_ BK1 hb;replace BK2:=kb_ BK2 hb;replace HB:=a0_ (below_step hb_ hb);(try clear hb);(try clear ho0);have hcz70_0 : w69.cell? ⟨gb2,0,none⟩ = some (.slice A1_0 l1_0.length c1_0):=(blk_cell BK2.out 0).trans rfl;have hfz70_0:=blk_frozen BK2.out 0;obtain ⟨Ao71,co71,eo71⟩:=Kd.R_slice HO10.out;subst eo71;have p11 : 0 ≤ ((ji56) : Int):=of_decide_eq_true (by first | (with_reducible assumption) | assumption);have q11 : (ji56) < (t8.length : Int):=of_decide_eq_true (by first | (with_reducible assumption) | assumption);obtain ⟨ad11,e11,hx11_0⟩:=Kd.at_int (Kd.R_reads' HO10.out).2.2 (ji56) p11 q11;cases e11;replace p11:=eq_true p11;replace q11:=eq_true q11;have p12 : 0 ≤ ((rd t8 (ji56)) : Int):=of_decide_eq_true (by first | (with_reducible assumption) | assumption);have q12 : (rd t8 (ji56)) < (l1_0.length : Int):=of_decide_eq_true (by first | (with_reducible assumption) | assumption);obtain ⟨ad12,e12,hx12_0,hx12_1,hx12_2,hx12_3,hx12_4⟩:=at_T79 HR1_0.out (rd t8 (ji56)) p12 q12;cases e12;replace hx12_0:=(HB.out.cell (World.block_lt_of_cell? w _ hx12_0)).trans hx12_0;replace hx12_1:=(HB.out.cell (World.block_lt_of_cell? w _ hx12_1)).trans hx12_1;replace hx12_2:=(HB.out.cell (World.block_lt_of_cell? w _ hx12_2)).trans hx12_2;replace hx12_3:=(HB.out.cell (World.block_lt_of_cell? w _ hx12_3)).trans hx12_3;replace hx12_4:=(HB.out.cell (World.block_lt_of_cell? w _ hx12_4)).trans hx12_4;replace p12:=eq_true p12;replace q12:=eq_true q12));try go_wp2_with (first | (go_at_call 73;(with_reducible refine (spec_contexts.calls k2 _ _ l1_0 x7_2 t8 _ ?side1 ?side2 A55.out).mono ?_);(case side1=>exact cc_ (Kd.C_below HR1_0.out HB.out));(case side2=>exact HC1_0.out);rintro e w69 ⟨v9,rfl,ho0,hb⟩;have HO10:=a0_ (Kd.R_lower ho0 (below_size hb_));replace BK1:=kb_ BK1 hb;replace BK2:=kb_ BK2 hb;replace HB:=a0_ (below_step hb_ hb);(try clear hb);(try clear ho0);have hcz70_0 : w69.cell? ⟨gb2,0,none⟩ = some (.slice A1_0 l1_0.length c1_0):=(blk_cell BK2.out 0).trans rfl;have hfz70_0:=blk_frozen BK2.out 0;obtain ⟨Ao71,co71,eo71⟩:=Kd.R_slice HO10.out;subst eo71;have p11 : 0 ≤ ((ji56) : Int):=of_decide_eq_true (by first | (with_reducible assumption) | assumption);have q11 : (ji56) < (t8.length : Int):=of_decide_eq_true (by first | (with_reducible assumption) | assumption);obtain ⟨ad11,e11,hx11_0⟩:=Kd.at_int (Kd.R_reads' HO10.out).2.2 (ji56) p11 q11;cases e11;replace p11:=eq_true p11;replace q11:=eq_true q11;have p12 : 0 ≤ ((rd t8 (ji56)) : Int):=of_decide_eq_true (by first | (with_reducible assumption) | assumption);have q12 : (rd t8 (ji56)) < (l1_0.length : Int):=of_decide_eq_true (by first | (with_reducible assumption) | assumption);obtain ⟨ad12,e12,hx12_0,hx12_1,hx12_2,hx12_3,hx12_4⟩:=at_T79 HR1_0.out (rd t8 (ji56)) p12 q12;cases e12;replace hx12_0:=(HB.out.cell (World.block_lt_of_cell? w _ hx12_0)).trans hx12_0;replace hx12_1:=(HB.out.cell (World.block_lt_of_cell? w _ hx12_1)).trans hx12_1;replace hx12_2:=(HB.out.cell (World.block_lt_of_cell? w _ hx12_2)).trans hx12_2;replace hx12_3:=(HB.out.cell (World.block_lt_of_cell? w _ hx12_3)).trans hx12_3;replace hx12_4:=(HB.out.cell (World.block_lt_of_cell? w _ hx12_4)).trans hx12_4;replace p12:=eq_true p12;replace q12:=eq_true q12)))
            go_roundg k2
            case measure=>have:=HK1.out;have:=HK2.out;omega
            case rel=>exact ⟨(wrap64 (x7_2 + 1)),(by first | rfl | (simp;done) | (simp [*];done)),H',⟨by have:=HK1.out;have:=HK2.out;omega⟩,⟨by (with_reducible repeat (first | refine blk_drewN ?_ _ | refine blk_drew ?_ | refine blk_alloc ?_ _));exact BK1.out⟩,⟨by (with_reducible repeat (first | refine blk_drewN ?_ _ | refine blk_drew ?_ | refine blk_alloc ?_ _));exact BK2.out⟩,⟨hb_⟩⟩
          ·rw [if_neg c60] at H
           exact absurd H (by simp)
         ·rw [if_neg c59] at H
          exact absurd H (by simp)
        ·rw [if_neg c58] at H
         exact absurd H (by simp)
       ·rw [if_neg c57] at H
        exact absurd H (by simp)
      ·rw [if_neg c54] at H
       have c54b0 : decide (x7_2 < (l1_0.length : Int)) = false:=decide_eq_false c54
       clear c54
       replace H:=Option.bind_eq_some_iff.mp H
       obtain ⟨t13,A720,H⟩:=H
       replace H : (if t13 = true then (some (decide ((l1_0.length : Int) ≤ 24))) else (some false)) = some r:=H
       have A72:=a0_ A720
       clear A720
       by_cases c73 : t13 = true
       ·subst c73
        have H1 : (some (decide ((l1_0.length : Int) ≤ 24))) = some r:=by rw [if_pos rfl] at H;exact H
        clear H
        have H:=H1
        clear H1
        obtain rfl:=Option.some.inj H
        have hnb74:=NB2_1.out
        have hnc74:=NB1_2.out
        have hcz75_0 : wr.cell? ⟨gb2,0,none⟩ = some (.slice A1_0 l1_0.length c1_0):=(blk_cell BK2.out 0).trans rfl
        have hfz75_0:=blk_frozen BK2.out 0
        have hcz76_0 : wr.cell? ⟨gb1,0,none⟩ = some (.slice A0_0 l0_0.length c0_0):=(blk_cell BK1.out 0).trans rfl
        have hfz76_0:=blk_frozen BK1.out 0
        go_wp2_with (first | (go_at_call 85;(with_reducible refine (spec_validTree.calls _ _ l0_0 true _ ?side1 ?side2 A72.out).mono ?_);(case side1=>exact cc_ (Kd.C_below HR0_0.out HB.out));(case side2=>exact HC0_0.out);rintro e w77 ⟨rfl,hb⟩;replace BK1:=kb_ BK1 hb;replace BK2:=kb_ BK2 hb;replace HB:=a0_ (below_step hb_ hb);(try clear hb);have hcz78_0 : w77.cell? ⟨gb2,0,none⟩ = some (.slice A1_0 l1_0.length c1_0):=(blk_cell BK2.out 0).trans rfl;have hfz78_0:=blk_frozen BK2.out 0))
        repeat (go_quiet (first | (go_at_call 85;(with_reducible refine (spec_validTree.calls _ _ l0_0 true _ ?side1 ?side2 A72.out).mono ?_);(case side1=>exact cc_ (Kd.C_below HR0_0.out HB.out));(case side2=>exact HC0_0.out);rintro e w77 ⟨rfl,hb⟩;replace BK1:=kb_ BK1 hb;replace BK2:=kb_ BK2 hb;replace HB:=a0_ (below_step hb_ hb);(try clear hb);have hcz78_0 : w77.cell? ⟨gb2,0,none⟩ = some (.slice A1_0 l1_0.length c1_0):=(blk_cell BK2.out 0).trans rfl;have hfz78_0:=blk_frozen BK2.out 0));try go_wp2_with (first | (go_at_call 85;(with_reducible refine (spec_validTree.calls _ _ l0_0 true _ ?side1 ?side2 A72.out).mono ?_);(case side1=>exact cc_ (Kd.C_below HR0_0.out HB.out));(case side2=>exact HC0_0.out);rintro e w77 ⟨rfl,hb⟩;replace BK1:=kb_ BK1 hb;replace BK2:=kb_ BK2 hb;replace HB:=a0_ (below_step hb_ hb);(try clear hb);have hcz78_0 : w77.cell? ⟨gb2,0,none⟩ = some (.slice A1_0 l1_0.length c1_0):=(blk_cell BK2.out 0).trans rfl;have hfz78_0:=blk_frozen BK2.out 0)))
        go_ret
        exact ⟨by first | rfl | (simp [errW_none,errW_some] <;> rfl) | (simp [*,errW_none,errW_some] <;> rfl),hb_⟩
       ·replace c73:=Bool.eq_false_iff.mpr c73
        subst c73
        have H1 : (some false) = some r:=by rw [if_neg (show ¬ (false = true) by decide)] at H;exact H
        clear H
        have H:=H1
        clear H1
        obtain rfl:=Option.some.inj H
        have hnb79:=NB2_1.out
        have hnc79:=NB1_2.out
        have hcz80_0 : wr.cell? ⟨gb2,0,none⟩ = some (.slice A1_0 l1_0.length c1_0):=(blk_cell BK2.out 0).trans rfl
        have hfz80_0:=blk_frozen BK2.out 0
        have hcz81_0 : wr.cell? ⟨gb1,0,none⟩ = some (.slice A0_0 l0_0.length c0_0):=(blk_cell BK1.out 0).trans rfl
        have hfz81_0:=blk_frozen BK1.out 0
        go_wp2_with (first | (go_at_call 85;(with_reducible refine (spec_validTree.calls _ _ l0_0 false _ ?side1 ?side2 A72.out).mono ?_);(case side1=>exact cc_ (Kd.C_below HR0_0.out HB.out));(case side2=>exact HC0_0.out);rintro e w82 ⟨rfl,hb⟩;replace BK1:=kb_ BK1 hb;replace BK2:=kb_ BK2 hb;replace HB:=a0_ (below_step hb_ hb);(try clear hb);(try clear hb2);(try clear hk);(try clear hi)))
        repeat (go_quiet (first | (go_at_call 85;(with_reducible refine (spec_validTree.calls _ _ l0_0 false _ ?side1 ?side2 A72.out).mono ?_);(case side1=>exact cc_ (Kd.C_below HR0_0.out HB.out));(case side2=>exact HC0_0.out);rintro e w82 ⟨rfl,hb⟩;replace BK1:=kb_ BK1 hb;replace BK2:=kb_ BK2 hb;replace HB:=a0_ (below_step hb_ hb);(try clear hb);(try clear hb2);(try clear hk);(try clear hi)));try go_wp2_with (first | (go_at_call 85;(with_reducible refine (spec_validTree.calls _ _ l0_0 false _ ?side1 ?side2 A72.out).mono ?_);(case side1=>exact cc_ (Kd.C_below HR0_0.out HB.out));(case side2=>exact HC0_0.out);rintro e w82 ⟨rfl,hb⟩;replace BK1:=kb_ BK1 hb;replace BK2:=kb_ BK2 hb;replace HB:=a0_ (below_step hb_ hb);(try clear hb);(try clear hb2);(try clear hk);(try clear hi))))
        go_ret
        exact ⟨by first | rfl | (simp [errW_none,errW_some] <;> rfl) | (simp [*,errW_none,errW_some] <;> rfl),hb_⟩
theorem spec_validHeap_l1 (t : List Cls) (h : List Fau) (hs : smT t = true) (hl : h.length ≤ 2097152) (hf : fsH t h = true) : ∀ d i,i + d = h.length → Ev (fun k=>spec_validHeap.l1 k (i : Int) t h) ((List.range' i d).all (endB h) && (vT t && decide (h.length ≤ 24))):=by
 intro d
 induction d with
 | zero =>
  intro i hi
  refine Ev.succ ?_
  simp only [spec_validHeap.l1]
  refine Ev.neg (by omega) (Ev.bind (Ev.const (show spec_validTree.f t = some (vT t) by rw [spec_validTree.f,if_pos hs])) ?_)
  have e : decide ((h.length : Int) ≤ 24) = decide (h.length ≤ 24):=decide_eq_decide.2 (by omega)
  cases vT t with
  | true=>exact Ev.pos rfl (Ev.const (by rw [e];simp))
  | false=>exact Ev.neg (by simp) (Ev.const (by simp))
 | succ d ih =>
  intro i hi
  have hlt : i < h.length:=by omega
  have hn:=ih (i + 1) (by omega)
  have hpos:=ctxL_pos h (i : Int) (by omega) (by omega)
  have hlen:=ctxL_len h (i : Int)
  have hlast:=ctxL_mem (fun x h0 h1=>(fsH_ctx hf x h0 h1).2) (i : Int) (by omega) _ (lastI_mem hpos)
  have hw : wrap64 (((ctxL h (i : Int)).length : Int) - 1) = (((ctxL h (i : Int)).length - 1 : Nat) : Int):=by rw [wrap_in (by omega) (by omega)];omega
  have hrd : rd (ctxL h (i : Int)) ((((ctxL h (i : Int)).length - 1 : Nat) : Int)) = lastI (ctxL h (i : Int)):=rd_nat _ _ (by omega)
  have hcx : (rd_T79 h (lastI (ctxL h (i : Int)))).f3 = ctxN h (lastI (ctxL h (i : Int))):=by simp [rd_T79,ctxN]
  rw [List.range'_succ,List.all_cons]
  refine Ev.succ ?_
  simp only [spec_validHeap.l1]
  refine Ev.pos (by omega) (Ev.bind (spec_contexts_ev h hl (fun x h0 h1=>(fsH_ctx hf x h0 h1).2) (i : Int) (by omega)) ?_)
  rw [hw,hrd,hcx]
  refine Ev.pos (by omega) (Ev.pos (by omega) (Ev.pos hlast.1 (Ev.pos hlast.2 ?_)))
  by_cases hq : ctxN h (lastI (ctxL h (i : Int))) ≥ 0
  ·rw [show endB h i = false from decide_eq_false (by omega)]
   exact Ev.pos hq (Ev.const (by simp))
  ·rw [show endB h i = true from decide_eq_true (by omega),wrap_succ (i:=(i : Int)) (n:=h.length) (by omega) (by omega) (by omega)]
   exact Ev.neg hq (by simpa using hn)
theorem spec_validHeap_l0 (t : List Cls) (h : List Fau) (hs : smT t = true) (ht : t.length ≤ 9223372036854775807) (hl : h.length ≤ 2097152) : ∀ d i,i + d = h.length → (∀ j,j < i → okF t h j (h.getD j z79) = true) → Ev (fun k=>spec_validHeap.l0 k (i : Int) t h) (vH t h):=by
 intro d
 induction d with
 | zero =>
  intro i hi hA
  obtain rfl : i = h.length:=by omega
  have hfs : fsH t h = true:=all_of hA
  refine Ev.succ ?_
  simp only [spec_validHeap.l0]
  refine Ev.neg (by omega) ?_
  have:=spec_validHeap_l1 t h hs hl hfs h.length 0 (by omega)
  unfold vH esH
  rw [hfs,Bool.true_and,List.range_eq_range']
  exact this
 | succ d ih =>
  intro i hi hA
  have hlt : i < h.length:=by omega
  have hrd : rd_T79 h (i : Int) = h.getD i z79:=by simp [rd_T79]
  refine Ev.succ ?_
  simp only [spec_validHeap.l0,hrd]
  have hdf : okF t h i (h.getD i z79) = (hasC t (h.getD i z79).f0 && ((decide (0 ≤ (h.getD i z79).f1) && decide ((h.getD i z79).f1 ≤ 99)) && (lnkB h (i : Int) (h.getD i z79).f2 && lnkB h (i : Int) (h.getD i z79).f3))):=rfl
  have hfl : okF t h i (h.getD i z79) = false → vH t h = false:=fun e=>by unfold vH fsH;rw [all_false hlt e];rfl
  refine Ev.pos (by omega) (Ev.pos (by omega) (Ev.bind (Ev.const (spec_hasClass_ev t _ ht)) ?_))
  cases q1 : hasC t (h.getD i z79).f0 with
  | false =>
   rw [hfl (by rw [hdf,q1];rfl)]
   exact Ev.neg (by simp) (Ev.const rfl)
  | true =>
   refine Ev.pos rfl (Ev.bind (Ev.const (spec_inRange_ev _ _ _)) ?_)
   cases q2 : (decide (0 ≤ (h.getD i z79).f1) && decide ((h.getD i z79).f1 ≤ 99)) with
   | false =>
    rw [hfl (by rw [hdf,q1,q2];rfl)]
    exact Ev.neg (by simp) (Ev.const rfl)
   | true =>
    refine Ev.pos rfl (Ev.bind (Ev.const (spec_validLinks_ev h i hlt (by omega))) ?_)
    cases q3 : (lnkB h (i : Int) (h.getD i z79).f2 && lnkB h (i : Int) (h.getD i z79).f3) with
    | false =>
     rw [hfl (by rw [hdf,q1,q2,q3];rfl)]
     exact Ev.neg (by simp) (Ev.const rfl)
    | true =>
     refine Ev.pos rfl ?_
     rw [wrap_succ (i:=(i : Int)) (n:=h.length) (by omega) (by omega) (by omega)]
     refine ih (i + 1) (by omega) (fun j hj=>?_)
     by_cases e : j = i
     ·subst e;rw [hdf,q1,q2,q3];rfl
     ·exact hA j (by omega)
theorem spec_validHeap_ev (t : List Cls) (h : List Fau) (hs : smT t = true) (ht : t.length ≤ 9223372036854775807) (hl : h.length ≤ 2097152) : Ev (fun k=>spec_validHeap.f k t h) (vH t h):=by
 have:=spec_validHeap_l0 t h hs ht hl h.length 0 (by omega) (fun j hj=>absurd hj (Nat.not_lt_zero _))
 exact this
end Go.Proofs.Ytfhcfhffmblacaa.P
namespace Go.Proofs.Ytfhcfhffmblacaa.P
open Go.RowKit Go.Proofs.YtfhcfhffmblacaaW.PrintWords Go.Proofs.YtfhcfhffmblacaaW.PrintLast Go.Proofs.YtfhcfhffmblacaaW.PrintMore
attribute [local go_sem] max2_int min2_int max_two min_two max_three min_three max_four min_four
set_option linter.unusedVariables false
set_option linter.unusedSimpArgs false
def spec_hasFault.f (l0_0 : List (S79)) (a1 : Int) : Option (Bool):=(spec_inRange.f a1 0 (wrap64 ((l0_0.length : Int) - 1))).bind fun t2=>(some t2)
set_option maxHeartbeats 8000000 in
set_option maxRecDepth 100000 in
theorem spec_hasFault.calls (A0_0 : Option Addr) (c0_0 : Nat) (l0_0 : List (S79)) (a1 : Int) (r : Bool) (w : World) (hr0_0 : Kd.C k79 w A0_0 l0_0.length l0_0) (hc0_0 : l0_0.length ≤ c0_0) (h : spec_hasFault.f l0_0 a1 = some r) :
  Calls Try.prog 77 #[.agg #[.slice A0_0 l0_0.length c0_0],.int .i64 a1] w fun e w'=>e = .returned (.bool r) ∧ Below w.heap.size w w':=by
 have hu37:=Try.underlying37
 have HR0_0:=a0_ hr0_0
 have HC0_0:=a0_ hc0_0
 clear hr0_0 hc0_0
 have HB:=a0_ (Below.refl w.heap.size w)
 have H : ((spec_inRange.f a1 0 (wrap64 ((l0_0.length : Int) - 1))).bind fun t2=>(some t2)) = some r:=h
 clear h
 replace H:=Option.bind_eq_some_iff.mp H
 obtain ⟨t2,A30,H⟩:=H
 replace H : (some t2) = some r:=H
 have A3:=a0_ A30
 clear A30
 obtain rfl:=Option.some.inj H
 go_enter Try.func77,Try.ntmps77
 go_wp2_with (first | ((with_reducible refine gate_dst (N:=2) rfl ?_);refine box_event ?hg (N:=2) ?hd (cs:=#[.slice A0_0 l0_0.length c0_0]) (t:=37) ?hr ?_;(case hd=>rfl);(case hg=>rfl);(case hr=>first | (go_simp;done) | (go_simp;rfl));intro gb1 hg w4 hbox hb;have BK1:=a0_ (hbox);have GW1:=a0_ ((by rw [hg];exact (below_size hb_) : w.heap.size ≤ gb1));have GE1:=a0_ ((by rw [hg];exact (below_size hb_) : w.heap.size ≤ gb1));replace HB:=a0_ (below_step hb_ hb);clear hb hbox hg;have hcz5_0 : w4.cell? ⟨gb1,0,none⟩ = some (.slice A0_0 l0_0.length c0_0):=(blk_cell BK1.out 0).trans rfl;have hfz5_0:=blk_frozen BK1.out 0) | ((with_reducible refine gate_callee (f:=89) rfl ?_);refine goesL_ (some 10) rfl rfl Try.func89 (by kernel_rfl) rfl #[.int .i64 a1,.int .i64 0,.int .i64 (wrap64 ((l0_0.length : Int) - 1))] rfl lm_ ?_;(with_reducible refine (spec_inRange.calls a1 0 (wrap64 ((l0_0.length : Int) - 1)) t2 _ A3.out).mono ?_);rintro e w' ⟨rfl,⟨nd,rfl⟩⟩;refine ⟨_,rfl,?_⟩))
 go_ret
 exact ⟨by first | rfl | (simp [errW_none,errW_some] <;> rfl) | (simp [*,errW_none,errW_some] <;> rfl),hb_⟩
theorem spec_hasFault_ev (h : List Fau) (f : Int) (hl : h.length ≤ 2097152) : spec_hasFault.f h f = some (hasF h f):=by
 unfold spec_hasFault.f
 rw [wrap_in (by omega) (by omega),spec_inRange_ev]
 rfl
end Go.Proofs.Ytfhcfhffmblacaa.P
namespace Go.Proofs.Ytfhcfhffmblacaa.P
open Go.RowKit Go.Proofs.YtfhcfhffmblacaaW.PrintWords Go.Proofs.YtfhcfhffmblacaaW.PrintLast Go.Proofs.YtfhcfhffmblacaaW.PrintMore
attribute [local go_sem] max2_int min2_int max_two min_two max_three min_three max_four min_four
set_option linter.unusedVariables false
set_option linter.unusedSimpArgs false
def spec_goodFault.f (k : Nat) (l0_0 : List (S106)) (l1_0 : List (S79)) (a2 : Int) : Option (Bool):=(spec_validHeap.f k l0_0 l1_0).bind fun t3=>(if t3 = true then ((spec_hasFault.f l1_0 a2).bind fun t4=>(some t4)) else (some false))
theorem spec_goodFault.mono : ∀ a0 a1 a2 k,LeO (spec_goodFault.f k a0 a1 a2) (spec_goodFault.f (k + 1) a0 a1 a2):=by
 intro a0 a1 a2 k
 unfold spec_goodFault.f
 repeat' first
   | (with_reducible exact spec_validHeap.mono _ _ _)
   | (with_reducible exact LeO.refl _)
   | (with_reducible exact LeO.none _)
   | (with_reducible refine LeO.ite ?_ ?_)
   | (with_reducible refine LeO.bind ?_ (fun _=>?_))
   | exact spec_validHeap.mono _ _ _
   | exact LeO.none _
   | refine LeO.ite ?_ ?_
   | refine LeO.bind ?_ (fun _=>?_)
set_option maxHeartbeats 8000000 in
set_option maxRecDepth 100000 in
theorem spec_goodFault.calls (k : Nat) (A0_0 : Option Addr) (c0_0 : Nat) (l0_0 : List (S106)) (A1_0 : Option Addr) (c1_0 : Nat) (l1_0 : List (S79)) (a2 : Int) (r : Bool) (w : World) (hr0_0 : Kd.C k106 w A0_0 l0_0.length l0_0) (hc0_0 : l0_0.length ≤ c0_0) (hr1_0 : Kd.C k79 w A1_0 l1_0.length l1_0) (hc1_0 : l1_0.length ≤ c1_0) (h : spec_goodFault.f k l0_0 l1_0 a2 = some r) :
  Calls Try.prog 65 #[.agg #[.slice A0_0 l0_0.length c0_0],.agg #[.slice A1_0 l1_0.length c1_0],.int .i64 a2] w fun e w'=>e = .returned (.bool r) ∧ Below w.heap.size w w':=by
 have hu33:=Try.underlying33
 have hu37:=Try.underlying37
 have HR0_0:=a0_ hr0_0
 have HC0_0:=a0_ hc0_0
 clear hr0_0 hc0_0
 have HR1_0:=a0_ hr1_0
 have HC1_0:=a0_ hc1_0
 clear hr1_0 hc1_0
 have HB:=a0_ (Below.refl w.heap.size w)
 have H : ((spec_validHeap.f k l0_0 l1_0).bind fun t3=>(if t3 = true then ((spec_hasFault.f l1_0 a2).bind fun t4=>(some t4)) else (some false))) = some r:=h
 clear h
 replace H:=Option.bind_eq_some_iff.mp H
 obtain ⟨t3,A40,H⟩:=H
 replace H : (if t3 = true then ((spec_hasFault.f l1_0 a2).bind fun t4=>(some t4)) else (some false)) = some r:=H
 have A4:=a0_ A40
 clear A40
 by_cases c5 : t3 = true
 ·subst c5
  have H1 : ((spec_hasFault.f l1_0 a2).bind fun t4=>(some t4)) = some r:=by rw [if_pos rfl] at H;exact H
  clear H
  have H:=H1
  clear H1
  replace H:=Option.bind_eq_some_iff.mp H
  obtain ⟨t4,A60,H⟩:=H
  replace H : (some t4) = some r:=H
  have A6:=a0_ A60
  clear A60
  obtain rfl:=Option.some.inj H
  go_enter Try.func65,Try.ntmps65
  go_wp2_with (first | ((with_reducible refine gate_dst (N:=3) rfl ?_);refine box_event ?hg (N:=3) ?hd (cs:=#[.slice A0_0 l0_0.length c0_0]) (t:=33) ?hr ?_;(case hd=>rfl);(case hg=>rfl);(case hr=>first | (go_simp;done) | (go_simp;rfl));intro gb1 hg w7 hbox hb;have BK1:=a0_ (hbox);have GW1:=a0_ ((by rw [hg];exact (below_size hb_) : w.heap.size ≤ gb1));have GE1:=a0_ ((by rw [hg];exact (below_size hb_) : w.heap.size ≤ gb1));replace HB:=a0_ (below_step hb_ hb);clear hb hbox hg) | ((with_reducible refine gate_dst (N:=4) rfl ?_);refine box_event ?hg (N:=4) ?hd (cs:=#[.slice A1_0 l1_0.length c1_0]) (t:=37) ?hr ?_;(case hd=>rfl);(case hg=>rfl);(case hr=>first | (go_simp;done) | (go_simp;rfl));intro gb2 hg w8 hbox hb;have n0_:=kb_ BK1 hb;have n1_:=a0_ (below_step hb_ hb);have n2_:=a0_ (hbox);have n3_:=a0_ ((by rw [hg];exact (below_size hb_) : w.heap.size ≤ gb2));have n4_:=a0_ ((by rw [hg];exact (below_size hb_) : w.heap.size ≤ gb2));have n5_:=a0_ ((by rw [hg];exact Nat.ne_of_lt (blk_lt (bb_ BK1.out)) : gb1 ≠ gb2));have n6_:=a0_ ((by rw [hg];exact Nat.ne_of_gt (blk_lt (bb_ BK1.out)) : gb2 ≠ gb1));clear BK1 HB;have BK1:=n0_;have HB:=n1_;have BK2:=n2_;have GW2:=n3_;have GE2:=n4_;have NB1_2:=n5_;have NB2_1:=n6_;clear n0_ n1_ n2_ n3_ n4_ n5_ n6_;clear hb hbox hg;have hnb9:=NB1_2.out;have hnc9:=NB2_1.out;have hcz10_0 : w8.cell? ⟨gb1,0,none⟩ = some (.slice A0_0 l0_0.length c0_0):=(blk_cell BK1.out 0).trans rfl;have hfz10_0:=blk_frozen BK1.out 0;have hcz11_0 : w8.cell? ⟨gb2,0,none⟩ = some (.slice A1_0 l1_0.length c1_0):=(blk_cell BK2.out 0).trans rfl;have hfz11_0:=blk_frozen BK2.out 0) | ((with_reducible refine gate_callee (f:=54) rfl ?_);refine goesL_ (some 9) rfl rfl Try.func54 (by kernel_rfl) rfl #[.agg #[.slice A0_0 l0_0.length c0_0],.agg #[.slice A1_0 l1_0.length c1_0]] rfl lm_ ?_;(with_reducible refine (spec_validHeap.calls k _ _ l0_0 _ _ l1_0 true _ ?side1 ?side2 ?side3 ?side4 A4.out).mono ?_);(case side1=>exact cc_ (Kd.C_below HR0_0.out HB.out));(case side2=>exact HC0_0.out);(case side3=>exact cc_ (Kd.C_below HR1_0.out HB.out));(case side4=>exact HC1_0.out);rintro e w12 ⟨rfl,hb⟩;refine ⟨_,rfl,?_⟩;replace BK1:=kb_ BK1 hb;replace BK2:=kb_ BK2 hb;replace HB:=a0_ (below_step hb_ hb);(try clear hb);have hcz13_0 : w12.cell? ⟨gb2,0,none⟩ = some (.slice A1_0 l1_0.length c1_0):=(blk_cell BK2.out 0).trans rfl;have hfz13_0:=blk_frozen BK2.out 0) | (go_at_call 77;(with_reducible refine (spec_hasFault.calls _ _ l1_0 a2 t4 _ ?side1 ?side2 A6.out).mono ?_);(case side1=>exact cc_ (Kd.C_below HR1_0.out HB.out));(case side2=>exact HC1_0.out);rintro e w14 ⟨rfl,hb⟩;replace BK1:=kb_ BK1 hb;replace BK2:=kb_ BK2 hb;replace HB:=a0_ (below_step hb_ hb);(try clear hb);(try clear hb2);(try clear hk);(try clear hi)))
  go_ret
  exact ⟨by first | rfl | (simp [errW_none,errW_some] <;> rfl) | (simp [*,errW_none,errW_some] <;> rfl),hb_⟩
 ·replace c5:=Bool.eq_false_iff.mpr c5
  subst c5
  have H1 : (some false) = some r:=by rw [if_neg (show ¬ (false = true) by decide)] at H;exact H
  clear H
  have H:=H1
  clear H1
  obtain rfl:=Option.some.inj H
  go_enter Try.func65,Try.ntmps65
  go_wp2_with (first | ((with_reducible refine gate_dst (N:=3) rfl ?_);refine box_event ?hg (N:=3) ?hd (cs:=#[.slice A0_0 l0_0.length c0_0]) (t:=33) ?hr ?_;(case hd=>rfl);(case hg=>rfl);(case hr=>first | (go_simp;done) | (go_simp;rfl));intro gb1 hg w15 hbox hb;have BK1:=a0_ (hbox);have GW1:=a0_ ((by rw [hg];exact (below_size hb_) : w.heap.size ≤ gb1));have GE1:=a0_ ((by rw [hg];exact (below_size hb_) : w.heap.size ≤ gb1));replace HB:=a0_ (below_step hb_ hb);clear hb hbox hg) | ((with_reducible refine gate_dst (N:=4) rfl ?_);refine box_event ?hg (N:=4) ?hd (cs:=#[.slice A1_0 l1_0.length c1_0]) (t:=37) ?hr ?_;(case hd=>rfl);(case hg=>rfl);(case hr=>first | (go_simp;done) | (go_simp;rfl));intro gb2 hg w16 hbox hb;have n0_:=kb_ BK1 hb;have n1_:=a0_ (below_step hb_ hb);have n2_:=a0_ (hbox);have n3_:=a0_ ((by rw [hg];exact (below_size hb_) : w.heap.size ≤ gb2));have n4_:=a0_ ((by rw [hg];exact (below_size hb_) : w.heap.size ≤ gb2));have n5_:=a0_ ((by rw [hg];exact Nat.ne_of_lt (blk_lt (bb_ BK1.out)) : gb1 ≠ gb2));have n6_:=a0_ ((by rw [hg];exact Nat.ne_of_gt (blk_lt (bb_ BK1.out)) : gb2 ≠ gb1));clear BK1 HB;have BK1:=n0_;have HB:=n1_;have BK2:=n2_;have GW2:=n3_;have GE2:=n4_;have NB1_2:=n5_;have NB2_1:=n6_;clear n0_ n1_ n2_ n3_ n4_ n5_ n6_;clear hb hbox hg;have hnb17:=NB1_2.out;have hnc17:=NB2_1.out;have hcz18_0 : w16.cell? ⟨gb1,0,none⟩ = some (.slice A0_0 l0_0.length c0_0):=(blk_cell BK1.out 0).trans rfl;have hfz18_0:=blk_frozen BK1.out 0;have hcz19_0 : w16.cell? ⟨gb2,0,none⟩ = some (.slice A1_0 l1_0.length c1_0):=(blk_cell BK2.out 0).trans rfl;have hfz19_0:=blk_frozen BK2.out 0) | ((with_reducible refine gate_callee (f:=54) rfl ?_);refine goesL_ (some 9) rfl rfl Try.func54 (by kernel_rfl) rfl #[.agg #[.slice A0_0 l0_0.length c0_0],.agg #[.slice A1_0 l1_0.length c1_0]] rfl lm_ ?_;(with_reducible refine (spec_validHeap.calls k _ _ l0_0 _ _ l1_0 false _ ?side1 ?side2 ?side3 ?side4 A4.out).mono ?_);(case side1=>exact cc_ (Kd.C_below HR0_0.out HB.out));(case side2=>exact HC0_0.out);(case side3=>exact cc_ (Kd.C_below HR1_0.out HB.out));(case side4=>exact HC1_0.out);rintro e w20 ⟨rfl,hb⟩;refine ⟨_,rfl,?_⟩;replace BK1:=kb_ BK1 hb;replace BK2:=kb_ BK2 hb;replace HB:=a0_ (below_step hb_ hb);(try clear hb);(try clear hb2);(try clear hk);(try clear hi)))
  go_ret
  exact ⟨by first | rfl | (simp [errW_none,errW_some] <;> rfl) | (simp [*,errW_none,errW_some] <;> rfl),hb_⟩
theorem spec_goodFault_ev (t : List Cls) (h : List Fau) (f : Int) (hs : smT t = true) (ht : t.length ≤ 9223372036854775807) (hl : h.length ≤ 2097152) : Ev (fun k=>spec_goodFault.f k t h f) (vH t h && hasF h f):=by
 refine Ev.bind (spec_validHeap_ev t h hs ht hl) ?_
 cases vH t h with
 | false=>exact Ev.neg (by simp) (Ev.const rfl)
 | true =>
  refine Ev.pos rfl (Ev.bind (Ev.const ?_) (Ev.const rfl))
  unfold spec_hasFault.f
  rw [wrap_in (by omega) (by omega),spec_inRange_ev]
  rfl
end Go.Proofs.Ytfhcfhffmblacaa.P
namespace Go.Proofs.Ytfhcfhffmblacaa.P
open Go.RowKit Go.Proofs.YtfhcfhffmblacaaW.PrintWords Go.Proofs.YtfhcfhffmblacaaW.PrintLast Go.Proofs.YtfhcfhffmblacaaW.PrintMore
attribute [local go_sem] max2_int min2_int max_two min_two max_three min_three max_four min_four
set_option linter.unusedVariables false
set_option linter.unusedSimpArgs false
def spec_StartOf.j0 : Nat → Bool → List (S106) → List Int → Int → Int → List (S79) → Option (Bool × Int × Int × Bool)
 | 0,_,_,_,_,_,_=>none
 | k + 1,x19,x2000,x3000,x3001,x3002,x3003=>if x19 = true then (some (false,0,0,false)) else (if x3001 = 0 then (some (false,0,0,true)) else ((spec_goodFault.f k x2000 x3003 x3002).bind fun t5=>(if t5 = true then (if 0 ≤ x3002 then (if x3002 < (x3003.length : Int) then (some (true,(rd_T79 x3003 x3002).f0,(rd_T79 x3003 x3002).f1,true)) else (none)) else (none)) else (some (false,0,0,false)))))
def spec_StartOf.f (k : Nat) (l0_0 : List (S106)) (l1_0 : List Int) (a1_1 : Int) (a1_2 : Int) (l1_3 : List (S79)) : Option (Bool × Int × Int × Bool):=(spec_validTree.f l0_0).bind fun t4=>(if t4 = true then (if a1_1 = 0 then (spec_StartOf.j0 k false l0_0 l1_0 a1_1 a1_2 l1_3) else (spec_StartOf.j0 k (a1_1 != 2) l0_0 l1_0 a1_1 a1_2 l1_3)) else (spec_StartOf.j0 k true l0_0 l1_0 a1_1 a1_2 l1_3))
theorem spec_StartOf.mono_l : ∀ k,(∀ y0 y1 y2 y3 y4 y5,LeO (spec_StartOf.j0 k y0 y1 y2 y3 y4 y5) (spec_StartOf.j0 (k + 1) y0 y1 y2 y3 y4 y5))
 | 0=>fun _ _ _ _ _ _ r h=>by simp [spec_StartOf.j0] at h
 | k + 1=>by
  have ih0:=spec_StartOf.mono_l k
  ·intro y0 y1 y2 y3 y4 y5
   unfold spec_StartOf.j0
   repeat' first
   | (with_reducible exact ih0 _ _ _ _ _ _)
   | (with_reducible exact spec_goodFault.mono _ _ _ _)
   | (with_reducible exact LeO.refl _)
   | (with_reducible exact LeO.none _)
   | (with_reducible refine LeO.ite ?_ ?_)
   | (with_reducible refine LeO.bind ?_ (fun _=>?_))
   | exact ih0 _ _ _ _ _ _
   | exact spec_goodFault.mono _ _ _ _
   | exact LeO.none _
   | refine LeO.ite ?_ ?_
   | refine LeO.bind ?_ (fun _=>?_)
theorem spec_StartOf.mono : ∀ a0 a1 a2 a3 a4 k,LeO (spec_StartOf.f k a0 a1 a2 a3 a4) (spec_StartOf.f (k + 1) a0 a1 a2 a3 a4):=by
 intro a0 a1 a2 a3 a4 k
 have ih0:=spec_StartOf.mono_l k
 unfold spec_StartOf.f
 repeat' first
   | (with_reducible exact ih0 _ _ _ _ _ _)
   | (with_reducible exact spec_goodFault.mono _ _ _ _)
   | (with_reducible exact LeO.refl _)
   | (with_reducible exact LeO.none _)
   | (with_reducible refine LeO.ite ?_ ?_)
   | (with_reducible refine LeO.bind ?_ (fun _=>?_))
   | exact ih0 _ _ _ _ _ _
   | exact spec_goodFault.mono _ _ _ _
   | exact LeO.none _
   | refine LeO.ite ?_ ?_
   | refine LeO.bind ?_ (fun _=>?_)
set_option maxHeartbeats 8000000 in
set_option maxRecDepth 100000 in
theorem spec_StartOf.calls (k : Nat) (A0_0 : Option Addr) (c0_0 : Nat) (l0_0 : List (S106)) (A1_0 : Option Addr) (c1_0 : Nat) (l1_0 : List Int) (a1_1 : Int) (a1_2 : Int) (A1_3 : Option Addr) (c1_3 : Nat) (l1_3 : List (S79)) (r1 : Bool) (r2 : Int) (r3 : Int) (r4 : Bool) (w : World) (hr0_0 : Kd.C k106 w A0_0 l0_0.length l0_0) (hc0_0 : l0_0.length ≤ c0_0) (hr1_0 : Kd.C (Kd.int .i64) w A1_0 l1_0.length l1_0) (hc1_0 : l1_0.length ≤ c1_0) (hr1_3 : Kd.C k79 w A1_3 l1_3.length l1_3) (hc1_3 : l1_3.length ≤ c1_3) (h : spec_StartOf.f k l0_0 l1_0 a1_1 a1_2 l1_3 = some (r1,r2,r3,r4)) :
  Calls Try.prog 47 #[.agg #[.slice A0_0 l0_0.length c0_0],.agg #[.slice A1_0 l1_0.length c1_0,.int .i64 a1_1,.int .i64 a1_2,.slice A1_3 l1_3.length c1_3]] w fun e w'=>e = .returned (.tuple #[.agg #[.bool r1,.int .i64 r2,.int .i64 r3],.bool r4]) ∧ Below w.heap.size w w':=by
 have hu33:=Try.underlying33
 have hu67:=Try.underlying67
 have hu63:=Try.underlying63
 have hu37:=Try.underlying37
 have hu79:=Try.underlying79
 have HR0_0:=a0_ hr0_0
 have HC0_0:=a0_ hc0_0
 clear hr0_0 hc0_0
 have HR1_0:=a0_ hr1_0
 have HC1_0:=a0_ hc1_0
 clear hr1_0 hc1_0
 have HR1_3:=a0_ hr1_3
 have HC1_3:=a0_ hc1_3
 clear hr1_3 hc1_3
 have HB:=a0_ (Below.refl w.heap.size w)
 have H : ((spec_validTree.f l0_0).bind fun t4=>(if t4 = true then (if a1_1 = 0 then (spec_StartOf.j0 k false l0_0 l1_0 a1_1 a1_2 l1_3) else (spec_StartOf.j0 k (a1_1 != 2) l0_0 l1_0 a1_1 a1_2 l1_3)) else (spec_StartOf.j0 k true l0_0 l1_0 a1_1 a1_2 l1_3))) = some (r1,r2,r3,r4):=h
 clear h
 have HC3:=a0_ H
 clear H
 go_enter Try.func47,Try.ntmps47
 go_upto_region 1 with (first | ((with_reducible refine gate_dst (N:=2) rfl ?_);refine box_event ?hg (N:=2) ?hd (cs:=#[.slice A0_0 l0_0.length c0_0]) (t:=33) ?hr ?_;(case hd=>rfl);(case hg=>rfl);(case hr=>first | (go_simp;done) | (go_simp;rfl));intro gb1 hg w4 hbox hb;have BK1:=a0_ (hbox);have GW1:=a0_ ((by rw [hg];exact (below_size hb_) : w.heap.size ≤ gb1));have GE1:=a0_ ((by rw [hg];exact (below_size hb_) : w.heap.size ≤ gb1));replace HB:=a0_ (below_step hb_ hb);clear hb hbox hg) | ((with_reducible refine gate_dst (N:=3) rfl ?_);refine box_event ?hg (N:=3) ?hd (cs:=#[.slice A1_0 l1_0.length c1_0,.int .i64 a1_1,.int .i64 a1_2,.slice A1_3 l1_3.length c1_3]) (t:=67) ?hr ?_;(case hd=>rfl);(case hg=>rfl);(case hr=>first | (go_simp;done) | (go_simp;rfl));intro gb2 hg w5 hbox hb;have n0_:=kb_ BK1 hb;have n1_:=a0_ (below_step hb_ hb);have n2_:=a0_ (hbox);have n3_:=a0_ ((by rw [hg];exact (below_size hb_) : w.heap.size ≤ gb2));have n4_:=a0_ ((by rw [hg];exact (below_size hb_) : w.heap.size ≤ gb2));have n5_:=a0_ ((by rw [hg];exact Nat.ne_of_lt (blk_lt (bb_ BK1.out)) : gb1 ≠ gb2));have n6_:=a0_ ((by rw [hg];exact Nat.ne_of_gt (blk_lt (bb_ BK1.out)) : gb2 ≠ gb1));clear BK1 HB;have BK1:=n0_;have HB:=n1_;have BK2:=n2_;have GW2:=n3_;have GE2:=n4_;have NB1_2:=n5_;have NB2_1:=n6_;clear n0_ n1_ n2_ n3_ n4_ n5_ n6_;clear hb hbox hg) | ((with_reducible refine gate_dst (N:=4) rfl ?_);refine box_event ?hg (N:=4) ?hd (cs:=#[.bool false,.int .i64 0,.int .i64 0]) (t:=63) ?hr ?_;(case hd=>rfl);(case hg=>rfl);(case hr=>first | (go_simp;done) | (go_simp;rfl));intro gb3 hg w6 hbox hb;have n0_:=kb_ BK1 hb;have n1_:=kb_ BK2 hb;have n2_:=a0_ (below_step hb_ hb);have n3_:=a0_ (hbox);have n4_:=a0_ ((by rw [hg];exact (below_size hb_) : w.heap.size ≤ gb3));have n5_:=a0_ ((by rw [hg];exact (below_size hb_) : w.heap.size ≤ gb3));have n6_:=a0_ ((by rw [hg];exact Nat.ne_of_lt (blk_lt (bb_ BK1.out)) : gb1 ≠ gb3));have n7_:=a0_ ((by rw [hg];exact Nat.ne_of_gt (blk_lt (bb_ BK1.out)) : gb3 ≠ gb1));have n8_:=a0_ ((by rw [hg];exact Nat.ne_of_lt (blk_lt (bb_ BK2.out)) : gb2 ≠ gb3));have n9_:=a0_ ((by rw [hg];exact Nat.ne_of_gt (blk_lt (bb_ BK2.out)) : gb3 ≠ gb2));clear BK1 BK2 HB;have BK1:=n0_;have BK2:=n1_;have HB:=n2_;have BK3:=n3_;have GW3:=n4_;have GE3:=n5_;have NB1_3:=n6_;have NB3_1:=n7_;have NB2_3:=n8_;have NB3_2:=n9_;clear n0_ n1_ n2_ n3_ n4_ n5_ n6_ n7_ n8_ n9_;clear hb hbox hg))
 (try simp only [Act.put,s1_,s2_,s3_])
 go_cut [19] (fun v19 wc=>∃ (kq : Nat) (x19_2 : Bool),v19 = .bool x19_2 ∧ Aside0 (spec_StartOf.j0 kq x19_2 l0_0 l1_0 a1_1 a1_2 l1_3 = some (r1,r2,r3,r4)) ∧ Aside0 (kq ≤ k) ∧ Aside0 (wc.heap[gb1]? = some (.cells #[(.slice A0_0 l0_0.length c0_0)] 33 (0,0))) ∧ Aside0 (wc.heap[gb2]? = some (.cells #[(.slice A1_0 l1_0.length c1_0),.int .i64 a1_1,.int .i64 a1_2,(.slice A1_3 l1_3.length c1_3)] 67 (0,0))) ∧ Aside0 (wc.heap[gb3]? = some (.cells #[.bool false,.int .i64 0,.int .i64 0] 63 (0,0))) ∧ Aside0 (Below w.heap.size w wc))
 case first =>
  have H:=HC3.out
  clear HC3
  replace H:=Option.bind_eq_some_iff.mp H
  obtain ⟨t4,A70,H⟩:=H
  replace H : (if t4 = true then (if a1_1 = 0 then (spec_StartOf.j0 k false l0_0 l1_0 a1_1 a1_2 l1_3) else (spec_StartOf.j0 k (a1_1 != 2) l0_0 l1_0 a1_1 a1_2 l1_3)) else (spec_StartOf.j0 k true l0_0 l1_0 a1_1 a1_2 l1_3)) = some (r1,r2,r3,r4):=H
  have A7:=a0_ A70
  clear A70
  by_cases c8 : t4 = true
  ·subst c8
   have H1 : (if a1_1 = 0 then (spec_StartOf.j0 k false l0_0 l1_0 a1_1 a1_2 l1_3) else (spec_StartOf.j0 k (a1_1 != 2) l0_0 l1_0 a1_1 a1_2 l1_3)) = some (r1,r2,r3,r4):=by rw [if_pos rfl] at H;exact H
   clear H
   have H:=H1
   clear H1
   by_cases c9 : a1_1 = 0
   ·rw [if_pos c9] at H
    have c9b0 : (a1_1 == 0) = true:=beq_iff_eq.mpr c9
    have c9b1 : (a1_1 != 0) = false:=bne_eq_false_iff_eq.mpr c9
    clear c9
    (first | rw [c9b0] | (simp only [i64_w,i32_w];rw [c9b0]) | skip)
    have H':=a0_ H
    clear H
    have hnb10:=NB1_2.out
    have hnc10:=NB2_1.out
    have hnb11:=NB1_3.out
    have hnc11:=NB3_1.out
    have hcz12_0 : w6.cell? ⟨gb1,0,none⟩ = some (.slice A0_0 l0_0.length c0_0):=(blk_cell BK1.out 0).trans rfl
    have hfz12_0:=blk_frozen BK1.out 0
    go_wp2_with (first | ((with_reducible refine gate_callee (f:=85) rfl ?_);refine goesL_ (some 8) rfl rfl Try.func85 (by kernel_rfl) rfl #[.agg #[.slice A0_0 l0_0.length c0_0]] rfl lm_ ?_;(with_reducible refine (spec_validTree.calls _ _ l0_0 true _ ?side1 ?side2 A7.out).mono ?_);(case side1=>exact cc_ (Kd.C_below HR0_0.out HB.out));(case side2=>exact HC0_0.out);rintro e w13 ⟨rfl,hb⟩;refine ⟨_,rfl,?_⟩;replace BK1:=kb_ BK1 hb;replace BK2:=kb_ BK2 hb;replace BK3:=kb_ BK3 hb;replace HB:=a0_ (below_step hb_ hb);(try clear hb);have hnb14:=NB2_3.out;have hnc14:=NB3_2.out;have hcz15_0 : w13.cell? ⟨gb2,0,none⟩ = some (.slice A1_0 l1_0.length c1_0):=(blk_cell BK2.out 0).trans rfl;have hcz15_1 : w13.cell? ⟨gb2,1,none⟩ = some (.int .i64 a1_1):=(blk_cell BK2.out 1).trans rfl;have hcz15_2 : w13.cell? ⟨gb2,2,none⟩ = some (.int .i64 a1_2):=(blk_cell BK2.out 2).trans rfl;have hcz15_3 : w13.cell? ⟨gb2,3,none⟩ = some (.slice A1_3 l1_3.length c1_3):=(blk_cell BK2.out 3).trans rfl;have hfz15_0:=blk_frozen BK2.out 0;have hfz15_1:=blk_frozen BK2.out 1;have hfz15_2:=blk_frozen BK2.out 2;have hfz15_3:=blk_frozen BK2.out 3))
    go_meet
    case rel=>exact ⟨_,(false),(by first | rfl | (simp;done) | (simp [*];done)),H',⟨by first | omega | exact Nat.le_refl _⟩,⟨by (with_reducible repeat (first | refine blk_drewN ?_ _ | refine blk_drew ?_ | refine blk_alloc ?_ _));exact BK1.out⟩,⟨by (with_reducible repeat (first | refine blk_drewN ?_ _ | refine blk_drew ?_ | refine blk_alloc ?_ _));exact BK2.out⟩,⟨by (with_reducible repeat (first | refine blk_drewN ?_ _ | refine blk_drew ?_ | refine blk_alloc ?_ _));exact BK3.out⟩,⟨hb_⟩⟩
   ·rw [if_neg c9] at H
    have c9b0 : (a1_1 == 0) = false:=beq_eq_false_iff_ne.mpr c9
    have c9b1 : (a1_1 != 0) = true:=bne_iff_ne.mpr c9
    (first | rw [c9b0] | (simp only [i64_w,i32_w];rw [c9b0]) | skip)
    have H':=a0_ H
    clear H
    have hnb16:=NB1_2.out
    have hnc16:=NB2_1.out
    have hnb17:=NB1_3.out
    have hnc17:=NB3_1.out
    have hcz18_0 : w6.cell? ⟨gb1,0,none⟩ = some (.slice A0_0 l0_0.length c0_0):=(blk_cell BK1.out 0).trans rfl
    have hfz18_0:=blk_frozen BK1.out 0
    go_wp2_with (first | ((with_reducible refine gate_callee (f:=85) rfl ?_);refine goesL_ (some 8) rfl rfl Try.func85 (by kernel_rfl) rfl #[.agg #[.slice A0_0 l0_0.length c0_0]] rfl lm_ ?_;(with_reducible refine (spec_validTree.calls _ _ l0_0 true _ ?side1 ?side2 A7.out).mono ?_);(case side1=>exact cc_ (Kd.C_below HR0_0.out HB.out));(case side2=>exact HC0_0.out);rintro e w19 ⟨rfl,hb⟩;refine ⟨_,rfl,?_⟩;replace BK1:=kb_ BK1 hb;replace BK2:=kb_ BK2 hb;replace BK3:=kb_ BK3 hb;replace HB:=a0_ (below_step hb_ hb);(try clear hb);have hnb20:=NB2_3.out;have hnc20:=NB3_2.out;have hcz21_0 : w19.cell? ⟨gb2,0,none⟩ = some (.slice A1_0 l1_0.length c1_0):=(blk_cell BK2.out 0).trans rfl;have hcz21_1 : w19.cell? ⟨gb2,1,none⟩ = some (.int .i64 a1_1):=(blk_cell BK2.out 1).trans rfl;have hcz21_2 : w19.cell? ⟨gb2,2,none⟩ = some (.int .i64 a1_2):=(blk_cell BK2.out 2).trans rfl;have hcz21_3 : w19.cell? ⟨gb2,3,none⟩ = some (.slice A1_3 l1_3.length c1_3):=(blk_cell BK2.out 3).trans rfl;have hfz21_0:=blk_frozen BK2.out 0;have hfz21_1:=blk_frozen BK2.out 1;have hfz21_2:=blk_frozen BK2.out 2;have hfz21_3:=blk_frozen BK2.out 3))
    go_meet
    case rel=>exact ⟨_,((a1_1 != 2)),(by first | rfl | (simp;done) | (simp [*];done)),H',⟨by first | omega | exact Nat.le_refl _⟩,⟨by (with_reducible repeat (first | refine blk_drewN ?_ _ | refine blk_drew ?_ | refine blk_alloc ?_ _));exact BK1.out⟩,⟨by (with_reducible repeat (first | refine blk_drewN ?_ _ | refine blk_drew ?_ | refine blk_alloc ?_ _));exact BK2.out⟩,⟨by (with_reducible repeat (first | refine blk_drewN ?_ _ | refine blk_drew ?_ | refine blk_alloc ?_ _));exact BK3.out⟩,⟨hb_⟩⟩
  ·replace c8:=Bool.eq_false_iff.mpr c8
   subst c8
   have H1 : (spec_StartOf.j0 k true l0_0 l1_0 a1_1 a1_2 l1_3) = some (r1,r2,r3,r4):=by rw [if_neg (show ¬ (false = true) by decide)] at H;exact H
   clear H
   have H:=H1
   clear H1
   have H':=a0_ H
   clear H
   have hnb22:=NB1_2.out
   have hnc22:=NB2_1.out
   have hnb23:=NB1_3.out
   have hnc23:=NB3_1.out
   have hcz24_0 : w6.cell? ⟨gb1,0,none⟩ = some (.slice A0_0 l0_0.length c0_0):=(blk_cell BK1.out 0).trans rfl
   have hfz24_0:=blk_frozen BK1.out 0
   go_wp2_with (first | ((with_reducible refine gate_callee (f:=85) rfl ?_);refine goesL_ (some 8) rfl rfl Try.func85 (by kernel_rfl) rfl #[.agg #[.slice A0_0 l0_0.length c0_0]] rfl lm_ ?_;(with_reducible refine (spec_validTree.calls _ _ l0_0 false _ ?side1 ?side2 A7.out).mono ?_);(case side1=>exact cc_ (Kd.C_below HR0_0.out HB.out));(case side2=>exact HC0_0.out);rintro e w25 ⟨rfl,hb⟩;refine ⟨_,rfl,?_⟩;replace BK1:=kb_ BK1 hb;replace BK2:=kb_ BK2 hb;replace BK3:=kb_ BK3 hb;replace HB:=a0_ (below_step hb_ hb);(try clear hb);(try clear hb2);(try clear hk);(try clear hi)))
   go_meet
   case rel=>exact ⟨_,(true),(by first | rfl | (simp;done) | (simp [*];done)),H',⟨by first | omega | exact Nat.le_refl _⟩,⟨by (with_reducible repeat (first | refine blk_drewN ?_ _ | refine blk_drew ?_ | refine blk_alloc ?_ _));exact BK1.out⟩,⟨by (with_reducible repeat (first | refine blk_drewN ?_ _ | refine blk_drew ?_ | refine blk_alloc ?_ _));exact BK2.out⟩,⟨by (with_reducible repeat (first | refine blk_drewN ?_ _ | refine blk_drew ?_ | refine blk_alloc ?_ _));exact BK3.out⟩,⟨hb_⟩⟩
 case rest =>
  clear HC3
  try clear c1
  try clear c2
  try clear p2
  try clear c4
  try clear c8
  try clear c9
  try clear c9b0
  try clear c9b1
  try clear c10
  try clear c11
  try clear c14
  try clear c16
  try clear c17
  try clear c20
  try clear c22
  try clear c23
  try clear hcz12_0
  try clear hcz15_0
  try clear hcz15_1
  try clear hcz15_2
  try clear hcz15_3
  try clear hcz18_0
  try clear hcz21_0
  try clear hcz21_1
  try clear hcz21_2
  try clear hcz21_3
  try clear hcz24_0
  try clear hfz12_0
  try clear hfz15_0
  try clear hfz15_1
  try clear hfz15_2
  try clear hfz15_3
  try clear hfz18_0
  try clear hfz21_0
  try clear hfz21_1
  try clear hfz21_2
  try clear hfz21_3
  try clear hfz24_0
  obtain ⟨kq,x19_2,rfl,HA,HJ2,BK1,BK2,BK3,HB⟩:=hcut
  cases kq with
  | zero=>exact absurd HA.out (by simp [spec_StartOf.j0])
  | succ kj2 =>
   have H:=HA.out
   clear HA
   simp only [spec_StartOf.j0] at H
   by_cases c26 : x19_2 = true
   ·subst c26
    have H1 : (some (false,0,0,false)) = some (r1,r2,r3,r4):=by rw [if_pos rfl] at H;exact H
    clear H
    have H:=H1
    clear H1
    simp only [Option.some.injEq,Prod.mk.injEq] at H
    obtain ⟨rfl,rfl,rfl,rfl⟩:=H
    have hnb27:=NB3_1.out
    have hnc27:=NB1_3.out
    have hnb28:=NB3_2.out
    have hnc28:=NB2_3.out
    have hcz29_0 : wc.cell? ⟨gb3,0,none⟩ = some (.bool false):=(blk_cell BK3.out 0).trans rfl
    have hcz29_1 : wc.cell? ⟨gb3,1,none⟩ = some (.int .i64 0):=(blk_cell BK3.out 1).trans rfl
    have hcz29_2 : wc.cell? ⟨gb3,2,none⟩ = some (.int .i64 0):=(blk_cell BK3.out 2).trans rfl
    have hfz29_0:=blk_frozen BK3.out 0
    have hfz29_1:=blk_frozen BK3.out 1
    have hfz29_2:=blk_frozen BK3.out 2
    go_wp2
    refine bodyPost_ret (results_ct rfl _ _ gb3 63 #[.bool false,.int .i64 0,.int .i64 0] (0,0) _ rfl (by (with_reducible repeat (first | refine blk_drewN ?_ _ | refine blk_drew ?_ | refine blk_alloc ?_ _));refine blk_put (cs:=#[.bool false,.int .i64 0,.int .i64 0]) ?_ 2 _ rfl;(with_reducible repeat (first | refine blk_drewN ?_ _ | refine blk_drew ?_ | refine blk_alloc ?_ _));refine blk_put (cs:=#[.bool false,.int .i64 0,.int .i64 0]) ?_ 1 _ rfl;(with_reducible repeat (first | refine blk_drewN ?_ _ | refine blk_drew ?_ | refine blk_alloc ?_ _));refine blk_put (cs:=#[.bool false,.int .i64 0,.int .i64 0]) ?_ 0 _ rfl;(with_reducible repeat (first | refine blk_drewN ?_ _ | refine blk_drew ?_ | refine blk_alloc ?_ _));exact BK3.out) Try.underlying63 rfl (by kernel_rfl)) rfl ?_
    exact ⟨by first | rfl | (simp [errW_none,errW_some] <;> rfl) | (simp [*,errW_none,errW_some] <;> rfl),hb_⟩
   ·replace c26:=Bool.eq_false_iff.mpr c26
    subst c26
    have H1 : (if a1_1 = 0 then (some (false,0,0,true)) else ((spec_goodFault.f kj2 l0_0 l1_3 a1_2).bind fun t5=>(if t5 = true then (if 0 ≤ a1_2 then (if a1_2 < (l1_3.length : Int) then (some (true,(rd_T79 l1_3 a1_2).f0,(rd_T79 l1_3 a1_2).f1,true)) else (none)) else (none)) else (some (false,0,0,false))))) = some (r1,r2,r3,r4):=by rw [if_neg (show ¬ (false = true) by decide)] at H;exact H
    clear H
    have H:=H1
    clear H1
    by_cases c30 : a1_1 = 0
    ·rw [if_pos c30] at H
     have c30b0 : (a1_1 == 0) = true:=beq_iff_eq.mpr c30
     have c30b1 : (a1_1 != 0) = false:=bne_eq_false_iff_eq.mpr c30
     clear c30
     simp only [Option.some.injEq,Prod.mk.injEq] at H
     obtain ⟨rfl,rfl,rfl,rfl⟩:=H
     have hnb31:=NB2_1.out
     have hnc31:=NB1_2.out
     have hnb32:=NB2_3.out
     have hnc32:=NB3_2.out
     have hcz33_0 : wc.cell? ⟨gb2,0,none⟩ = some (.slice A1_0 l1_0.length c1_0):=(blk_cell BK2.out 0).trans rfl
     have hcz33_1 : wc.cell? ⟨gb2,1,none⟩ = some (.int .i64 a1_1):=(blk_cell BK2.out 1).trans rfl
     have hcz33_2 : wc.cell? ⟨gb2,2,none⟩ = some (.int .i64 a1_2):=(blk_cell BK2.out 2).trans rfl
     have hcz33_3 : wc.cell? ⟨gb2,3,none⟩ = some (.slice A1_3 l1_3.length c1_3):=(blk_cell BK2.out 3).trans rfl
     have hfz33_0:=blk_frozen BK2.out 0
     have hfz33_1:=blk_frozen BK2.out 1
     have hfz33_2:=blk_frozen BK2.out 2
     have hfz33_3:=blk_frozen BK2.out 3
     have hnb34:=NB3_1.out
     have hnc34:=NB1_3.out
     have hcz35_0 : wc.cell? ⟨gb3,0,none⟩ = some (.bool false):=(blk_cell BK3.out 0).trans rfl
     have hcz35_1 : wc.cell? ⟨gb3,1,none⟩ = some (.int .i64 0):=(blk_cell BK3.out 1).trans rfl
     have hcz35_2 : wc.cell? ⟨gb3,2,none⟩ = some (.int .i64 0):=(blk_cell BK3.out 2).trans rfl
     have hfz35_0:=blk_frozen BK3.out 0
     have hfz35_1:=blk_frozen BK3.out 1
     have hfz35_2:=blk_frozen BK3.out 2
     go_wp2
     refine bodyPost_ret (results_ct rfl _ _ gb3 63 #[.bool false,.int .i64 0,.int .i64 0] (0,0) _ rfl (by (with_reducible repeat (first | refine blk_drewN ?_ _ | refine blk_drew ?_ | refine blk_alloc ?_ _));refine blk_put (cs:=#[.bool false,.int .i64 0,.int .i64 0]) ?_ 2 _ rfl;(with_reducible repeat (first | refine blk_drewN ?_ _ | refine blk_drew ?_ | refine blk_alloc ?_ _));refine blk_put (cs:=#[.bool false,.int .i64 0,.int .i64 0]) ?_ 1 _ rfl;(with_reducible repeat (first | refine blk_drewN ?_ _ | refine blk_drew ?_ | refine blk_alloc ?_ _));refine blk_put (cs:=#[.bool false,.int .i64 0,.int .i64 0]) ?_ 0 _ rfl;(with_reducible repeat (first | refine blk_drewN ?_ _ | refine blk_drew ?_ | refine blk_alloc ?_ _));exact BK3.out) Try.underlying63 rfl (by kernel_rfl)) rfl ?_
     exact ⟨by first | rfl | (simp [errW_none,errW_some] <;> rfl) | (simp [*,errW_none,errW_some] <;> rfl),hb_⟩
    ·rw [if_neg c30] at H
     have c30b0 : (a1_1 == 0) = false:=beq_eq_false_iff_ne.mpr c30
     have c30b1 : (a1_1 != 0) = true:=bne_iff_ne.mpr c30
     replace H:=Option.bind_eq_some_iff.mp H
     obtain ⟨t5,A360,H⟩:=H
     replace H : (if t5 = true then (if 0 ≤ a1_2 then (if a1_2 < (l1_3.length : Int) then (some (true,(rd_T79 l1_3 a1_2).f0,(rd_T79 l1_3 a1_2).f1,true)) else (none)) else (none)) else (some (false,0,0,false))) = some (r1,r2,r3,r4):=H
     have A36:=a0_ A360
     clear A360
     by_cases c37 : t5 = true
     ·subst c37
      have H1 : (if 0 ≤ a1_2 then (if a1_2 < (l1_3.length : Int) then (some (true,(rd_T79 l1_3 a1_2).f0,(rd_T79 l1_3 a1_2).f1,true)) else (none)) else (none)) = some (r1,r2,r3,r4):=by rw [if_pos rfl] at H;exact H
      clear H
      have H:=H1
      clear H1
      by_cases c38 : 0 ≤ a1_2
      ·rw [if_pos c38] at H
       have c38b0 : decide (0 ≤ a1_2) = true:=decide_eq_true c38
       clear c38
       by_cases c39 : a1_2 < (l1_3.length : Int)
       ·rw [if_pos c39] at H
        have c39b0 : decide (a1_2 < (l1_3.length : Int)) = true:=decide_eq_true c39
        clear c39
        simp only [Option.some.injEq,Prod.mk.injEq] at H
        obtain ⟨rfl,rfl,rfl,rfl⟩:=H
        have hnb40:=NB2_1.out
        have hnc40:=NB1_2.out
        have hnb41:=NB2_3.out
        have hnc41:=NB3_2.out
        have hcz42_0 : wc.cell? ⟨gb2,0,none⟩ = some (.slice A1_0 l1_0.length c1_0):=(blk_cell BK2.out 0).trans rfl
        have hcz42_1 : wc.cell? ⟨gb2,1,none⟩ = some (.int .i64 a1_1):=(blk_cell BK2.out 1).trans rfl
        have hcz42_2 : wc.cell? ⟨gb2,2,none⟩ = some (.int .i64 a1_2):=(blk_cell BK2.out 2).trans rfl
        have hcz42_3 : wc.cell? ⟨gb2,3,none⟩ = some (.slice A1_3 l1_3.length c1_3):=(blk_cell BK2.out 3).trans rfl
        have hfz42_0:=blk_frozen BK2.out 0
        have hfz42_1:=blk_frozen BK2.out 1
        have hfz42_2:=blk_frozen BK2.out 2
        have hfz42_3:=blk_frozen BK2.out 3
        have hnb43:=NB1_3.out
        have hnc43:=NB3_1.out
        have hcz44_0 : wc.cell? ⟨gb1,0,none⟩ = some (.slice A0_0 l0_0.length c0_0):=(blk_cell BK1.out 0).trans rfl
        have hfz44_0:=blk_frozen BK1.out 0
        go_wp2_with (first | ((with_reducible refine gate_callee (f:=65) rfl ?_);refine goesL_ (some 30) rfl rfl Try.func65 (by kernel_rfl) rfl #[.agg #[.slice A0_0 l0_0.length c0_0],.agg #[.slice A1_3 l1_3.length c1_3],.int .i64 a1_2] rfl lm_ ?_;(with_reducible refine (spec_goodFault.calls kj2 _ _ l0_0 _ _ l1_3 a1_2 true _ ?side1 ?side2 ?side3 ?side4 A36.out).mono ?_);(case side1=>exact cc_ (Kd.C_below HR0_0.out HB.out));(case side2=>exact HC0_0.out);(case side3=>exact cc_ (Kd.C_below HR1_3.out HB.out));(case side4=>exact HC1_3.out);rintro e w45 ⟨rfl,hb⟩;refine ⟨_,rfl,?_⟩;replace BK1:=kb_ BK1 hb;replace BK2:=kb_ BK2 hb;replace BK3:=kb_ BK3 hb;replace HB:=a0_ (below_step hb_ hb);(try clear hb);have hcz46_0 : w45.cell? ⟨gb2,0,none⟩ = some (.slice A1_0 l1_0.length c1_0):=(blk_cell BK2.out 0).trans rfl;have hcz46_1 : w45.cell? ⟨gb2,1,none⟩ = some (.int .i64 a1_1):=(blk_cell BK2.out 1).trans rfl;have hcz46_2 : w45.cell? ⟨gb2,2,none⟩ = some (.int .i64 a1_2):=(blk_cell BK2.out 2).trans rfl;have hcz46_3 : w45.cell? ⟨gb2,3,none⟩ = some (.slice A1_3 l1_3.length c1_3):=(blk_cell BK2.out 3).trans rfl;have hfz46_0:=blk_frozen BK2.out 0;have hfz46_1:=blk_frozen BK2.out 1;have hfz46_2:=blk_frozen BK2.out 2;have hfz46_3:=blk_frozen BK2.out 3;have p6 : 0 ≤ (a1_2 : Int):=of_decide_eq_true (by first | (with_reducible assumption) | assumption);have q6 : a1_2 < (l1_3.length : Int):=of_decide_eq_true (by first | (with_reducible assumption) | assumption);obtain ⟨ad6,e6,hx6_0,hx6_1,hx6_2,hx6_3,hx6_4⟩:=at_T79 HR1_3.out a1_2 p6 q6;cases e6;replace hx6_0:=(HB.out.cell (World.block_lt_of_cell? w _ hx6_0)).trans hx6_0;replace hx6_1:=(HB.out.cell (World.block_lt_of_cell? w _ hx6_1)).trans hx6_1;replace hx6_2:=(HB.out.cell (World.block_lt_of_cell? w _ hx6_2)).trans hx6_2;replace hx6_3:=(HB.out.cell (World.block_lt_of_cell? w _ hx6_3)).trans hx6_3;replace hx6_4:=(HB.out.cell (World.block_lt_of_cell? w _ hx6_4)).trans hx6_4;replace p6:=eq_true p6;replace q6:=eq_true q6) | ((with_reducible refine gate_dst (N:=6) rfl ?_);refine box_event ?hg (N:=6) ?hd (cs:=#[.int .i64 0,.int .i64 0,.int .i64 0,.int .i64 0,.bool false]) (t:=79) ?hr ?_;(case hd=>rfl);(case hg=>rfl);(case hr=>first | (go_simp;done) | (go_simp;rfl));intro gb7 hg w47 hbox hb;have n0_:=kb_ BK1 hb;have n1_:=kb_ BK2 hb;have n2_:=kb_ BK3 hb;have n3_:=a0_ (below_step hb_ hb);have n4_:=a0_ (hbox);have n5_:=a0_ ((by rw [hg];exact (below_size hb_) : w.heap.size ≤ gb7));have n6_:=a0_ ((by rw [hg];exact (below_size hb_) : w.heap.size ≤ gb7));have n7_:=a0_ ((by rw [hg];exact Nat.ne_of_lt (blk_lt (bb_ BK1.out)) : gb1 ≠ gb7));have n8_:=a0_ ((by rw [hg];exact Nat.ne_of_gt (blk_lt (bb_ BK1.out)) : gb7 ≠ gb1));have n9_:=a0_ ((by rw [hg];exact Nat.ne_of_lt (blk_lt (bb_ BK2.out)) : gb2 ≠ gb7));have n10_:=a0_ ((by rw [hg];exact Nat.ne_of_gt (blk_lt (bb_ BK2.out)) : gb7 ≠ gb2));have n11_:=a0_ ((by rw [hg];exact Nat.ne_of_lt (blk_lt (bb_ BK3.out)) : gb3 ≠ gb7));have n12_:=a0_ ((by rw [hg];exact Nat.ne_of_gt (blk_lt (bb_ BK3.out)) : gb7 ≠ gb3));clear BK1 BK2;clear BK3 HB;have BK1:=n0_;have BK2:=n1_;have BK3:=n2_;have HB:=n3_;have BK7:=n4_;have GW7:=n5_;have GE7:=n6_;have NB1_7:=n7_;have NB7_1:=n8_;have NB2_7:=n9_;have NB7_2:=n10_;have NB3_7:=n11_;have NB7_3:=n12_;clear n0_ n1_ n2_ n3_ n4_ n5_ n6_ n7_ n8_ n9_ n10_ n11_ n12_;clear hb hbox hg;have hnb48:=NB7_1.out;have hnc48:=NB1_7.out;have hnb49:=NB7_2.out;have hnc49:=NB2_7.out;have hnb50:=NB7_3.out;have hnc50:=NB3_7.out;have hcz51_0 : w47.cell? ⟨gb7,0,none⟩ = some (.int .i64 0):=(blk_cell BK7.out 0).trans rfl;have hcz51_1 : w47.cell? ⟨gb7,1,none⟩ = some (.int .i64 0):=(blk_cell BK7.out 1).trans rfl;have hcz51_2 : w47.cell? ⟨gb7,2,none⟩ = some (.int .i64 0):=(blk_cell BK7.out 2).trans rfl;have hcz51_3 : w47.cell? ⟨gb7,3,none⟩ = some (.int .i64 0):=(blk_cell BK7.out 3).trans rfl;have hcz51_4 : w47.cell? ⟨gb7,4,none⟩ = some (.bool false):=(blk_cell BK7.out 4).trans rfl;have hfz51_0:=blk_frozen BK7.out 0;have hfz51_1:=blk_frozen BK7.out 1;have hfz51_2:=blk_frozen BK7.out 2;have hfz51_3:=blk_frozen BK7.out 3;have hfz51_4:=blk_frozen BK7.out 4;have hcz52_0 : w47.cell? ⟨gb3,0,none⟩ = some (.bool false):=(blk_cell BK3.out 0).trans rfl;have hcz52_1 : w47.cell? ⟨gb3,1,none⟩ = some (.int .i64 0):=(blk_cell BK3.out 1).trans rfl;have hcz52_2 : w47.cell? ⟨gb3,2,none⟩ = some (.int .i64 0):=(blk_cell BK3.out 2).trans rfl;have hfz52_0:=blk_frozen BK3.out 0;have hfz52_1:=blk_frozen BK3.out 1;have hfz52_2:=blk_frozen BK3.out 2))
        refine bodyPost_ret (results_ct rfl _ _ gb3 63 #[.bool true,.int .i64 ((rd_T79 l1_3 a1_2).f0),.int .i64 ((rd_T79 l1_3 a1_2).f1)] (0,0) _ rfl (by (with_reducible repeat (first | refine blk_drewN ?_ _ | refine blk_drew ?_ | refine blk_alloc ?_ _));refine blk_put (cs:=#[.bool true,.int .i64 ((rd_T79 l1_3 a1_2).f0),.int .i64 0]) ?_ 2 _ rfl;(with_reducible repeat (first | refine blk_drewN ?_ _ | refine blk_drew ?_ | refine blk_alloc ?_ _));refine blk_put (cs:=#[.bool true,.int .i64 0,.int .i64 0]) ?_ 1 _ rfl;(with_reducible repeat (first | refine blk_drewN ?_ _ | refine blk_drew ?_ | refine blk_alloc ?_ _));refine blk_put (cs:=#[.bool false,.int .i64 0,.int .i64 0]) ?_ 0 _ rfl;(with_reducible repeat (first | refine blk_drewN ?_ _ | refine blk_drew ?_ | refine blk_alloc ?_ _));refine blk_far ?_ NB3_7.out _;(with_reducible repeat (first | refine blk_drewN ?_ _ | refine blk_drew ?_ | refine blk_alloc ?_ _));refine blk_far ?_ NB3_7.out _;(with_reducible repeat (first | refine blk_drewN ?_ _ | refine blk_drew ?_ | refine blk_alloc ?_ _));refine blk_far ?_ NB3_7.out _;(with_reducible repeat (first | refine blk_drewN ?_ _ | refine blk_drew ?_ | refine blk_alloc ?_ _));refine blk_far ?_ NB3_7.out _;(with_reducible repeat (first | refine blk_drewN ?_ _ | refine blk_drew ?_ | refine blk_alloc ?_ _));refine blk_far ?_ NB3_7.out _;(with_reducible repeat (first | refine blk_drewN ?_ _ | refine blk_drew ?_ | refine blk_alloc ?_ _));exact BK3.out) Try.underlying63 rfl (by kernel_rfl)) rfl ?_
        exact ⟨by first | rfl | (simp [errW_none,errW_some] <;> rfl) | (simp [*,errW_none,errW_some] <;> rfl),hb_⟩
       ·rw [if_neg c39] at H
        exact absurd H (by simp)
      ·rw [if_neg c38] at H
       exact absurd H (by simp)
     ·replace c37:=Bool.eq_false_iff.mpr c37
      subst c37
      have H1 : (some (false,0,0,false)) = some (r1,r2,r3,r4):=by rw [if_neg (show ¬ (false = true) by decide)] at H;exact H
      clear H
      have H:=H1
      clear H1
      simp only [Option.some.injEq,Prod.mk.injEq] at H
      obtain ⟨rfl,rfl,rfl,rfl⟩:=H
      have hnb53:=NB2_1.out
      have hnc53:=NB1_2.out
      have hnb54:=NB2_3.out
      have hnc54:=NB3_2.out
      have hcz55_0 : wc.cell? ⟨gb2,0,none⟩ = some (.slice A1_0 l1_0.length c1_0):=(blk_cell BK2.out 0).trans rfl
      have hcz55_1 : wc.cell? ⟨gb2,1,none⟩ = some (.int .i64 a1_1):=(blk_cell BK2.out 1).trans rfl
      have hcz55_2 : wc.cell? ⟨gb2,2,none⟩ = some (.int .i64 a1_2):=(blk_cell BK2.out 2).trans rfl
      have hcz55_3 : wc.cell? ⟨gb2,3,none⟩ = some (.slice A1_3 l1_3.length c1_3):=(blk_cell BK2.out 3).trans rfl
      have hfz55_0:=blk_frozen BK2.out 0
      have hfz55_1:=blk_frozen BK2.out 1
      have hfz55_2:=blk_frozen BK2.out 2
      have hfz55_3:=blk_frozen BK2.out 3
      have hnb56:=NB1_3.out
      have hnc56:=NB3_1.out
      have hcz57_0 : wc.cell? ⟨gb1,0,none⟩ = some (.slice A0_0 l0_0.length c0_0):=(blk_cell BK1.out 0).trans rfl
      have hfz57_0:=blk_frozen BK1.out 0
      go_wp2_with (first | ((with_reducible refine gate_callee (f:=65) rfl ?_);refine goesL_ (some 30) rfl rfl Try.func65 (by kernel_rfl) rfl #[.agg #[.slice A0_0 l0_0.length c0_0],.agg #[.slice A1_3 l1_3.length c1_3],.int .i64 a1_2] rfl lm_ ?_;(with_reducible refine (spec_goodFault.calls kj2 _ _ l0_0 _ _ l1_3 a1_2 false _ ?side1 ?side2 ?side3 ?side4 A36.out).mono ?_);(case side1=>exact cc_ (Kd.C_below HR0_0.out HB.out));(case side2=>exact HC0_0.out);(case side3=>exact cc_ (Kd.C_below HR1_3.out HB.out));(case side4=>exact HC1_3.out);rintro e w58 ⟨rfl,hb⟩;refine ⟨_,rfl,?_⟩;replace BK1:=kb_ BK1 hb;replace BK2:=kb_ BK2 hb;replace BK3:=kb_ BK3 hb;replace HB:=a0_ (below_step hb_ hb);(try clear hb);have hcz59_0 : w58.cell? ⟨gb3,0,none⟩ = some (.bool false):=(blk_cell BK3.out 0).trans rfl;have hcz59_1 : w58.cell? ⟨gb3,1,none⟩ = some (.int .i64 0):=(blk_cell BK3.out 1).trans rfl;have hcz59_2 : w58.cell? ⟨gb3,2,none⟩ = some (.int .i64 0):=(blk_cell BK3.out 2).trans rfl;have hfz59_0:=blk_frozen BK3.out 0;have hfz59_1:=blk_frozen BK3.out 1;have hfz59_2:=blk_frozen BK3.out 2))
      refine bodyPost_ret (results_ct rfl _ _ gb3 63 #[.bool false,.int .i64 0,.int .i64 0] (0,0) _ rfl (by (with_reducible repeat (first | refine blk_drewN ?_ _ | refine blk_drew ?_ | refine blk_alloc ?_ _));refine blk_put (cs:=#[.bool false,.int .i64 0,.int .i64 0]) ?_ 2 _ rfl;(with_reducible repeat (first | refine blk_drewN ?_ _ | refine blk_drew ?_ | refine blk_alloc ?_ _));refine blk_put (cs:=#[.bool false,.int .i64 0,.int .i64 0]) ?_ 1 _ rfl;(with_reducible repeat (first | refine blk_drewN ?_ _ | refine blk_drew ?_ | refine blk_alloc ?_ _));refine blk_put (cs:=#[.bool false,.int .i64 0,.int .i64 0]) ?_ 0 _ rfl;(with_reducible repeat (first | refine blk_drewN ?_ _ | refine blk_drew ?_ | refine blk_alloc ?_ _));exact BK3.out) Try.underlying63 rfl (by kernel_rfl)) rfl ?_
      exact ⟨by first | rfl | (simp [errW_none,errW_some] <;> rfl) | (simp [*,errW_none,errW_some] <;> rfl),hb_⟩
theorem staP_no {t : List Cls} {e v : Int} {h : List Fau} (hn : ¬ (e = 0 ∧ vT t = true)) (hm : ¬ (vT t = true ∧ e = 2 ∧ (vH t h && hasF h v) = true)) : staP t e v h = (false,0,0,false):=by
 unfold staP
 by_cases h1 : vT t = true
 ·rw [if_pos h1,if_neg (fun h=>hn ⟨h,h1⟩),if_neg (fun h=>hm ⟨h1,h⟩)]
 ·rw [if_neg h1]
theorem staP_next {t : List Cls} {e v : Int} {h : List Fau} (hv : vT t = true) (he : e = 0) : staP t e v h = (false,0,0,true):=by
 rw [staP,if_pos hv,if_pos he]
theorem staP_raise {t : List Cls} {e v : Int} {h : List Fau} (hv : vT t = true) (he : e = 2) (hg : (vH t h && hasF h v) = true) : staP t e v h = (true,(fauAt h v).f0,(fauAt h v).f1,true):=by
 rw [staP,if_pos hv,if_neg (by omega),if_pos ⟨he,hg⟩]
theorem spec_StartOf_ev (t : List Cls) (l : List Int) (e v : Int) (h : List Fau) (hs : smT t = true) (ht : t.length ≤ 9223372036854775807) (hl : h.length ≤ 2097152) : Ev (fun k=>spec_StartOf.f k t l e v h) (staP t e v h):=by
 refine Ev.bind (Ev.const (show spec_validTree.f t = some (vT t) by rw [spec_validTree.f,if_pos hs])) ?_
 cases hv : vT t with
 | false =>
  rw [staP_no (fun h=>by rw [hv] at h;cases h.2) (fun h=>by rw [hv] at h;cases h.1)]
  refine Ev.neg (by simp) (Ev.succ ?_)
  simp only [spec_StartOf.j0]
  exact Ev.pos trivial (Ev.const rfl)
 | true =>
  refine Ev.pos rfl ?_
  by_cases h0 : e = 0
  ·rw [staP_next hv h0]
   refine Ev.pos h0 (Ev.succ ?_)
   simp only [spec_StartOf.j0]
   exact Ev.neg (by simp) (Ev.pos h0 (Ev.const rfl))
  ·refine Ev.neg h0 (Ev.succ ?_)
   simp only [spec_StartOf.j0]
   by_cases h2 : e = 2
   ·refine Ev.neg (by simp [h2]) (Ev.neg h0 (Ev.bind (spec_goodFault_ev t h v hs ht hl) ?_))
    cases hq : (vH t h && hasF h v) with
    | false =>
     rw [staP_no (fun h=>h0 h.1) (fun h=>by rw [hq] at h;cases h.2.2)]
     exact Ev.neg (by simp) (Ev.const rfl)
    | true =>
     obtain ⟨_,g0,g1⟩:=good_parts hq
     have hrd : rd_T79 h v = fauAt h v:=by simp [rd_T79,fauAt]
     rw [staP_raise hv h2 hq,hrd]
     exact Ev.pos rfl (Ev.pos g0 (Ev.pos g1 (Ev.const rfl)))
   ·rw [staP_no (fun h=>h0 h.1) (fun h=>h2 h.2.1)]
    exact Ev.pos (by simpa using h2) (Ev.const rfl)
end Go.Proofs.Ytfhcfhffmblacaa.P
namespace Go.Proofs.Ytfhcfhffmblacaa.P
open Go.RowKit Go.Proofs.YtfhcfhffmblacaaW.PrintWords Go.Proofs.YtfhcfhffmblacaaW.PrintLast Go.Proofs.YtfhcfhffmblacaaW.PrintMore
attribute [local go_sem] max2_int min2_int max_two min_two max_three min_three max_four min_four
set_option linter.unusedVariables false
set_option linter.unusedSimpArgs false
def toFault (x : S109) : S79:=⟨x.f0,x.f1,x.f2,x.f3,x.f4⟩
end Go.Proofs.Ytfhcfhffmblacaa.P
namespace Go.Proofs.Ytfhcfhffmblacaa.P
open Go.RowKit Go.Proofs.YtfhcfhffmblacaaW.PrintWords Go.Proofs.YtfhcfhffmblacaaW.PrintLast Go.Proofs.YtfhcfhffmblacaaW.PrintMore
attribute [local go_sem] max2_int min2_int max_two min_two max_three min_three max_four min_four
set_option linter.unusedVariables false
set_option linter.unusedSimpArgs false
def laws_toFault.f (a0_0 : Int) (a0_1 : Int) (a0_2 : Int) (a0_3 : Int) (a0_4 : Bool) : Option (Int × Int × Int × Int × Bool):=some (a0_0,a0_1,a0_2,a0_3,a0_4)
set_option maxHeartbeats 8000000 in
set_option maxRecDepth 100000 in
theorem laws_toFault.calls (a0_0 : Int) (a0_1 : Int) (a0_2 : Int) (a0_3 : Int) (a0_4 : Bool) (r1 : Int) (r2 : Int) (r3 : Int) (r4 : Int) (r5 : Bool) (w : World) (h : laws_toFault.f a0_0 a0_1 a0_2 a0_3 a0_4 = some (r1,r2,r3,r4,r5)) :
  Calls Try.prog 92 #[.agg #[.int .i64 a0_0,.int .i64 a0_1,.int .i64 a0_2,.int .i64 a0_3,.bool a0_4]] w fun e w'=>e = .returned (.agg #[.int .i64 r1,.int .i64 r2,.int .i64 r3,.int .i64 r4,.bool r5]) ∧ Below w.heap.size w w':=by
 have hu109:=Try.underlying109
 have hu79:=Try.underlying79
 have HB:=a0_ (Below.refl w.heap.size w)
 have H : (some (a0_0,a0_1,a0_2,a0_3,a0_4)) = some (r1,r2,r3,r4,r5):=h
 clear h
 simp only [Option.some.injEq,Prod.mk.injEq] at H
 obtain ⟨rfl,rfl,rfl,rfl,rfl⟩:=H
 go_enter Try.func92,Try.ntmps92
 go_wp2_with (first | ((with_reducible refine gate_dst (N:=1) rfl ?_);refine box_event ?hg (N:=1) ?hd (cs:=#[.int .i64 a0_0,.int .i64 a0_1,.int .i64 a0_2,.int .i64 a0_3,.bool a0_4]) (t:=109) ?hr ?_;(case hd=>rfl);(case hg=>rfl);(case hr=>first | (go_simp;done) | (go_simp;rfl));intro gb1 hg w2 hbox hb;have BK1:=a0_ (hbox);have GW1:=a0_ ((by rw [hg];exact (below_size hb_) : w.heap.size ≤ gb1));have GE1:=a0_ ((by rw [hg];exact (below_size hb_) : w.heap.size ≤ gb1));replace HB:=a0_ (below_step hb_ hb);clear hb hbox hg) | ((with_reducible refine gate_dst (N:=2) rfl ?_);refine box_event ?hg (N:=2) ?hd (cs:=#[.int .i64 0,.int .i64 0,.int .i64 0,.int .i64 0,.bool false]) (t:=79) ?hr ?_;(case hd=>rfl);(case hg=>rfl);(case hr=>first | (go_simp;done) | (go_simp;rfl));intro gb2 hg w3 hbox hb;have n0_:=kb_ BK1 hb;have n1_:=a0_ (below_step hb_ hb);have n2_:=a0_ (hbox);have n3_:=a0_ ((by rw [hg];exact (below_size hb_) : w.heap.size ≤ gb2));have n4_:=a0_ ((by rw [hg];exact (below_size hb_) : w.heap.size ≤ gb2));have n5_:=a0_ ((by rw [hg];exact Nat.ne_of_lt (blk_lt (bb_ BK1.out)) : gb1 ≠ gb2));have n6_:=a0_ ((by rw [hg];exact Nat.ne_of_gt (blk_lt (bb_ BK1.out)) : gb2 ≠ gb1));clear BK1 HB;have BK1:=n0_;have HB:=n1_;have BK2:=n2_;have GW2:=n3_;have GE2:=n4_;have NB1_2:=n5_;have NB2_1:=n6_;clear n0_ n1_ n2_ n3_ n4_ n5_ n6_;clear hb hbox hg) | ((with_reducible refine gate_dst (N:=3) rfl ?_);refine box_event ?hg (N:=3) ?hd (cs:=#[.int .i64 0,.int .i64 0,.int .i64 0,.int .i64 0,.bool false]) (t:=79) ?hr ?_;(case hd=>rfl);(case hg=>rfl);(case hr=>first | (go_simp;done) | (go_simp;rfl));intro gb3 hg w4 hbox hb;have n0_:=kb_ BK1 hb;have n1_:=kb_ BK2 hb;have n2_:=a0_ (below_step hb_ hb);have n3_:=a0_ (hbox);have n4_:=a0_ ((by rw [hg];exact (below_size hb_) : w.heap.size ≤ gb3));have n5_:=a0_ ((by rw [hg];exact (below_size hb_) : w.heap.size ≤ gb3));have n6_:=a0_ ((by rw [hg];exact Nat.ne_of_lt (blk_lt (bb_ BK1.out)) : gb1 ≠ gb3));have n7_:=a0_ ((by rw [hg];exact Nat.ne_of_gt (blk_lt (bb_ BK1.out)) : gb3 ≠ gb1));have n8_:=a0_ ((by rw [hg];exact Nat.ne_of_lt (blk_lt (bb_ BK2.out)) : gb2 ≠ gb3));have n9_:=a0_ ((by rw [hg];exact Nat.ne_of_gt (blk_lt (bb_ BK2.out)) : gb3 ≠ gb2));clear BK1 BK2 HB;have BK1:=n0_;have BK2:=n1_;have HB:=n2_;have BK3:=n3_;have GW3:=n4_;have GE3:=n5_;have NB1_3:=n6_;have NB3_1:=n7_;have NB2_3:=n8_;have NB3_2:=n9_;clear n0_ n1_ n2_ n3_ n4_ n5_ n6_ n7_ n8_ n9_;clear hb hbox hg;have hnb5:=NB1_2.out;have hnc5:=NB2_1.out;have hnb6:=NB1_3.out;have hnc6:=NB3_1.out;have hcz7_0 : w4.cell? ⟨gb1,0,none⟩ = some (.int .i64 a0_0):=(blk_cell BK1.out 0).trans rfl;have hcz7_1 : w4.cell? ⟨gb1,1,none⟩ = some (.int .i64 a0_1):=(blk_cell BK1.out 1).trans rfl;have hcz7_2 : w4.cell? ⟨gb1,2,none⟩ = some (.int .i64 a0_2):=(blk_cell BK1.out 2).trans rfl;have hcz7_3 : w4.cell? ⟨gb1,3,none⟩ = some (.int .i64 a0_3):=(blk_cell BK1.out 3).trans rfl;have hcz7_4 : w4.cell? ⟨gb1,4,none⟩ = some (.bool a0_4):=(blk_cell BK1.out 4).trans rfl;have hfz7_0:=blk_frozen BK1.out 0;have hfz7_1:=blk_frozen BK1.out 1;have hfz7_2:=blk_frozen BK1.out 2;have hfz7_3:=blk_frozen BK1.out 3;have hfz7_4:=blk_frozen BK1.out 4;have hnb8:=NB3_2.out;have hnc8:=NB2_3.out;have hcz9_0 : w4.cell? ⟨gb3,0,none⟩ = some (.int .i64 0):=(blk_cell BK3.out 0).trans rfl;have hcz9_1 : w4.cell? ⟨gb3,1,none⟩ = some (.int .i64 0):=(blk_cell BK3.out 1).trans rfl;have hcz9_2 : w4.cell? ⟨gb3,2,none⟩ = some (.int .i64 0):=(blk_cell BK3.out 2).trans rfl;have hcz9_3 : w4.cell? ⟨gb3,3,none⟩ = some (.int .i64 0):=(blk_cell BK3.out 3).trans rfl;have hcz9_4 : w4.cell? ⟨gb3,4,none⟩ = some (.bool false):=(blk_cell BK3.out 4).trans rfl;have hfz9_0:=blk_frozen BK3.out 0;have hfz9_1:=blk_frozen BK3.out 1;have hfz9_2:=blk_frozen BK3.out 2;have hfz9_3:=blk_frozen BK3.out 3;have hfz9_4:=blk_frozen BK3.out 4;have hcz10_0 : w4.cell? ⟨gb2,0,none⟩ = some (.int .i64 0):=(blk_cell BK2.out 0).trans rfl;have hcz10_1 : w4.cell? ⟨gb2,1,none⟩ = some (.int .i64 0):=(blk_cell BK2.out 1).trans rfl;have hcz10_2 : w4.cell? ⟨gb2,2,none⟩ = some (.int .i64 0):=(blk_cell BK2.out 2).trans rfl;have hcz10_3 : w4.cell? ⟨gb2,3,none⟩ = some (.int .i64 0):=(blk_cell BK2.out 3).trans rfl;have hcz10_4 : w4.cell? ⟨gb2,4,none⟩ = some (.bool false):=(blk_cell BK2.out 4).trans rfl;have hfz10_0:=blk_frozen BK2.out 0;have hfz10_1:=blk_frozen BK2.out 1;have hfz10_2:=blk_frozen BK2.out 2;have hfz10_3:=blk_frozen BK2.out 3;have hfz10_4:=blk_frozen BK2.out 4))
 refine bodyPost_ret (results_cell_row rfl _ _ gb2 79 #[.int .i64 a0_0,.int .i64 a0_1,.int .i64 a0_2,.int .i64 a0_3,.bool a0_4] (0,0) _ rfl (by (with_reducible repeat (first | refine blk_drewN ?_ _ | refine blk_drew ?_ | refine blk_alloc ?_ _));refine blk_put (cs:=#[.int .i64 a0_0,.int .i64 a0_1,.int .i64 a0_2,.int .i64 a0_3,.bool false]) ?_ 4 _ rfl;(with_reducible repeat (first | refine blk_drewN ?_ _ | refine blk_drew ?_ | refine blk_alloc ?_ _));refine blk_put (cs:=#[.int .i64 a0_0,.int .i64 a0_1,.int .i64 a0_2,.int .i64 0,.bool false]) ?_ 3 _ rfl;(with_reducible repeat (first | refine blk_drewN ?_ _ | refine blk_drew ?_ | refine blk_alloc ?_ _));refine blk_put (cs:=#[.int .i64 a0_0,.int .i64 a0_1,.int .i64 0,.int .i64 0,.bool false]) ?_ 2 _ rfl;(with_reducible repeat (first | refine blk_drewN ?_ _ | refine blk_drew ?_ | refine blk_alloc ?_ _));refine blk_put (cs:=#[.int .i64 a0_0,.int .i64 0,.int .i64 0,.int .i64 0,.bool false]) ?_ 1 _ rfl;(with_reducible repeat (first | refine blk_drewN ?_ _ | refine blk_drew ?_ | refine blk_alloc ?_ _));refine blk_put (cs:=#[.int .i64 0,.int .i64 0,.int .i64 0,.int .i64 0,.bool false]) ?_ 0 _ rfl;(with_reducible repeat (first | refine blk_drewN ?_ _ | refine blk_drew ?_ | refine blk_alloc ?_ _));refine blk_far ?_ NB2_3.out _;(with_reducible repeat (first | refine blk_drewN ?_ _ | refine blk_drew ?_ | refine blk_alloc ?_ _));refine blk_far ?_ NB2_3.out _;(with_reducible repeat (first | refine blk_drewN ?_ _ | refine blk_drew ?_ | refine blk_alloc ?_ _));refine blk_far ?_ NB2_3.out _;(with_reducible repeat (first | refine blk_drewN ?_ _ | refine blk_drew ?_ | refine blk_alloc ?_ _));refine blk_far ?_ NB2_3.out _;(with_reducible repeat (first | refine blk_drewN ?_ _ | refine blk_drew ?_ | refine blk_alloc ?_ _));refine blk_far ?_ NB2_3.out _;(with_reducible repeat (first | refine blk_drewN ?_ _ | refine blk_drew ?_ | refine blk_alloc ?_ _));exact BK2.out) Try.underlying79 rfl (by kernel_rfl)) rfl ?_
 exact ⟨by first | rfl | (simp [errW_none,errW_some] <;> rfl) | (simp [*,errW_none,errW_some] <;> rfl),hb_⟩
end Go.Proofs.Ytfhcfhffmblacaa.P
namespace Go.Proofs.Ytfhcfhffmblacaa.P
open Go.RowKit Go.Proofs.YtfhcfhffmblacaaW.PrintWords Go.Proofs.YtfhcfhffmblacaaW.PrintLast Go.Proofs.YtfhcfhffmblacaaW.PrintMore
attribute [local go_sem] max2_int min2_int max_two min_two max_three min_three max_four min_four
set_option linter.unusedVariables false
set_option linter.unusedSimpArgs false
def laws_toFaultS.l0 : Nat → List (S109) → List (S79) → Int → Option ((List (S79)))
 | 0,_,_,_=>none
 | k + 1,x0,x3,x4=>if x4 < (x0.length : Int) then (if 0 ≤ x4 then ((laws_toFault.f ((rd_T109 x0 x4).f0) ((rd_T109 x0 x4).f1) ((rd_T109 x0 x4).f2) ((rd_T109 x0 x4).f3) ((rd_T109 x0 x4).f4)).bind fun bt5=>(if x4 < (x3.length : Int) then (laws_toFaultS.l0 k x0 (x3.set (x4 : Int).toNat (⟨bt5.1,bt5.2.1,bt5.2.2.1,bt5.2.2.2.1,bt5.2.2.2.2⟩ : S79)) (wrap64 (x4 + 1))) else (none))) else (none)) else (some x3)
def laws_toFaultS.f (k : Nat) (l0 : List (S109)) : Option ((List (S79))):=if 0 ≤ (l0.length : Int) then (if ((l0.length : Int) : Int).toNat ≤ 7036874417766 then (laws_toFaultS.l0 k l0 (List.replicate ((l0.length : Int) : Int).toNat z79) 0) else (none)) else (none)
theorem laws_toFaultS.mono_l : ∀ k,(∀ y0 y1 y2,LeO (laws_toFaultS.l0 k y0 y1 y2) (laws_toFaultS.l0 (k + 1) y0 y1 y2))
 | 0=>fun _ _ _ r h=>by simp [laws_toFaultS.l0] at h
 | k + 1=>by
  have ih0:=laws_toFaultS.mono_l k
  ·intro y0 y1 y2
   unfold laws_toFaultS.l0
   repeat' first
   | (with_reducible exact ih0 _ _ _)
   | (with_reducible exact LeO.refl _)
   | (with_reducible exact LeO.none _)
   | (with_reducible refine LeO.ite ?_ ?_)
   | (with_reducible refine LeO.bind ?_ (fun _=>?_))
   | exact ih0 _ _ _
   | exact LeO.none _
   | refine LeO.ite ?_ ?_
   | refine LeO.bind ?_ (fun _=>?_)
theorem laws_toFaultS.mono : ∀ a0 k,LeO (laws_toFaultS.f k a0) (laws_toFaultS.f (k + 1) a0):=by
 intro a0 k
 have ih0:=laws_toFaultS.mono_l k
 unfold laws_toFaultS.f
 repeat' first
   | (with_reducible exact ih0 _ _ _)
   | (with_reducible exact LeO.refl _)
   | (with_reducible exact LeO.none _)
   | (with_reducible refine LeO.ite ?_ ?_)
   | (with_reducible refine LeO.bind ?_ (fun _=>?_))
   | exact ih0 _ _ _
   | exact LeO.none _
   | refine LeO.ite ?_ ?_
   | refine LeO.bind ?_ (fun _=>?_)
set_option maxHeartbeats 8000000 in
set_option maxRecDepth 100000 in
theorem laws_toFaultS.calls (k : Nat) (A0 : Option Addr) (c0 : Nat) (l0 : List (S109)) (r : List (S79)) (w : World) (hr0 : Kd.C k109 w A0 l0.length l0) (hc0 : l0.length ≤ c0) (h : laws_toFaultS.f k l0 = some r) :
  Calls Try.prog 56 #[.slice A0 l0.length c0] w fun e w'=>∃ v0_ : Value,e = .returned (v0_) ∧ Kd.R k79 79 w' w.heap.size (fun _=>True) v0_ r ∧ Below w.heap.size w w':=by
 have hu109:=Try.underlying109
 have hu79:=Try.underlying79
 have HR0:=a0_ hr0
 have HC0:=a0_ hc0
 clear hr0 hc0
 have HB:=a0_ (Below.refl w.heap.size w)
 have H : (if 0 ≤ (l0.length : Int) then (if ((l0.length : Int) : Int).toNat ≤ 7036874417766 then (laws_toFaultS.l0 k l0 (List.replicate ((l0.length : Int) : Int).toNat z79) 0) else (none)) else (none)) = some r:=h
 clear h
 by_cases c2 : 0 ≤ (l0.length : Int)
 ·rw [if_pos c2] at H
  have c2b0:=eq_true c2
  have c2b1 : decide (0 ≤ (l0.length : Int)) = true:=decide_eq_true c2
  clear c2
  by_cases c3 : ((l0.length : Int) : Int).toNat ≤ 7036874417766
  ·rw [if_pos c3] at H
   have c3b0:=eq_true c3
   have c3b1 : decide (((l0.length : Int) : Int).toNat ≤ 7036874417766) = true:=decide_eq_true c3
   clear c3
   obtain ⟨y1,hy1⟩ : ∃ y_ : List (S79),y_ = (List.replicate ((l0.length : Int) : Int).toNat z79):=⟨_,rfl⟩
   replace H : (laws_toFaultS.l0 k l0 y1 0) = some r:=by first | (rw [hy1];with_reducible exact H) | (have H2_:=(Option.bind_some _ _).symm.trans H;rw [hy1];with_reducible exact H2_) | (have H2_:=(Option.bind_some _ _).symm.trans H;with_reducible exact H2_) | with_reducible exact H | (rw [hy1];exact H) | exact H
   have Ny1:=a0_ hy1
   clear hy1
   have H':=a0_ H
   clear H
   go_enter Try.func56,Try.ntmps56
   go_wp2_with (first | ((with_reducible refine gate_dst (N:=7) rfl ?_);refine Kd.R_make k79 _ 79 rfl (N:=7) rfl 35 _ _ rfl (l0.length : Int) rfl rfl Try.underlying35 (.agg #[(.int .i64 0),(.int .i64 0),(.int .i64 0),(.int .i64 0),(.bool false)]) 40 info79 rfl (by decide) (by omega) z79 (ok:=fun _=>True) (okp:=fun _=>True) (k79_mkM _ _ _ z79 ) (fun _ hk=>hk) trivial (of_decide_eq_true (by first | (with_reducible assumption) | assumption)) (Nat.le_trans (Nat.mul_le_mul_right _ (of_decide_eq_true (by first | (with_reducible assumption) | assumption) : (l0.length : Int).toNat ≤ 7036874417766)) (by omega)) (Below.refl _ _) (Nat.le_refl _) ?_;intro v2 w4 ho5 hb hg_ hnew_;clear hg_ hnew_;(first | rw [← Ny1.out] at ho5 | (simp only [Int.reduceToNat] at ho5;rw [← Ny1.out] at ho5));have HO3:=a0_ (Kd.R_lower ho5 (below_size hb_));replace HB:=a0_ (below_step hb_ hb);clear hb ho5))
   go_loopg [4] k (fun kq v4 w'=>∃ (x3_1 : List (S79)) (x4_1 : Int),v4 = .int .i64 x4_1 ∧ Aside0 (laws_toFaultS.l0 kq l0 x3_1 x4_1 = some r) ∧ Aside0 (kq ≤ k) ∧ Aside0 (Kd.R k79 79 w' w.heap.size (fun _=>True) v2 x3_1) ∧ Aside0 (Below w.heap.size w w'))
   case atStart=>exact ⟨(y1),(0),(by first | rfl | (simp;done) | (simp [*];done)),H',⟨Nat.le_refl _⟩,⟨by (with_reducible repeat (first | apply Kd.R_alloc | apply Kd.R_drewN | apply Kd.R_drew));exact HO3.out⟩,⟨hb_⟩⟩
   case round =>
    clear H'
    try clear c2
    try clear c2b0
    try clear c2b1
    try clear p2
    try clear c3
    try clear c3b0
    try clear c3b1
    try clear c5
    obtain ⟨x3_1,x4_1,rfl,HA,HK1,HO_3,HB⟩:=hrel
    cases gk with
    | zero=>exact absurd HA.out (by simp [laws_toFaultS.l0])
    | succ k1 =>
     have H:=HA.out
     clear HA
     simp only [laws_toFaultS.l0] at H
     by_cases c6 : x4_1 < (l0.length : Int)
     ·rw [if_pos c6] at H
      have c6b0 : decide (x4_1 < (l0.length : Int)) = true:=decide_eq_true c6
      clear c6
      by_cases c7 : 0 ≤ x4_1
      ·rw [if_pos c7] at H
       have c7b0 : decide (0 ≤ x4_1) = true:=decide_eq_true c7
       clear c7
       replace H:=Option.bind_eq_some_iff.mp H
       obtain ⟨⟨t5,t6,t7,t8,t9⟩,A80,H⟩:=H
       replace H : (if x4_1 < (x3_1.length : Int) then (laws_toFaultS.l0 k1 l0 (x3_1.set (x4_1 : Int).toNat (⟨t5,t6,t7,t8,t9⟩ : S79)) (wrap64 (x4_1 + 1))) else (none)) = some r:=H
       have A8:=a0_ A80
       clear A80
       by_cases c9 : x4_1 < (x3_1.length : Int)
       ·rw [if_pos c9] at H
        have c9b0 : decide (x4_1 < (x3_1.length : Int)) = true:=decide_eq_true c9
        clear c9
        obtain ⟨y10,hy10⟩ : ∃ y_ : List (S79),y_ = (x3_1.set (x4_1 : Int).toNat (⟨t5,t6,t7,t8,t9⟩ : S79)):=⟨_,rfl⟩
        replace H : (laws_toFaultS.l0 k1 l0 y10 (wrap64 (x4_1 + 1))) = some r:=by first | (rw [hy10];with_reducible exact H) | (have H2_:=(Option.bind_some _ _).symm.trans H;rw [hy10];with_reducible exact H2_) | (have H2_:=(Option.bind_some _ _).symm.trans H;with_reducible exact H2_) | with_reducible exact H | (rw [hy10];exact H) | exact H
        have Ny10:=a0_ hy10
        clear hy10
        have H':=a0_ H
        clear H
        have p4 : 0 ≤ (x4_1 : Int):=of_decide_eq_true (by first | (with_reducible assumption) | assumption)
        have q4 : x4_1 < (l0.length : Int):=of_decide_eq_true (by first | (with_reducible assumption) | assumption)
        obtain ⟨ad4,e4,hx4_0,hx4_1,hx4_2,hx4_3,hx4_4⟩:=at_T109 HR0.out x4_1 p4 q4
        cases e4
        replace hx4_0:=(HB.out.cell (World.block_lt_of_cell? w _ hx4_0)).trans hx4_0
        replace hx4_1:=(HB.out.cell (World.block_lt_of_cell? w _ hx4_1)).trans hx4_1
        replace hx4_2:=(HB.out.cell (World.block_lt_of_cell? w _ hx4_2)).trans hx4_2
        replace hx4_3:=(HB.out.cell (World.block_lt_of_cell? w _ hx4_3)).trans hx4_3
        replace hx4_4:=(HB.out.cell (World.block_lt_of_cell? w _ hx4_4)).trans hx4_4
        replace p4:=eq_true p4
        replace q4:=eq_true q4
        go_wp2_with (first | ((with_reducible refine gate_callee (f:=92) rfl ?_);refine goesL_ (some 20) rfl rfl Try.func92 (by kernel_rfl) rfl #[.agg #[.int .i64 ((rd_T109 l0 x4_1).f0),.int .i64 ((rd_T109 l0 x4_1).f1),.int .i64 ((rd_T109 l0 x4_1).f2),.int .i64 ((rd_T109 l0 x4_1).f3),.bool ((rd_T109 l0 x4_1).f4)]] rfl lm_ ?_;(with_reducible refine (laws_toFault.calls ((rd_T109 l0 x4_1).f0) ((rd_T109 l0 x4_1).f1) ((rd_T109 l0 x4_1).f2) ((rd_T109 l0 x4_1).f3) ((rd_T109 l0 x4_1).f4) t5 t6 t7 t8 t9 _ A8.out).mono ?_);rintro e w11 ⟨rfl,hb⟩;refine ⟨_,rfl,?_⟩;replace HO_3:=rb_ HO_3 hb;replace HB:=a0_ (below_step hb_ hb);(try clear hb);have p10 : 0 ≤ (x4_1 : Int):=of_decide_eq_true (by first | (with_reducible assumption) | assumption);have q10 : (x4_1 : Int) < ((x3_1.length : Int) : Int):=of_decide_eq_true (by first | (with_reducible assumption) | assumption);obtain ⟨go10,co10,eo10,gb10,gl10,cl10,HG10⟩:=Kd.R_form HO_3.out (by omega);(first | cases eo10 | (injection eo10 with ea_ en_ ec_;(first | subst ea_ | (injection ea_ with ea_;subst ea_));subst ec_;clear en_));have GB10:=a0_ gb10;have GG10:=a0_ HG10;clear gb10 gl10 HG10;obtain ⟨ce10,hcl10,hM10,hcc10,hfr10⟩:=Kd.R_elem HO_3.out z79 (x4_1 : Int) p10 q10;obtain rfl:=k79_openM hM10;have hx10_0 : w11.cell? ⟨go10,(x4_1 : Int).toNat * 5,none⟩ = some (.int .i64 ((rd_T79 x3_1 x4_1).f0)):=hcc10 0 _ rfl;have hx10_1 : w11.cell? ⟨go10,(x4_1 : Int).toNat * 5 + 1,none⟩ = some (.int .i64 ((rd_T79 x3_1 x4_1).f1)):=hcc10 1 _ rfl;have hx10_2 : w11.cell? ⟨go10,(x4_1 : Int).toNat * 5 + 2,none⟩ = some (.int .i64 ((rd_T79 x3_1 x4_1).f2)):=hcc10 2 _ rfl;have hx10_3 : w11.cell? ⟨go10,(x4_1 : Int).toNat * 5 + 3,none⟩ = some (.int .i64 ((rd_T79 x3_1 x4_1).f3)):=hcc10 3 _ rfl;have hx10_4 : w11.cell? ⟨go10,(x4_1 : Int).toNat * 5 + 4,none⟩ = some (.bool ((rd_T79 x3_1 x4_1).f4)):=hcc10 4 _ rfl;have hf10_0 : w11.frozen? ⟨go10,(x4_1 : Int).toNat * 5,none⟩ = false:=hfr10 0;have hf10_1 : w11.frozen? ⟨go10,(x4_1 : Int).toNat * 5 + 1,none⟩ = false:=hfr10 1;have hf10_2 : w11.frozen? ⟨go10,(x4_1 : Int).toNat * 5 + 2,none⟩ = false:=hfr10 2;have hf10_3 : w11.frozen? ⟨go10,(x4_1 : Int).toNat * 5 + 3,none⟩ = false:=hfr10 3;have hf10_4 : w11.frozen? ⟨go10,(x4_1 : Int).toNat * 5 + 4,none⟩ = false:=hfr10 4;clear hcl10 hcc10 hfr10 hM10;replace p10:=eq_true p10;replace q10:=eq_true q10;have HX12:=a0_ (show Kd.R k79 79 w11 w.heap.size (fun _=>True) (.slice (some ⟨go10,0,none⟩) x3_1.length co10) x3_1 from (rr_ HO_3.out));obtain ⟨ce12,hcl12,hM12,hcc12,hfr12⟩:=Kd.R_elem HX12.out z79 (x4_1 : Int) (of_decide_eq_true (by first | (with_reducible assumption) | assumption)) (by have h_ : (x4_1 : Int) < ((x3_1.length : Int) : Int):=of_decide_eq_true (by first | (with_reducible assumption) | assumption);first | exact h_ | (have e_:=(Kd.R_reads' HO_3.out).1;omega) | simpa using h_);obtain rfl:=k79_openM hM12;have HP12:=Kd.R_seg HX12.out (x4_1 : Int) (of_decide_eq_true (by first | (with_reducible assumption) | assumption)) (by have h_ : (x4_1 : Int) < ((x3_1.length : Int) : Int):=of_decide_eq_true (by first | (with_reducible assumption) | assumption);first | exact h_ | (have e_:=(Kd.R_reads' HO_3.out).1;omega) | simpa using h_) (seg:=[.int .i64 t5,.int .i64 t6,.int .i64 t7,.int .i64 t8,.bool t9]) (j:=0) hcl12 hcc12 (show 5 ≤ 5 from by decide) (x':=(⟨t5,t6,t7,t8,t9⟩ : S79)) (k79_mkM _ _ _ (⟨t5,t6,t7,t8,t9⟩ : S79) ) (fun _ hk=>hk);have hx12_0:=hcc12 0 _ rfl;(try simp only [show (k79).sz = 5 from rfl,Nat.mul_one,Nat.add_zero] at hx12_0);have hf12_0:=hfr12 0;(try simp only [show (k79).sz = 5 from rfl,Nat.mul_one,Nat.add_zero] at hf12_0);have hx12_1:=hcc12 1 _ rfl;(try simp only [show (k79).sz = 5 from rfl,Nat.mul_one,Nat.add_zero] at hx12_1);have hf12_1:=hfr12 1;(try simp only [show (k79).sz = 5 from rfl,Nat.mul_one,Nat.add_zero] at hf12_1);have hx12_2:=hcc12 2 _ rfl;(try simp only [show (k79).sz = 5 from rfl,Nat.mul_one,Nat.add_zero] at hx12_2);have hf12_2:=hfr12 2;(try simp only [show (k79).sz = 5 from rfl,Nat.mul_one,Nat.add_zero] at hf12_2);have hx12_3:=hcc12 3 _ rfl;(try simp only [show (k79).sz = 5 from rfl,Nat.mul_one,Nat.add_zero] at hx12_3);have hf12_3:=hfr12 3;(try simp only [show (k79).sz = 5 from rfl,Nat.mul_one,Nat.add_zero] at hf12_3);have hx12_4:=hcc12 4 _ rfl;(try simp only [show (k79).sz = 5 from rfl,Nat.mul_one,Nat.add_zero] at hx12_4);have hf12_4:=hfr12 4;(try simp only [show (k79).sz = 5 from rfl,Nat.mul_one,Nat.add_zero] at hf12_4);clear hcl12 hcc12 hfr12 hM12) | ((with_reducible refine gate_store (t:=79) (p:=21) rfl ?_);refine store_event (t:=79) (p:=21) (v:=?vo_w13) (w1:=(((((w11.setCell ⟨go10,(x4_1 : Int).toNat * 5,none⟩ (.int .i64 t5)).setCell ⟨go10,(x4_1 : Int).toNat * 5 + 1,none⟩ (.int .i64 t6)).setCell ⟨go10,(x4_1 : Int).toNat * 5 + 2,none⟩ (.int .i64 t7)).setCell ⟨go10,(x4_1 : Int).toNat * 5 + 3,none⟩ (.int .i64 t8)).setCell ⟨go10,(x4_1 : Int).toNat * 5 + 4,none⟩ (.bool t9))) ?hg ?ho ?hn ?hr ?_;(case ho=>rfl);(case hg=>rfl);(case hn=>rfl);(case hr=>first | (go_simp;done) | (go_simp;rfl));intro w13 hw;have hg : w11.grownBy w13 (some go10):=(by rw [hw];exact HP12.2);have hp_ : Kd.R k79 79 w13 w.heap.size (fun _=>True) (.slice (some ⟨go10,0,none⟩) x3_1.length co10) y10:=(by rw [hw,Ny10.out];exact HP12.1);clear HP12;replace HO_3:=a0_ (hp_);replace HB:=a0_ ((by rw [hw];exact below_set (below_set (below_set (below_set (below_set (HB.out) GB10.out) GB10.out) GB10.out) GB10.out) GB10.out : Below w.heap.size w w13));clear hg hw hp_))
        go_roundg k1
        case measure=>have:=HK1.out;omega
        case rel=>exact ⟨(y10),(wrap64 (x4_1 + 1)),(by first | rfl | (simp;done) | (simp [*];done)),H',⟨by have:=HK1.out;omega⟩,⟨by (with_reducible repeat (first | apply Kd.R_alloc | apply Kd.R_drewN | apply Kd.R_drew));exact HO_3.out⟩,⟨hb_⟩⟩
       ·rw [if_neg c9] at H
        exact absurd H (by simp)
      ·rw [if_neg c7] at H
       exact absurd H (by simp)
     ·rw [if_neg c6] at H
      have c6b0 : decide (x4_1 < (l0.length : Int)) = false:=decide_eq_false c6
      clear c6
      obtain rfl:=Option.some.inj H
      go_wp2
      go_ret
      exact ⟨_,by first | rfl | (simp [errW_none,errW_some] <;> rfl) | (simp [*,errW_none,errW_some] <;> rfl),by (with_reducible repeat (first | apply Kd.R_alloc | apply Kd.R_drewN | apply Kd.R_drew));exact HO_3.out,hb_⟩
  ·rw [if_neg c3] at H
   exact absurd H (by simp)
 ·rw [if_neg c2] at H
  exact absurd H (by simp)
theorem laws_toFaultS_ev (t : List S109) (ht : t.length ≤ 1048576) : Ev (fun k=>laws_toFaultS.f k t) (t.map toFault):=by
 have h:=st_loop (fun k acc i=>laws_toFaultS.l0 k t acc i) t.length (fun i=>((t.take i).map toFault) ++ List.replicate (t.length - i) z79) (t.map toFault) (by
  intro k i hi
  simp only [laws_toFaultS.l0,laws_toFault.f,Option.bind_some]
  rw [if_pos (by omega),if_pos (by omega),if_pos (by rw [fill_len _ _ _ _ (by omega)];omega),wrap_succ (i:=(i : Int)) (n:=t.length) (by omega) (by omega) (by omega)]
  have:=fill_at t toFault z109 z79 i hi
  rw [show ((i : Int) : Int).toNat = i by omega]
  rw [show (⟨(rd_T109 t (i : Int)).f0,(rd_T109 t (i : Int)).f1,(rd_T109 t (i : Int)).f2,(rd_T109 t (i : Int)).f3,(rd_T109 t (i : Int)).f4⟩ : S79) = toFault (t.getD i z109) from by simp [toFault,rd_T109],this]
  rfl) (by
  intro k
  simp only [laws_toFaultS.l0]
  rw [if_neg (by omega)]
  simp)
 refine Ev.of_mono (laws_toFaultS.mono t) (K:=t.length + 1) ?_
 unfold laws_toFaultS.f
 rw [if_pos (by omega),if_pos (by omega)]
 simpa using h
end Go.Proofs.Ytfhcfhffmblacaa.P
namespace Go.Proofs.Ytfhcfhffmblacaa.P
open Go.RowKit Go.Proofs.YtfhcfhffmblacaaW.PrintWords Go.Proofs.YtfhcfhffmblacaaW.PrintLast Go.Proofs.YtfhcfhffmblacaaW.PrintMore
attribute [local go_sem] max2_int min2_int max_two min_two max_three min_three max_four min_four
set_option linter.unusedVariables false
set_option linter.unusedSimpArgs false
def laws_toHeap.f (k : Nat) (l0_0 : List (S109)) : Option ((List (S79))):=(laws_toFaultS.f k l0_0).bind fun t4=>(some t4)
theorem laws_toHeap.mono : ∀ a0 k,LeO (laws_toHeap.f k a0) (laws_toHeap.f (k + 1) a0):=by
 intro a0 k
 unfold laws_toHeap.f
 repeat' first
   | (with_reducible exact laws_toFaultS.mono _ _)
   | (with_reducible exact LeO.refl _)
   | (with_reducible exact LeO.none _)
   | (with_reducible refine LeO.ite ?_ ?_)
   | (with_reducible refine LeO.bind ?_ (fun _=>?_))
   | exact laws_toFaultS.mono _ _
   | exact LeO.none _
   | refine LeO.ite ?_ ?_
   | refine LeO.bind ?_ (fun _=>?_)
set_option maxHeartbeats 8000000 in
set_option maxRecDepth 100000 in
theorem laws_toHeap.calls (k : Nat) (A0_0 : Option Addr) (c0_0 : Nat) (l0_0 : List (S109)) (r : List (S79)) (w : World) (hr0_0 : Kd.C k109 w A0_0 l0_0.length l0_0) (hc0_0 : l0_0.length ≤ c0_0) (h : laws_toHeap.f k l0_0 = some r) :
  Calls Try.prog 18 #[.agg #[.slice A0_0 l0_0.length c0_0]] w fun e w'=>∃ v0_ : Value,e = .returned (.agg #[v0_]) ∧ Kd.R k79 79 w' w.heap.size (fun _=>True) v0_ r ∧ Below w.heap.size w w':=by
 have hu27:=Try.underlying27
 have hu37:=Try.underlying37
 have HR0_0:=a0_ hr0_0
 have HC0_0:=a0_ hc0_0
 clear hr0_0 hc0_0
 have HB:=a0_ (Below.refl w.heap.size w)
 have H : ((laws_toFaultS.f k l0_0).bind fun t4=>(some t4)) = some r:=h
 clear h
 replace H:=Option.bind_eq_some_iff.mp H
 obtain ⟨t4,A20,H⟩:=H
 replace H : (some t4) = some r:=H
 have A2:=a0_ A20
 clear A20
 obtain rfl:=Option.some.inj H
 go_enter Try.func18,Try.ntmps18
 go_wp2_with (first | ((with_reducible refine gate_dst (N:=1) rfl ?_);refine box_event ?hg (N:=1) ?hd (cs:=#[.slice A0_0 l0_0.length c0_0]) (t:=27) ?hr ?_;(case hd=>rfl);(case hg=>rfl);(case hr=>first | (go_simp;done) | (go_simp;rfl));intro gb1 hg w3 hbox hb;have BK1:=a0_ (hbox);have GW1:=a0_ ((by rw [hg];exact (below_size hb_) : w.heap.size ≤ gb1));have GE1:=a0_ ((by rw [hg];exact (below_size hb_) : w.heap.size ≤ gb1));replace HB:=a0_ (below_step hb_ hb);clear hb hbox hg) | ((with_reducible refine gate_dst (N:=2) rfl ?_);refine box_event ?hg (N:=2) ?hd (cs:=#[.slice none 0 0]) (t:=37) ?hr ?_;(case hd=>rfl);(case hg=>rfl);(case hr=>first | (go_simp;done) | (go_simp;rfl));intro gb2 hg w4 hbox hb;have n0_:=kb_ BK1 hb;have n1_:=a0_ (below_step hb_ hb);have n2_:=a0_ (hbox);have n3_:=a0_ ((by rw [hg];exact (below_size hb_) : w.heap.size ≤ gb2));have n4_:=a0_ ((by rw [hg];exact (below_size hb_) : w.heap.size ≤ gb2));have n5_:=a0_ ((by rw [hg];exact Nat.ne_of_lt (blk_lt (bb_ BK1.out)) : gb1 ≠ gb2));have n6_:=a0_ ((by rw [hg];exact Nat.ne_of_gt (blk_lt (bb_ BK1.out)) : gb2 ≠ gb1));clear BK1 HB;have BK1:=n0_;have HB:=n1_;have BK2:=n2_;have GW2:=n3_;have GE2:=n4_;have NB1_2:=n5_;have NB2_1:=n6_;clear n0_ n1_ n2_ n3_ n4_ n5_ n6_;clear hb hbox hg) | ((with_reducible refine gate_dst (N:=3) rfl ?_);refine box_event ?hg (N:=3) ?hd (cs:=#[.slice none 0 0]) (t:=37) ?hr ?_;(case hd=>rfl);(case hg=>rfl);(case hr=>first | (go_simp;done) | (go_simp;rfl));intro gb3 hg w5 hbox hb;have n0_:=kb_ BK1 hb;have n1_:=kb_ BK2 hb;have n2_:=a0_ (below_step hb_ hb);have n3_:=a0_ (hbox);have n4_:=a0_ ((by rw [hg];exact (below_size hb_) : w.heap.size ≤ gb3));have n5_:=a0_ ((by rw [hg];exact (below_size hb_) : w.heap.size ≤ gb3));have n6_:=a0_ ((by rw [hg];exact Nat.ne_of_lt (blk_lt (bb_ BK1.out)) : gb1 ≠ gb3));have n7_:=a0_ ((by rw [hg];exact Nat.ne_of_gt (blk_lt (bb_ BK1.out)) : gb3 ≠ gb1));have n8_:=a0_ ((by rw [hg];exact Nat.ne_of_lt (blk_lt (bb_ BK2.out)) : gb2 ≠ gb3));have n9_:=a0_ ((by rw [hg];exact Nat.ne_of_gt (blk_lt (bb_ BK2.out)) : gb3 ≠ gb2));clear BK1 BK2 HB;have BK1:=n0_;have BK2:=n1_;have HB:=n2_;have BK3:=n3_;have GW3:=n4_;have GE3:=n5_;have NB1_3:=n6_;have NB3_1:=n7_;have NB2_3:=n8_;have NB3_2:=n9_;clear n0_ n1_ n2_ n3_ n4_ n5_ n6_ n7_ n8_ n9_;clear hb hbox hg;have hnb6:=NB1_2.out;have hnc6:=NB2_1.out;have hnb7:=NB1_3.out;have hnc7:=NB3_1.out;have hcz8_0 : w5.cell? ⟨gb1,0,none⟩ = some (.slice A0_0 l0_0.length c0_0):=(blk_cell BK1.out 0).trans rfl;have hfz8_0:=blk_frozen BK1.out 0) | ((with_reducible refine gate_callee (f:=56) rfl ?_);refine goesL_ (some 6) rfl rfl Try.func56 (by kernel_rfl) rfl #[.slice A0_0 l0_0.length c0_0] rfl lm_ ?_;(with_reducible refine (laws_toFaultS.calls k _ _ l0_0 t4 _ ?side1 ?side2 A2.out).mono ?_);(case side1=>exact cc_ (Kd.C_below HR0_0.out HB.out));(case side2=>exact HC0_0.out);rintro e w9 ⟨v5,rfl,ho0,hb⟩;refine ⟨_,rfl,?_⟩;have HO6:=a0_ (Kd.R_lower ho0 (below_size hb_));replace BK1:=kb_ BK1 hb;replace BK2:=kb_ BK2 hb;replace BK3:=kb_ BK3 hb;replace HB:=a0_ (below_step hb_ hb);(try clear hb);(try clear ho0);obtain ⟨Ao10,co10,eo10⟩:=Kd.R_slice HO6.out;subst eo10;have hnb11:=NB3_2.out;have hnc11:=NB2_3.out;have hcz12_0 : w9.cell? ⟨gb3,0,none⟩ = some (.slice none 0 0):=(blk_cell BK3.out 0).trans rfl;have hfz12_0:=blk_frozen BK3.out 0;have hcz13_0 : w9.cell? ⟨gb2,0,none⟩ = some (.slice none 0 0):=(blk_cell BK2.out 0).trans rfl;have hfz13_0:=blk_frozen BK2.out 0))
 refine bodyPost_ret (results_cell_row rfl _ _ gb2 37 #[.slice Ao10 t4.length co10] (0,0) _ rfl (by (with_reducible repeat (first | refine blk_drewN ?_ _ | refine blk_drew ?_ | refine blk_alloc ?_ _));refine blk_put (cs:=#[.slice none 0 0]) ?_ 0 _ rfl;(with_reducible repeat (first | refine blk_drewN ?_ _ | refine blk_drew ?_ | refine blk_alloc ?_ _));refine blk_far ?_ NB2_3.out _;(with_reducible repeat (first | refine blk_drewN ?_ _ | refine blk_drew ?_ | refine blk_alloc ?_ _));exact BK2.out) Try.underlying37 rfl (by kernel_rfl)) rfl ?_
 exact ⟨_,by first | rfl | (simp [errW_none,errW_some] <;> rfl) | (simp [*,errW_none,errW_some] <;> rfl),by (with_reducible repeat (first | apply Kd.R_alloc | apply Kd.R_drewN | apply Kd.R_drew));exact Kd.R_mono (Kd.R_far (p:=⟨gb2,0,none⟩) (Kd.R_far (p:=⟨gb3,0,none⟩) (Kd.R_types (Kd.R_types HO6.out BK3.out (by decide)) BK2.out (by decide)) (fun _ hk=>hk.1.2) (.slice Ao10 t4.length co10)) (fun _ hk=>hk.2) (.slice Ao10 t4.length co10)) (fun _ hk=>trivial),hb_⟩
theorem laws_toHeap_ev (l : List S109) (hl : l.length ≤ 1048576) : Ev (fun k=>laws_toHeap.f k l) (l.map toFault) :=
 Ev.bind (laws_toFaultS_ev l hl) (Ev.const rfl)
end Go.Proofs.Ytfhcfhffmblacaa.P
namespace Go.Proofs.Ytfhcfhffmblacaa.P
open Go.RowKit Go.Proofs.YtfhcfhffmblacaaW.PrintWords Go.Proofs.YtfhcfhffmblacaaW.PrintLast Go.Proofs.YtfhcfhffmblacaaW.PrintMore
attribute [local go_sem] max2_int min2_int max_two min_two max_three min_three max_four min_four
set_option linter.unusedVariables false
set_option linter.unusedSimpArgs false
def laws_toIntS.l0 : Nat → List Int → List Int → Int → Option (List Int)
 | 0,_,_,_=>none
 | k + 1,x0,x3,x4=>if x4 < (x0.length : Int) then (if 0 ≤ x4 then (if x4 < (x3.length : Int) then (laws_toIntS.l0 k x0 (x3.set (x4 : Int).toNat (rd x0 x4)) (wrap64 (x4 + 1))) else (none)) else (none)) else (some x3)
def laws_toIntS.f (k : Nat) (l0 : List Int) : Option (List Int):=if 0 ≤ (l0.length : Int) then (if ((l0.length : Int) : Int).toNat ≤ 35184372088832 then (laws_toIntS.l0 k l0 (List.replicate ((l0.length : Int) : Int).toNat 0) 0) else (none)) else (none)
theorem laws_toIntS.mono_l : ∀ k,(∀ y0 y1 y2,LeO (laws_toIntS.l0 k y0 y1 y2) (laws_toIntS.l0 (k + 1) y0 y1 y2))
 | 0=>fun _ _ _ r h=>by simp [laws_toIntS.l0] at h
 | k + 1=>by
  have ih0:=laws_toIntS.mono_l k
  ·intro y0 y1 y2
   unfold laws_toIntS.l0
   repeat' first
   | (with_reducible exact ih0 _ _ _)
   | (with_reducible exact LeO.refl _)
   | (with_reducible exact LeO.none _)
   | (with_reducible refine LeO.ite ?_ ?_)
   | (with_reducible refine LeO.bind ?_ (fun _=>?_))
   | exact ih0 _ _ _
   | exact LeO.none _
   | refine LeO.ite ?_ ?_
   | refine LeO.bind ?_ (fun _=>?_)
theorem laws_toIntS.mono : ∀ a0 k,LeO (laws_toIntS.f k a0) (laws_toIntS.f (k + 1) a0):=by
 intro a0 k
 have ih0:=laws_toIntS.mono_l k
 unfold laws_toIntS.f
 repeat' first
   | (with_reducible exact ih0 _ _ _)
   | (with_reducible exact LeO.refl _)
   | (with_reducible exact LeO.none _)
   | (with_reducible refine LeO.ite ?_ ?_)
   | (with_reducible refine LeO.bind ?_ (fun _=>?_))
   | exact ih0 _ _ _
   | exact LeO.none _
   | refine LeO.ite ?_ ?_
   | refine LeO.bind ?_ (fun _=>?_)
set_option maxHeartbeats 8000000 in
set_option maxRecDepth 100000 in
theorem laws_toIntS.calls (k : Nat) (A0 : Option Addr) (c0 : Nat) (l0 : List Int) (r : List Int) (w : World) (hr0 : Kd.C (Kd.int .i64) w A0 l0.length l0) (hc0 : l0.length ≤ c0) (h : laws_toIntS.f k l0 = some r) :
  Calls Try.prog 86 #[.slice A0 l0.length c0] w fun e w'=>∃ v0_ : Value,e = .returned (v0_) ∧ Kd.R (Kd.int .i64) 3 w' w.heap.size (fun _=>True) v0_ r ∧ Below w.heap.size w w':=by
 have HR0:=a0_ hr0
 have HC0:=a0_ hc0
 clear hr0 hc0
 have HB:=a0_ (Below.refl w.heap.size w)
 have H : (if 0 ≤ (l0.length : Int) then (if ((l0.length : Int) : Int).toNat ≤ 35184372088832 then (laws_toIntS.l0 k l0 (List.replicate ((l0.length : Int) : Int).toNat 0) 0) else (none)) else (none)) = some r:=h
 clear h
 by_cases c2 : 0 ≤ (l0.length : Int)
 ·rw [if_pos c2] at H
  have c2b0:=eq_true c2
  have c2b1 : decide (0 ≤ (l0.length : Int)) = true:=decide_eq_true c2
  clear c2
  by_cases c3 : ((l0.length : Int) : Int).toNat ≤ 35184372088832
  ·rw [if_pos c3] at H
   have c3b0:=eq_true c3
   have c3b1 : decide (((l0.length : Int) : Int).toNat ≤ 35184372088832) = true:=decide_eq_true c3
   clear c3
   obtain ⟨y1,hy1⟩ : ∃ y_ : List Int,y_ = (List.replicate ((l0.length : Int) : Int).toNat 0):=⟨_,rfl⟩
   replace H : (laws_toIntS.l0 k l0 y1 0) = some r:=by first | (rw [hy1];with_reducible exact H) | (have H2_:=(Option.bind_some _ _).symm.trans H;rw [hy1];with_reducible exact H2_) | (have H2_:=(Option.bind_some _ _).symm.trans H;with_reducible exact H2_) | with_reducible exact H | (rw [hy1];exact H) | exact H
   have Ny1:=a0_ hy1
   clear hy1
   have H':=a0_ H
   clear H
   go_enter Try.func86,Try.ntmps86
   go_wp2_with (first | ((with_reducible refine gate_dst (N:=7) rfl ?_);refine Kd.R_make (Kd.int .i64) _ 3 rfl (N:=7) rfl 44 _ _ rfl (l0.length : Int) rfl rfl Try.underlying44 (.int .i64 0) 8 info3 rfl (by decide) (by omega) 0 (ok:=fun _=>True) (okp:=fun _=>True) rfl (fun _ hk=>hk) trivial (of_decide_eq_true (by first | (with_reducible assumption) | assumption)) (Nat.le_trans (Nat.mul_le_mul_right _ (of_decide_eq_true (by first | (with_reducible assumption) | assumption) : (l0.length : Int).toNat ≤ 35184372088832)) (by omega)) (Below.refl _ _) (Nat.le_refl _) ?_;intro v2 w4 ho5 hb hg_ hnew_;clear hg_ hnew_;(first | rw [← Ny1.out] at ho5 | (simp only [Int.reduceToNat] at ho5;rw [← Ny1.out] at ho5));have HO3:=a0_ (Kd.R_lower ho5 (below_size hb_));replace HB:=a0_ (below_step hb_ hb);clear hb ho5))
   go_loopg [4] k (fun kq v4 w'=>∃ (x3_1 : List Int) (x4_1 : Int),v4 = .int .i64 x4_1 ∧ Aside0 (laws_toIntS.l0 kq l0 x3_1 x4_1 = some r) ∧ Aside0 (kq ≤ k) ∧ Aside0 (Kd.R (Kd.int .i64) 3 w' w.heap.size (fun _=>True) v2 x3_1) ∧ Aside0 (Below w.heap.size w w'))
   case atStart=>exact ⟨(y1),(0),(by first | rfl | (simp;done) | (simp [*];done)),H',⟨Nat.le_refl _⟩,⟨by (with_reducible repeat (first | apply Kd.R_alloc | apply Kd.R_drewN | apply Kd.R_drew));exact HO3.out⟩,⟨hb_⟩⟩
   case round =>
    clear H'
    try clear c2
    try clear c2b0
    try clear c2b1
    try clear p2
    try clear c3
    try clear c3b0
    try clear c3b1
    obtain ⟨x3_1,x4_1,rfl,HA,HK1,HO_3,HB⟩:=hrel
    cases gk with
    | zero=>exact absurd HA.out (by simp [laws_toIntS.l0])
    | succ k1 =>
     have H:=HA.out
     clear HA
     simp only [laws_toIntS.l0] at H
     by_cases c6 : x4_1 < (l0.length : Int)
     ·rw [if_pos c6] at H
      have c6b0 : decide (x4_1 < (l0.length : Int)) = true:=decide_eq_true c6
      clear c6
      by_cases c7 : 0 ≤ x4_1
      ·rw [if_pos c7] at H
       have c7b0 : decide (0 ≤ x4_1) = true:=decide_eq_true c7
       clear c7
       by_cases c8 : x4_1 < (x3_1.length : Int)
       ·rw [if_pos c8] at H
        have c8b0 : decide (x4_1 < (x3_1.length : Int)) = true:=decide_eq_true c8
        clear c8
        obtain ⟨y5,hy5⟩ : ∃ y_ : List Int,y_ = (x3_1.set (x4_1 : Int).toNat (rd l0 x4_1)):=⟨_,rfl⟩
        replace H : (laws_toIntS.l0 k1 l0 y5 (wrap64 (x4_1 + 1))) = some r:=by first | (rw [hy5];with_reducible exact H) | (have H2_:=(Option.bind_some _ _).symm.trans H;rw [hy5];with_reducible exact H2_) | (have H2_:=(Option.bind_some _ _).symm.trans H;with_reducible exact H2_) | with_reducible exact H | (rw [hy5];exact H) | exact H
        have Ny5:=a0_ hy5
        clear hy5
        have H':=a0_ H
        clear H
        have p4 : 0 ≤ (x4_1 : Int):=of_decide_eq_true (by first | (with_reducible assumption) | assumption)
        have q4 : x4_1 < (l0.length : Int):=of_decide_eq_true (by first | (with_reducible assumption) | assumption)
        obtain ⟨ad4,e4,hx4_0⟩:=Kd.at_int HR0.out x4_1 p4 q4
        cases e4
        replace hx4_0:=(HB.out.cell (World.block_lt_of_cell? w _ hx4_0)).trans hx4_0
        replace p4:=eq_true p4
        replace q4:=eq_true q4
        have p9 : 0 ≤ (x4_1 : Int):=of_decide_eq_true (by first | (with_reducible assumption) | assumption)
        have q9 : (x4_1 : Int) < ((x3_1.length : Int) : Int):=of_decide_eq_true (by first | (with_reducible assumption) | assumption)
        obtain ⟨go9,co9,eo9,gb9,gl9,cl9,HG9⟩:=Kd.R_form HO_3.out (by omega)
        (first | cases eo9 | (injection eo9 with ea_ en_ ec_;(first | subst ea_ | (injection ea_ with ea_;subst ea_));subst ec_;clear en_))
        have GB9:=a0_ gb9
        have GG9:=a0_ HG9
        clear gb9 gl9 HG9
        obtain ⟨hx9_0,hf9_0⟩:=Kd.R_celln 0 HO_3.out (x4_1 : Int) p9 q9
        replace p9:=eq_true p9
        replace q9:=eq_true q9
        have HP10:=Kd.R_putg HO_3.out (x4_1 : Int) (rd l0 x4_1)
        go_wp2_with (first | ((with_reducible refine gate_store (t:=3) (p:=20) rfl ?_);refine store_event (t:=3) (p:=20) (v:=?vo_w11) (w1:=(wr.setCell ⟨go9,(x4_1 : Int).toNat,none⟩ (.int .i64 (rd l0 x4_1)))) ?hg ?ho ?hn ?hr ?_;(case ho=>rfl);(case hg=>rfl);(case hn=>rfl);(case hr=>first | (go_simp;done) | (go_simp;rfl));intro w11 hw;have hg : wr.grownBy w11 (some go9):=(by rw [hw];exact HP10.2);have hp_ : Kd.R (Kd.int .i64) 3 w11 w.heap.size (fun _=>True) (.slice (some ⟨go9,0,none⟩) x3_1.length co9) y5:=(by rw [hw,Ny5.out];exact HP10.1);clear HP10;replace HO_3:=a0_ (hp_);replace HB:=a0_ ((by rw [hw];exact below_set (HB.out) GB9.out : Below w.heap.size w w11));clear hg hw hp_))
        go_roundg k1
        case measure=>have:=HK1.out;omega
        case rel=>exact ⟨(y5),(wrap64 (x4_1 + 1)),(by first | rfl | (simp;done) | (simp [*];done)),H',⟨by have:=HK1.out;omega⟩,⟨by (with_reducible repeat (first | apply Kd.R_alloc | apply Kd.R_drewN | apply Kd.R_drew));exact HO_3.out⟩,⟨hb_⟩⟩
       ·rw [if_neg c8] at H
        exact absurd H (by simp)
      ·rw [if_neg c7] at H
       exact absurd H (by simp)
     ·rw [if_neg c6] at H
      have c6b0 : decide (x4_1 < (l0.length : Int)) = false:=decide_eq_false c6
      clear c6
      obtain rfl:=Option.some.inj H
      go_wp2
      go_ret
      exact ⟨_,by first | rfl | (simp [errW_none,errW_some] <;> rfl) | (simp [*,errW_none,errW_some] <;> rfl),by (with_reducible repeat (first | apply Kd.R_alloc | apply Kd.R_drewN | apply Kd.R_drew));exact HO_3.out,hb_⟩
  ·rw [if_neg c3] at H
   exact absurd H (by simp)
 ·rw [if_neg c2] at H
  exact absurd H (by simp)
theorem laws_toIntS_ev (l : List Int) (hl : l.length ≤ 1048576) : Ev (fun k=>laws_toIntS.f k l) l:=by
 have h:=st_loop (fun k acc i=>laws_toIntS.l0 k l acc i) l.length (fun i=>((l.take i).map id) ++ List.replicate (l.length - i) 0) l (by
  intro k i hi
  simp only [laws_toIntS.l0]
  rw [if_pos (by omega),if_pos (by omega),if_pos (by rw [fill_len _ _ _ _ (by omega)];omega),wrap_succ (i:=(i : Int)) (n:=l.length) (by omega) (by omega) (by omega)]
  have:=fill_at l id 0 (0 : Int) i hi
  simp only [id_eq] at this
  rw [show rd l (i : Int) = l.getD i 0 by simp [rd],show ((i : Int) : Int).toNat = i by omega,this]
  rfl) (by
  intro k
  simp only [laws_toIntS.l0]
  rw [if_neg (by omega)]
  simp)
 refine Ev.of_mono (laws_toIntS.mono l) (K:=l.length + 1) ?_
 unfold laws_toIntS.f
 rw [if_pos (by omega),if_pos (by omega)]
 simpa using h
end Go.Proofs.Ytfhcfhffmblacaa.P
namespace Go.Proofs.Ytfhcfhffmblacaa.P
open Go.RowKit Go.Proofs.YtfhcfhffmblacaaW.PrintWords Go.Proofs.YtfhcfhffmblacaaW.PrintLast Go.Proofs.YtfhcfhffmblacaaW.PrintMore
attribute [local go_sem] max2_int min2_int max_two min_two max_three min_three max_four min_four
set_option linter.unusedVariables false
set_option linter.unusedSimpArgs false
def laws_toResult.f (k : Nat) (l0_0 : List Int) (a0_1 : Int) (a0_2 : Int) (l0_3 : List (S109)) : Option (List Int × Int × Int × (List (S79))):=(laws_toIntS.f k l0_0).bind fun t4=>((laws_toHeap.f k l0_3).bind fun t7=>(some (t4,a0_1,a0_2,t7)))
theorem laws_toResult.mono : ∀ a0 a1 a2 a3 k,LeO (laws_toResult.f k a0 a1 a2 a3) (laws_toResult.f (k + 1) a0 a1 a2 a3):=by
 intro a0 a1 a2 a3 k
 unfold laws_toResult.f
 repeat' first
   | (with_reducible exact laws_toHeap.mono _ _)
   | (with_reducible exact laws_toIntS.mono _ _)
   | (with_reducible exact LeO.refl _)
   | (with_reducible exact LeO.none _)
   | (with_reducible refine LeO.ite ?_ ?_)
   | (with_reducible refine LeO.bind ?_ (fun _=>?_))
   | exact laws_toHeap.mono _ _
   | exact laws_toIntS.mono _ _
   | exact LeO.none _
   | refine LeO.ite ?_ ?_
   | refine LeO.bind ?_ (fun _=>?_)
set_option maxHeartbeats 8000000 in
set_option maxRecDepth 100000 in
theorem laws_toResult.calls (k : Nat) (A0_0 : Option Addr) (c0_0 : Nat) (l0_0 : List Int) (a0_1 : Int) (a0_2 : Int) (A0_3 : Option Addr) (c0_3 : Nat) (l0_3 : List (S109)) (r1 : List Int) (r2 : Int) (r3 : Int) (r4 : List (S79)) (w : World) (hr0_0 : Kd.C (Kd.int .i64) w A0_0 l0_0.length l0_0) (hc0_0 : l0_0.length ≤ c0_0) (hr0_3 : Kd.C k109 w A0_3 l0_3.length l0_3) (hc0_3 : l0_3.length ≤ c0_3) (h : laws_toResult.f k l0_0 a0_1 a0_2 l0_3 = some (r1,r2,r3,r4)) :
  Calls Try.prog 48 #[.agg #[.slice A0_0 l0_0.length c0_0,.int .i64 a0_1,.int .i64 a0_2,.slice A0_3 l0_3.length c0_3]] w fun e w'=>∃ v0_ v3_ : Value,e = .returned (.agg #[v0_,.int .i64 r2,.int .i64 r3,v3_]) ∧ Kd.R (Kd.int .i64) 3 w' w.heap.size (fun _=>True) v0_ r1 ∧ Kd.R k79 79 w' w.heap.size (fun _=>True) v3_ r4 ∧ Below w.heap.size w w':=by
 have hu60:=Try.underlying60
 have hu67:=Try.underlying67
 have hu27:=Try.underlying27
 have hu37:=Try.underlying37
 have HR0_0:=a0_ hr0_0
 have HC0_0:=a0_ hc0_0
 clear hr0_0 hc0_0
 have HR0_3:=a0_ hr0_3
 have HC0_3:=a0_ hc0_3
 clear hr0_3 hc0_3
 have HB:=a0_ (Below.refl w.heap.size w)
 have H : ((laws_toIntS.f k l0_0).bind fun t4=>((laws_toHeap.f k l0_3).bind fun t7=>(some (t4,a0_1,a0_2,t7)))) = some (r1,r2,r3,r4):=h
 clear h
 replace H:=Option.bind_eq_some_iff.mp H
 obtain ⟨t4,A20,H⟩:=H
 replace H : ((laws_toHeap.f k l0_3).bind fun t7=>(some (t4,a0_1,a0_2,t7))) = some (r1,r2,r3,r4):=H
 have A2:=a0_ A20
 clear A20
 replace H:=Option.bind_eq_some_iff.mp H
 obtain ⟨t7,A30,H⟩:=H
 replace H : (some (t4,a0_1,a0_2,t7)) = some (r1,r2,r3,r4):=H
 have A3:=a0_ A30
 clear A30
 simp only [Option.some.injEq,Prod.mk.injEq] at H
 obtain ⟨rfl,rfl,rfl,rfl⟩:=H
 go_enter Try.func48,Try.ntmps48
 go_wp2_with (first | ((with_reducible refine gate_dst (N:=1) rfl ?_);refine box_event ?hg (N:=1) ?hd (cs:=#[.slice A0_0 l0_0.length c0_0,.int .i64 a0_1,.int .i64 a0_2,.slice A0_3 l0_3.length c0_3]) (t:=60) ?hr ?_;(case hd=>rfl);(case hg=>rfl);(case hr=>first | (go_simp;done) | (go_simp;rfl));intro gb1 hg w4 hbox hb;have BK1:=a0_ (hbox);have GW1:=a0_ ((by rw [hg];exact (below_size hb_) : w.heap.size ≤ gb1));have GE1:=a0_ ((by rw [hg];exact (below_size hb_) : w.heap.size ≤ gb1));replace HB:=a0_ (below_step hb_ hb);clear hb hbox hg) | ((with_reducible refine gate_dst (N:=2) rfl ?_);refine box_event ?hg (N:=2) ?hd (cs:=#[.slice none 0 0,.int .i64 0,.int .i64 0,.slice none 0 0]) (t:=67) ?hr ?_;(case hd=>rfl);(case hg=>rfl);(case hr=>first | (go_simp;done) | (go_simp;rfl));intro gb2 hg w5 hbox hb;have n0_:=kb_ BK1 hb;have n1_:=a0_ (below_step hb_ hb);have n2_:=a0_ (hbox);have n3_:=a0_ ((by rw [hg];exact (below_size hb_) : w.heap.size ≤ gb2));have n4_:=a0_ ((by rw [hg];exact (below_size hb_) : w.heap.size ≤ gb2));have n5_:=a0_ ((by rw [hg];exact Nat.ne_of_lt (blk_lt (bb_ BK1.out)) : gb1 ≠ gb2));have n6_:=a0_ ((by rw [hg];exact Nat.ne_of_gt (blk_lt (bb_ BK1.out)) : gb2 ≠ gb1));clear BK1 HB;have BK1:=n0_;have HB:=n1_;have BK2:=n2_;have GW2:=n3_;have GE2:=n4_;have NB1_2:=n5_;have NB2_1:=n6_;clear n0_ n1_ n2_ n3_ n4_ n5_ n6_;clear hb hbox hg) | ((with_reducible refine gate_dst (N:=3) rfl ?_);refine box_event ?hg (N:=3) ?hd (cs:=#[.slice none 0 0,.int .i64 0,.int .i64 0,.slice none 0 0]) (t:=67) ?hr ?_;(case hd=>rfl);(case hg=>rfl);(case hr=>first | (go_simp;done) | (go_simp;rfl));intro gb3 hg w6 hbox hb;have n0_:=kb_ BK1 hb;have n1_:=kb_ BK2 hb;have n2_:=a0_ (below_step hb_ hb);have n3_:=a0_ (hbox);have n4_:=a0_ ((by rw [hg];exact (below_size hb_) : w.heap.size ≤ gb3));have n5_:=a0_ ((by rw [hg];exact (below_size hb_) : w.heap.size ≤ gb3));have n6_:=a0_ ((by rw [hg];exact Nat.ne_of_lt (blk_lt (bb_ BK1.out)) : gb1 ≠ gb3));have n7_:=a0_ ((by rw [hg];exact Nat.ne_of_gt (blk_lt (bb_ BK1.out)) : gb3 ≠ gb1));have n8_:=a0_ ((by rw [hg];exact Nat.ne_of_lt (blk_lt (bb_ BK2.out)) : gb2 ≠ gb3));have n9_:=a0_ ((by rw [hg];exact Nat.ne_of_gt (blk_lt (bb_ BK2.out)) : gb3 ≠ gb2));clear BK1 BK2 HB;have BK1:=n0_;have BK2:=n1_;have HB:=n2_;have BK3:=n3_;have GW3:=n4_;have GE3:=n5_;have NB1_3:=n6_;have NB3_1:=n7_;have NB2_3:=n8_;have NB3_2:=n9_;clear n0_ n1_ n2_ n3_ n4_ n5_ n6_ n7_ n8_ n9_;clear hb hbox hg;have hnb7:=NB1_2.out;have hnc7:=NB2_1.out;have hnb8:=NB1_3.out;have hnc8:=NB3_1.out;have hcz9_0 : w6.cell? ⟨gb1,0,none⟩ = some (.slice A0_0 l0_0.length c0_0):=(blk_cell BK1.out 0).trans rfl;have hcz9_1 : w6.cell? ⟨gb1,1,none⟩ = some (.int .i64 a0_1):=(blk_cell BK1.out 1).trans rfl;have hcz9_2 : w6.cell? ⟨gb1,2,none⟩ = some (.int .i64 a0_2):=(blk_cell BK1.out 2).trans rfl;have hcz9_3 : w6.cell? ⟨gb1,3,none⟩ = some (.slice A0_3 l0_3.length c0_3):=(blk_cell BK1.out 3).trans rfl;have hfz9_0:=blk_frozen BK1.out 0;have hfz9_1:=blk_frozen BK1.out 1;have hfz9_2:=blk_frozen BK1.out 2;have hfz9_3:=blk_frozen BK1.out 3) | ((with_reducible refine gate_callee (f:=86) rfl ?_);refine goesL_ (some 6) rfl rfl Try.func86 (by kernel_rfl) rfl #[.slice A0_0 l0_0.length c0_0] rfl lm_ ?_;(with_reducible refine (laws_toIntS.calls k _ _ l0_0 t4 _ ?side1 ?side2 A2.out).mono ?_);(case side1=>exact cc_ (Kd.C_below HR0_0.out HB.out));(case side2=>exact HC0_0.out);rintro e w10 ⟨v5,rfl,ho0,hb⟩;refine ⟨_,rfl,?_⟩;have HO6:=a0_ (Kd.R_lower ho0 (below_size hb_));replace BK1:=kb_ BK1 hb;replace BK2:=kb_ BK2 hb;replace BK3:=kb_ BK3 hb;replace HB:=a0_ (below_step hb_ hb);(try clear hb);(try clear ho0);obtain ⟨Ao11,co11,eo11⟩:=Kd.R_slice HO6.out;subst eo11;have hnb12:=NB3_2.out;have hnc12:=NB2_3.out;have hcz13_0 : w10.cell? ⟨gb3,0,none⟩ = some (.slice none 0 0):=(blk_cell BK3.out 0).trans rfl;have hcz13_1 : w10.cell? ⟨gb3,1,none⟩ = some (.int .i64 0):=(blk_cell BK3.out 1).trans rfl;have hcz13_2 : w10.cell? ⟨gb3,2,none⟩ = some (.int .i64 0):=(blk_cell BK3.out 2).trans rfl;have hcz13_3 : w10.cell? ⟨gb3,3,none⟩ = some (.slice none 0 0):=(blk_cell BK3.out 3).trans rfl;have hfz13_0:=blk_frozen BK3.out 0;have hfz13_1:=blk_frozen BK3.out 1;have hfz13_2:=blk_frozen BK3.out 2;have hfz13_3:=blk_frozen BK3.out 3;have hcz14_0 : w10.cell? ⟨gb1,0,none⟩ = some (.slice A0_0 l0_0.length c0_0):=(blk_cell BK1.out 0).trans rfl;have hcz14_1 : w10.cell? ⟨gb1,1,none⟩ = some (.int .i64 a0_1):=(blk_cell BK1.out 1).trans rfl;have hcz14_2 : w10.cell? ⟨gb1,2,none⟩ = some (.int .i64 a0_2):=(blk_cell BK1.out 2).trans rfl;have hcz14_3 : w10.cell? ⟨gb1,3,none⟩ = some (.slice A0_3 l0_3.length c0_3):=(blk_cell BK1.out 3).trans rfl;have hfz14_0:=blk_frozen BK1.out 0;have hfz14_1:=blk_frozen BK1.out 1;have hfz14_2:=blk_frozen BK1.out 2;have hfz14_3:=blk_frozen BK1.out 3) | ((with_reducible refine gate_callee (f:=18) rfl ?_);refine goesL_ (some 16) rfl rfl Try.func18 (by kernel_rfl) rfl #[.agg #[.slice A0_3 l0_3.length c0_3]] rfl lm_ ?_;(with_reducible refine (laws_toHeap.calls k _ _ l0_3 t7 _ ?side1 ?side2 A3.out).mono ?_);(case side1=>exact Kd.C_below HR0_3.out hb_);(case side2=>exact HC0_3.out);rintro e w15 ⟨v8,rfl,ho0,hb⟩;refine ⟨_,rfl,?_⟩;replace HO6:=a0_ (Kd.R_below (by (with_reducible repeat (first | apply Kd.R_alloc | apply Kd.R_drewN | apply Kd.R_drew));exact (Kd.R_mono (Kd.R_far (p:=⟨gb3,2,none⟩) (Kd.R_far (p:=⟨gb3,1,none⟩) (Kd.R_far (p:=⟨gb3,0,none⟩) (Kd.R_types HO6.out BK3.out (by decide)) (fun _ hk=>hk.2) (.slice Ao11 t4.length co11)) (fun _ hk=>hk.2) (.int .i64 a0_1)) (fun _ hk=>hk.2) (.int .i64 a0_2)) (fun _ h_=>h_.1))) hb);have HO9:=a0_ (Kd.R_lower ho0 (below_size hb_));replace BK1:=a0_ (blk_below (g:=gb1) (o:=.cells #[.slice A0_0 l0_0.length c0_0,.int .i64 a0_1,.int .i64 a0_2,.slice A0_3 l0_3.length c0_3] 60 (0,0)) (by (with_reducible repeat (first | refine blk_drewN ?_ _ | refine blk_drew ?_ | refine blk_alloc ?_ _));refine blk_far ?_ NB1_3.out _;(with_reducible repeat (first | refine blk_drewN ?_ _ | refine blk_drew ?_ | refine blk_alloc ?_ _));refine blk_far ?_ NB1_3.out _;(with_reducible repeat (first | refine blk_drewN ?_ _ | refine blk_drew ?_ | refine blk_alloc ?_ _));refine blk_far ?_ NB1_3.out _;(with_reducible repeat (first | refine blk_drewN ?_ _ | refine blk_drew ?_ | refine blk_alloc ?_ _));exact BK1.out) hb);replace BK2:=a0_ (blk_below (g:=gb2) (o:=.cells #[.slice none 0 0,.int .i64 0,.int .i64 0,.slice none 0 0] 67 (0,0)) (by (with_reducible repeat (first | refine blk_drewN ?_ _ | refine blk_drew ?_ | refine blk_alloc ?_ _));refine blk_far ?_ NB2_3.out _;(with_reducible repeat (first | refine blk_drewN ?_ _ | refine blk_drew ?_ | refine blk_alloc ?_ _));refine blk_far ?_ NB2_3.out _;(with_reducible repeat (first | refine blk_drewN ?_ _ | refine blk_drew ?_ | refine blk_alloc ?_ _));refine blk_far ?_ NB2_3.out _;(with_reducible repeat (first | refine blk_drewN ?_ _ | refine blk_drew ?_ | refine blk_alloc ?_ _));exact BK2.out) hb);replace BK3:=a0_ (blk_below (g:=gb3) (o:=.cells #[.slice Ao11 t4.length co11,.int .i64 a0_1,.int .i64 a0_2,.slice none 0 0] 67 (0,0)) (by (with_reducible repeat (first | refine blk_drewN ?_ _ | refine blk_drew ?_ | refine blk_alloc ?_ _));refine blk_put (cs:=#[.slice Ao11 t4.length co11,.int .i64 a0_1,.int .i64 0,.slice none 0 0]) ?_ 2 _ rfl;(with_reducible repeat (first | refine blk_drewN ?_ _ | refine blk_drew ?_ | refine blk_alloc ?_ _));refine blk_put (cs:=#[.slice Ao11 t4.length co11,.int .i64 0,.int .i64 0,.slice none 0 0]) ?_ 1 _ rfl;(with_reducible repeat (first | refine blk_drewN ?_ _ | refine blk_drew ?_ | refine blk_alloc ?_ _));refine blk_put (cs:=#[.slice none 0 0,.int .i64 0,.int .i64 0,.slice none 0 0]) ?_ 0 _ rfl;(with_reducible repeat (first | refine blk_drewN ?_ _ | refine blk_drew ?_ | refine blk_alloc ?_ _));exact BK3.out) hb);replace HB:=a0_ (below_step hb_ hb);(try clear hb);(try clear ho0);obtain ⟨Ao16,co16,eo16⟩:=Kd.R_slice HO9.out;subst eo16;have hcz17_0 : w15.cell? ⟨gb3,0,none⟩ = some (.slice Ao11 t4.length co11):=(blk_cell BK3.out 0).trans rfl;have hcz17_1 : w15.cell? ⟨gb3,1,none⟩ = some (.int .i64 a0_1):=(blk_cell BK3.out 1).trans rfl;have hcz17_2 : w15.cell? ⟨gb3,2,none⟩ = some (.int .i64 a0_2):=(blk_cell BK3.out 2).trans rfl;have hcz17_3 : w15.cell? ⟨gb3,3,none⟩ = some (.slice none 0 0):=(blk_cell BK3.out 3).trans rfl;have hfz17_0:=blk_frozen BK3.out 0;have hfz17_1:=blk_frozen BK3.out 1;have hfz17_2:=blk_frozen BK3.out 2;have hfz17_3:=blk_frozen BK3.out 3;have hcz18_0 : w15.cell? ⟨gb2,0,none⟩ = some (.slice none 0 0):=(blk_cell BK2.out 0).trans rfl;have hcz18_1 : w15.cell? ⟨gb2,1,none⟩ = some (.int .i64 0):=(blk_cell BK2.out 1).trans rfl;have hcz18_2 : w15.cell? ⟨gb2,2,none⟩ = some (.int .i64 0):=(blk_cell BK2.out 2).trans rfl;have hcz18_3 : w15.cell? ⟨gb2,3,none⟩ = some (.slice none 0 0):=(blk_cell BK2.out 3).trans rfl;have hfz18_0:=blk_frozen BK2.out 0;have hfz18_1:=blk_frozen BK2.out 1;have hfz18_2:=blk_frozen BK2.out 2;have hfz18_3:=blk_frozen BK2.out 3))
 refine bodyPost_ret (results_cell_row rfl _ _ gb2 67 #[.slice Ao11 t4.length co11,.int .i64 a0_1,.int .i64 a0_2,.slice Ao16 t7.length co16] (0,0) _ rfl (by (with_reducible repeat (first | refine blk_drewN ?_ _ | refine blk_drew ?_ | refine blk_alloc ?_ _));refine blk_put (cs:=#[.slice Ao11 t4.length co11,.int .i64 a0_1,.int .i64 a0_2,.slice none 0 0]) ?_ 3 _ rfl;(with_reducible repeat (first | refine blk_drewN ?_ _ | refine blk_drew ?_ | refine blk_alloc ?_ _));refine blk_put (cs:=#[.slice Ao11 t4.length co11,.int .i64 a0_1,.int .i64 0,.slice none 0 0]) ?_ 2 _ rfl;(with_reducible repeat (first | refine blk_drewN ?_ _ | refine blk_drew ?_ | refine blk_alloc ?_ _));refine blk_put (cs:=#[.slice Ao11 t4.length co11,.int .i64 0,.int .i64 0,.slice none 0 0]) ?_ 1 _ rfl;(with_reducible repeat (first | refine blk_drewN ?_ _ | refine blk_drew ?_ | refine blk_alloc ?_ _));refine blk_put (cs:=#[.slice none 0 0,.int .i64 0,.int .i64 0,.slice none 0 0]) ?_ 0 _ rfl;(with_reducible repeat (first | refine blk_drewN ?_ _ | refine blk_drew ?_ | refine blk_alloc ?_ _));refine blk_far ?_ NB2_3.out _;(with_reducible repeat (first | refine blk_drewN ?_ _ | refine blk_drew ?_ | refine blk_alloc ?_ _));exact BK2.out) Try.underlying67 rfl (by kernel_rfl)) rfl ?_
 exact ⟨_,_,by first | rfl | (simp [errW_none,errW_some] <;> rfl) | (simp [*,errW_none,errW_some] <;> rfl),by (with_reducible repeat (first | apply Kd.R_alloc | apply Kd.R_drewN | apply Kd.R_drew));exact Kd.R_mono (Kd.R_far (p:=⟨gb2,3,none⟩) (Kd.R_far (p:=⟨gb2,2,none⟩) (Kd.R_far (p:=⟨gb2,1,none⟩) (Kd.R_far (p:=⟨gb2,0,none⟩) (Kd.R_far (p:=⟨gb3,3,none⟩) (Kd.R_types (Kd.R_types HO6.out BK3.out (by decide)) BK2.out (by decide)) (fun _ hk=>hk.1.2) (.slice Ao16 t7.length co16)) (fun _ hk=>hk.2) (.slice Ao11 t4.length co11)) (fun _ hk=>hk.2) (.int .i64 a0_1)) (fun _ hk=>hk.2) (.int .i64 a0_2)) (fun _ hk=>hk.2) (.slice Ao16 t7.length co16)) (fun _ hk=>trivial),by (with_reducible repeat (first | apply Kd.R_alloc | apply Kd.R_drewN | apply Kd.R_drew));exact Kd.R_mono (Kd.R_far (p:=⟨gb2,3,none⟩) (Kd.R_far (p:=⟨gb2,2,none⟩) (Kd.R_far (p:=⟨gb2,1,none⟩) (Kd.R_far (p:=⟨gb2,0,none⟩) (Kd.R_far (p:=⟨gb3,3,none⟩) (Kd.R_types (Kd.R_types HO9.out BK3.out (by decide)) BK2.out (by decide)) (fun _ hk=>hk.1.2) (.slice Ao16 t7.length co16)) (fun _ hk=>hk.2) (.slice Ao11 t4.length co11)) (fun _ hk=>hk.2) (.int .i64 a0_1)) (fun _ hk=>hk.2) (.int .i64 a0_2)) (fun _ hk=>hk.2) (.slice Ao16 t7.length co16)) (fun _ hk=>trivial),hb_⟩
theorem laws_toResult_ev (l : List Int) (e v : Int) (h : List S109) (hl : l.length ≤ 1048576) (hh : h.length ≤ 1048576) : Ev (fun k=>laws_toResult.f k l e v h) (l,e,v,h.map toFault) :=
 Ev.bind (laws_toIntS_ev l hl) (Ev.bind (laws_toHeap_ev h hh) (Ev.const rfl))
end Go.Proofs.Ytfhcfhffmblacaa.P
namespace Go.Proofs.Ytfhcfhffmblacaa.P
open Go.RowKit Go.Proofs.YtfhcfhffmblacaaW.PrintWords Go.Proofs.YtfhcfhffmblacaaW.PrintLast Go.Proofs.YtfhcfhffmblacaaW.PrintMore
attribute [local go_sem] max2_int min2_int max_two min_two max_three min_three max_four min_four
set_option linter.unusedVariables false
set_option linter.unusedSimpArgs false
def impl_within.f (a0 : Int) (a1 : Int) (a2 : Int) : Option (Bool):=if a0 ≥ a1 then (some (decide (a0 ≤ a2))) else (some false)
set_option maxHeartbeats 8000000 in
set_option maxRecDepth 100000 in
theorem impl_within.calls (a0 : Int) (a1 : Int) (a2 : Int) (r : Bool) (w : World) (h : impl_within.f a0 a1 a2 = some r) :
  Calls Try.prog 93 #[.int .i64 a0,.int .i64 a1,.int .i64 a2] w fun e w'=>e = .returned (.bool r) ∧ Drawn0 w w':=by
 have H : (if a0 ≥ a1 then (some (decide (a0 ≤ a2))) else (some false)) = some r:=h
 clear h
 by_cases c4 : a0 ≥ a1
 ·rw [if_pos c4] at H
  have c4b0 : decide (a1 ≤ a0) = true:=decide_eq_true c4
  clear c4
  obtain rfl:=Option.some.inj H
  go_enter Try.func93,Try.ntmps93
  go_wp2
  go_ret
  exact ⟨by first | rfl | (simp;done) | (simp [*];done),by repeat (first | exact Drawn0.refl _ | apply Drawn0.step)⟩
 ·rw [if_neg c4] at H
  have c4b0 : decide (a1 ≤ a0) = false:=decide_eq_false c4
  clear c4
  obtain rfl:=Option.some.inj H
  go_enter Try.func93,Try.ntmps93
  go_wp2
  go_ret
  exact ⟨by first | rfl | (simp;done) | (simp [*];done),by repeat (first | exact Drawn0.refl _ | apply Drawn0.step)⟩
theorem impl_within_ev (a b c : Int) : impl_within.f a b c = some (decide (b ≤ a) && decide (a ≤ c)):=by
 unfold impl_within.f
 by_cases h : a ≥ b
 ·rw [if_pos h,decide_eq_true (show b ≤ a from h),Bool.true_and]
 ·rw [if_neg h,decide_eq_false (show ¬ b ≤ a from h),Bool.false_and]
end Go.Proofs.Ytfhcfhffmblacaa.P
namespace Go.Proofs.Ytfhcfhffmblacaa.P
open Go.RowKit Go.Proofs.YtfhcfhffmblacaaW.PrintWords Go.Proofs.YtfhcfhffmblacaaW.PrintLast Go.Proofs.YtfhcfhffmblacaaW.PrintMore
attribute [local go_sem] max2_int min2_int max_two min_two max_three min_three max_four min_four
set_option linter.unusedVariables false
set_option linter.unusedSimpArgs false
def impl_nameOk.l0 : Nat → ByteArray → Int → Int → Option (Bool)
 | 0,_,_,_=>none
 | k + 1,x0,x5,x6=>if x6 < x5 then (if 0 ≤ x6 then (if x6 < (x0.size : Int) then (if (bt x0 x6) < 97 then (some false) else (if (bt x0 x6) > 122 then (some false) else (impl_nameOk.l0 k x0 x5 (wrap64 (x6 + 1))))) else (none)) else (none)) else ((impl_within.f (x0.size : Int) 1 6).bind fun t1=>(some t1))
def impl_nameOk.f (k : Nat) (a0 : ByteArray) : Option (Bool):=impl_nameOk.l0 k a0 (a0.size : Int) 0
theorem impl_nameOk.mono_l : ∀ k,(∀ y0 y1 y2,LeO (impl_nameOk.l0 k y0 y1 y2) (impl_nameOk.l0 (k + 1) y0 y1 y2))
 | 0=>fun _ _ _ r h=>by simp [impl_nameOk.l0] at h
 | k + 1=>by
  have ih0:=impl_nameOk.mono_l k
  ·intro y0 y1 y2
   unfold impl_nameOk.l0
   repeat' first
   | (with_reducible exact ih0 _ _ _)
   | (with_reducible exact LeO.refl _)
   | (with_reducible exact LeO.none _)
   | (with_reducible refine LeO.ite ?_ ?_)
   | (with_reducible refine LeO.bind ?_ (fun _=>?_))
   | exact ih0 _ _ _
   | exact LeO.none _
   | refine LeO.ite ?_ ?_
   | refine LeO.bind ?_ (fun _=>?_)
theorem impl_nameOk.mono : ∀ a0 k,LeO (impl_nameOk.f k a0) (impl_nameOk.f (k + 1) a0):=by
 intro a0 k
 have ih0:=impl_nameOk.mono_l k
 unfold impl_nameOk.f
 repeat' first
   | (with_reducible exact ih0 _ _ _)
   | (with_reducible exact LeO.refl _)
   | (with_reducible exact LeO.none _)
   | (with_reducible refine LeO.ite ?_ ?_)
   | (with_reducible refine LeO.bind ?_ (fun _=>?_))
   | exact ih0 _ _ _
   | exact LeO.none _
   | refine LeO.ite ?_ ?_
   | refine LeO.bind ?_ (fun _=>?_)
set_option maxHeartbeats 8000000 in
set_option maxRecDepth 100000 in
theorem impl_nameOk.calls (k : Nat) (a0 : ByteArray) (r : Bool) (w : World) (h : impl_nameOk.f k a0 = some r) :
  Calls Try.prog 95 #[.string a0] w fun e w'=>e = .returned (.bool r) ∧ Drawn0 w w':=by
 have H : (impl_nameOk.l0 k a0 (a0.size : Int) 0) = some r:=h
 clear h
 have H':=a0_ H
 clear H
 go_enter Try.func95,Try.ntmps95
 go_wp2
 go_loopg [6] k (fun kq v6 w'=>∃ (x6_1 : Int),v6 = .int .i64 x6_1 ∧ Aside0 (impl_nameOk.l0 kq a0 (a0.size : Int) x6_1 = some r) ∧ Aside0 (kq ≤ k) ∧ Drawn0 w w')
 case atStart=>exact ⟨(0),(by first | rfl | (simp;done) | (simp [*];done)),H',⟨Nat.le_refl _⟩,by repeat (first | exact Drawn0.refl _ | apply Drawn0.step)⟩
 case round =>
  clear H'
  obtain ⟨x6_1,rfl,HA,HK1,⟨m1,rfl⟩⟩:=hrel
  cases gk with
  | zero=>exact absurd HA.out (by simp [impl_nameOk.l0])
  | succ k1 =>
   have H:=HA.out
   clear HA
   simp only [impl_nameOk.l0] at H
   by_cases c2 : x6_1 < (a0.size : Int)
   ·rw [if_pos c2] at H
    have c2b0 : decide (x6_1 < (a0.size : Int)) = true:=decide_eq_true c2
    clear c2
    by_cases c3 : 0 ≤ x6_1
    ·rw [if_pos c3] at H
     have c3b0 : decide (0 ≤ x6_1) = true:=decide_eq_true c3
     clear c3
     by_cases c4 : x6_1 < (a0.size : Int)
     ·rw [if_pos c4] at H
      have c4b0 : decide (x6_1 < (a0.size : Int)) = true:=decide_eq_true c4
      clear c4
      by_cases c6 : (bt a0 x6_1) < 97
      ·rw [if_pos c6] at H
       have c6b0 : decide ((bt a0 x6_1) < 97) = true:=decide_eq_true c6
       clear c6
       obtain rfl:=Option.some.inj H
       have p5 : 0 ≤ (x6_1 : Int):=of_decide_eq_true (by first | (with_reducible assumption) | assumption)
       have q5 : x6_1 < (a0.size : Int):=of_decide_eq_true (by first | (with_reducible assumption) | assumption)
       have hx5:=bt_at a0 x6_1
       replace p5:=eq_true p5
       replace q5:=eq_true q5
       go_wp2
       go_ret
       exact ⟨by first | rfl | (simp;done) | (simp [*];done),by repeat (first | exact Drawn0.refl _ | apply Drawn0.step)⟩
      ·rw [if_neg c6] at H
       have c6b0 : decide ((bt a0 x6_1) < 97) = false:=decide_eq_false c6
       clear c6
       by_cases c8 : (bt a0 x6_1) > 122
       ·rw [if_pos c8] at H
        have c8b0 : decide (122 < (bt a0 x6_1)) = true:=decide_eq_true c8
        clear c8
        obtain rfl:=Option.some.inj H
        have p5 : 0 ≤ (x6_1 : Int):=of_decide_eq_true (by first | (with_reducible assumption) | assumption)
        have q5 : x6_1 < (a0.size : Int):=of_decide_eq_true (by first | (with_reducible assumption) | assumption)
        have hx5:=bt_at a0 x6_1
        replace p5:=eq_true p5
        replace q5:=eq_true q5
        have p7 : 0 ≤ (x6_1 : Int):=of_decide_eq_true (by first | (with_reducible assumption) | assumption)
        have q7 : x6_1 < (a0.size : Int):=of_decide_eq_true (by first | (with_reducible assumption) | assumption)
        have hx7:=bt_at a0 x6_1
        replace p7:=eq_true p7
        replace q7:=eq_true q7
        go_wp2
        go_ret
        exact ⟨by first | rfl | (simp;done) | (simp [*];done),by repeat (first | exact Drawn0.refl _ | apply Drawn0.step)⟩
       ·rw [if_neg c8] at H
        have c8b0 : decide (122 < (bt a0 x6_1)) = false:=decide_eq_false c8
        clear c8
        have H':=a0_ H
        clear H
        have p5 : 0 ≤ (x6_1 : Int):=of_decide_eq_true (by first | (with_reducible assumption) | assumption)
        have q5 : x6_1 < (a0.size : Int):=of_decide_eq_true (by first | (with_reducible assumption) | assumption)
        have hx5:=bt_at a0 x6_1
        replace p5:=eq_true p5
        replace q5:=eq_true q5
        have p7 : 0 ≤ (x6_1 : Int):=of_decide_eq_true (by first | (with_reducible assumption) | assumption)
        have q7 : x6_1 < (a0.size : Int):=of_decide_eq_true (by first | (with_reducible assumption) | assumption)
        have hx7:=bt_at a0 x6_1
        replace p7:=eq_true p7
        replace q7:=eq_true q7
        go_wp2
        go_roundg k1
        case measure=>have:=HK1.out;omega
        case rel=>exact ⟨(wrap64 (x6_1 + 1)),(by first | rfl | (simp;done) | (simp [*];done)),H',⟨by have:=HK1.out;omega⟩,by repeat (first | exact Drawn0.refl _ | apply Drawn0.step)⟩
     ·rw [if_neg c4] at H
      exact absurd H (by simp)
    ·rw [if_neg c3] at H
     exact absurd H (by simp)
   ·rw [if_neg c2] at H
    have c2b0 : decide (x6_1 < (a0.size : Int)) = false:=decide_eq_false c2
    clear c2
    replace H:=Option.bind_eq_some_iff.mp H
    obtain ⟨t1,A90,H⟩:=H
    replace H : (some t1) = some r:=H
    have A9:=a0_ A90
    clear A90
    obtain rfl:=Option.some.inj H
    go_wp2_with (first | ((with_reducible refine gate_callee (f:=93) rfl ?_);refine goesL_ (some 22) rfl rfl Try.func93 (by kernel_rfl) rfl #[.int .i64 (a0.size : Int),.int .i64 1,.int .i64 6] rfl lm_ ?_;(with_reducible refine (impl_within.calls (a0.size : Int) 1 6 t1 _ A9.out).mono ?_);rintro e w' ⟨rfl,⟨nd,rfl⟩⟩;refine ⟨_,rfl,?_⟩))
    go_ret
    exact ⟨by first | rfl | (simp;done) | (simp [*];done),by repeat (first | exact Drawn0.refl _ | apply Drawn0.step)⟩
theorem impl_nameOk_l0 (s : ByteArray) (hs : s.size ≤ 9223372036854775807) (d : Nat) : ∀ (k : Nat) (i : Nat),i ≤ s.size → s.size - i = d → d < k → impl_nameOk.l0 k s (s.size : Int) (i : Int) = some ((s.data.toList.drop i).all (fun c=>decide (97 ≤ c.toNat) && decide (c.toNat ≤ 122)) && (decide (1 ≤ s.size) && decide (s.size ≤ 6))):=by
 induction d with
 | zero =>
  intro k i hi hd hk
  obtain ⟨k,rfl⟩ : ∃ m,k = m + 1:=⟨k - 1,by omega⟩
  simp only [impl_nameOk.l0]
  rw [if_neg (by omega)]
  have : s.data.toList.drop i = []:=by
   apply List.drop_eq_nil_of_le
   have : s.data.toList.length = s.size:=toL_len s
   omega
  rw [this]
  simp only [impl_within.f,List.all_nil,Bool.true_and]
  by_cases h1 : 1 ≤ s.size
  ·rw [if_pos (show (s.size : Int) ≥ 1 by omega)]
   by_cases h2 : s.size ≤ 6
   ·simp [h1,h2];omega
   ·simp [h2];omega
  ·rw [if_neg (show ¬ (s.size : Int) ≥ 1 by omega)];simp [h1]
 | succ d ih =>
  intro k i hi hd hk
  obtain ⟨k,rfl⟩ : ∃ m,k = m + 1:=⟨k - 1,by omega⟩
  have hlt : i < s.size:=by omega
  have hl : s.data.toList.length = s.size:=toL_len s
  simp only [impl_nameOk.l0]
  rw [if_pos (show (i : Int) < (s.size : Int) by omega),if_pos (show (0 : Int) ≤ (i : Int) by omega),if_pos (show (i : Int) < (s.size : Int) by omega),bt_getElem s i hlt]
  have hd2 : s.data.toList.drop i = s[i] :: s.data.toList.drop (i + 1):=by
   rw [List.drop_eq_getElem_cons (by omega)]
   congr 1
  rw [hd2,List.all_cons]
  by_cases h1 : (s[i].toNat : Int) < 97
  ·rw [if_pos h1];have : ¬ 97 ≤ s[i].toNat:=by omega
   simp [this]
  ·rw [if_neg h1]
   by_cases h2 : (s[i].toNat : Int) > 122
   ·rw [if_pos h2];have : ¬ s[i].toNat ≤ 122:=by omega
    simp [this]
   ·rw [if_neg h2,wrap_succ (n:=s.size) (by omega) (by omega) (by omega)]
    have:=ih k (i + 1) (by omega) (by omega) (by omega)
    rw [show ((i : Int) + 1) = ((i + 1 : Nat) : Int) by omega,this]
    have a : 97 ≤ s[i].toNat:=by omega
    have b : s[i].toNat ≤ 122:=by omega
    simp [a,b]
theorem impl_nameOk_ev (s : ByteArray) (hs : s.size ≤ 9223372036854775807) : impl_nameOk.f (s.size + 1) s = some (okName s):=by
 unfold impl_nameOk.f okName
 have:=impl_nameOk_l0 s hs s.size (s.size + 1) 0 (by omega) (by omega) (by omega)
 simpa using this
end Go.Proofs.Ytfhcfhffmblacaa.P
namespace Go.Proofs.Ytfhcfhffmblacaa.P
open Go.RowKit Go.Proofs.YtfhcfhffmblacaaW.PrintWords Go.Proofs.YtfhcfhffmblacaaW.PrintLast Go.Proofs.YtfhcfhffmblacaaW.PrintMore
attribute [local go_sem] max2_int min2_int max_two min_two max_three min_three max_four min_four
set_option linter.unusedVariables false
set_option linter.unusedSimpArgs false
set_option maxHeartbeats 2000000 in
theorem slices_IndexFunc_Class.callsF (A : Option Addr) (c : Nat) (l : List S106) (g : Nat) (lb : Array Value) (p : S106 → Bool) (w : World) (eg : ∀ args w,(callFunc g args).run Try.prog w = .ok (.enter g args) w)
  (hr : Kd.C k106 w A l.length l) (hc : l.length ≤ c) (hp : ∀ x,x ∈ l → ∀ W,Below w.heap.size w W → Calls Try.prog g (#[.agg #[.string x.f0,.int .i64 x.f1]] ++ lb) W fun e w'=>e = .returned (.bool (p x)) ∧ Below W.heap.size W w') :
  Calls Try.prog 107 #[.slice A l.length c,.func (.func g) #[] lb] w fun e w'=>e = .returned (.int .i64 (idxP p l)) ∧ Below w.heap.size w w':=by
 have HR:=a0_ hr
 have HP:=a0_ hp
 have hmax : l.length ≤ 9223372036854775807:=hr.2.1
 clear hr hp hc
 go_enter Try.func107,Try.ntmps107
 go_wp2
 go_loopg [5,8] l.length (fun gg _ s8 wr=>∃ kk : Nat,kk ≤ l.length ∧ l.length - kk ≤ gg ∧ s8 = .int .i64 kk ∧ Aside0 (Below w.heap.size w wr) ∧ Aside0 (∀ j (hj : j < l.length),j < kk → p l[j] = false))
 case atStart=>exact ⟨0,Nat.zero_le _,by omega,rfl,⟨Below.refl _ w⟩,⟨fun j _ hj=>absurd hj (Nat.not_lt_zero _)⟩⟩
 case round =>
  obtain ⟨kk,hkk,hg,rfl,BW,HA⟩:=hrel
  by_cases hlt : kk < l.length
  ·have hltz : (kk : Int) < (l.length : Int):=by omega
   obtain ⟨ad,ea,hx0,hx1⟩:=at_T106 HR.out (kk : Int) (by omega) (by omega)
   cases ea
   have hrd : rd_T106 l (kk : Int) = l[kk]:=by simp [rd_T106,hlt]
   rw [hrd] at hx0 hx1
   rw [Int.toNat_natCast] at hx0 hx1
   replace hx0:=(BW.out.cell (World.block_lt_of_cell? w _ hx0)).trans hx0
   replace hx1:=(BW.out.cell (World.block_lt_of_cell? w _ hx1)).trans hx1
   have hcall:=HP.out l[kk] (List.getElem_mem hlt) wr BW.out
   clear hrd
   generalize hy : l[kk] = y at hx0 hx1 hcall
   have B:=a0_ hy
   clear hy
   cases hq : p y with
   | true =>
    rw [hq] at hcall
    go_wp2_with (go_at_fn g;refine hcall.mono ?_;rintro e w' ⟨rfl,hb'⟩)
    go_ret
    refine ⟨?_,below_step BW.out hb'⟩
    rw [idxP_hit p l kk hlt (by rw [B.out];exact hq) HA.out];rfl
   | false =>
    rw [hq] at hcall
    go_wp2_with (go_at_fn g;refine hcall.mono ?_;rintro e w' ⟨rfl,hb'⟩)
    go_roundg (l.length - (kk + 1))
    case measure=>omega
    case rel =>
     refine ⟨kk + 1,by omega,by omega,by go_num,⟨below_step BW.out hb'⟩,⟨fun j hj hjk=>?_⟩⟩
     by_cases e : j = kk
     ·subst e
      rw [B.out];exact hq
     ·exact HA.out j hj (by omega)
  ·have hltz : ¬ (kk : Int) < (l.length : Int):=by omega
   have : kk = l.length:=by omega
   subst this
   go_wp2
   go_ret
   refine ⟨?_,BW.out⟩
   rw [idxP_miss p l (fun j hj=>HA.out j hj hj)];rfl
end Go.Proofs.Ytfhcfhffmblacaa.P
namespace Go.Proofs.Ytfhcfhffmblacaa.P
open Go.RowKit Go.Proofs.YtfhcfhffmblacaaW.PrintWords Go.Proofs.YtfhcfhffmblacaaW.PrintLast Go.Proofs.YtfhcfhffmblacaaW.PrintMore
attribute [local go_sem] max2_int min2_int max_two min_two max_three min_three max_four min_four
set_option linter.unusedVariables false
set_option linter.unusedSimpArgs false
theorem impl_Tree_named_1.callsF (B : Nat) (nm : ByteArray) (x : S106) (w : World) (hB : w.heap[B]? = some (.cells #[.string nm] 9 (0,0))) :
  Calls Try.prog 108 #[.agg #[.string x.f0,.int .i64 x.f1],.pointer (some ⟨B,0,none⟩)] w fun e w'=>e = .returned (.bool (x.f0.toList == nm.toList)) ∧ Below w.heap.size w w':=by
 have hc : w.cell? ⟨B,0,none⟩ = some (.string nm):=(blk_cell hB 0).trans rfl
 have hlt : B < w.heap.size:=(Array.getElem?_eq_some_iff.1 hB).1
 have hne : B ≠ w.heap.size:=by omega
 clear hB
 go_enter Try.func108,Try.ntmps108
 go_wp2
 all_goals (go_ret;exact ⟨by simp_all,(Below.refl _ w).alloc (Nat.le_refl _) _⟩)
end Go.Proofs.Ytfhcfhffmblacaa.P
namespace Go.Proofs.Ytfhcfhffmblacaa.P
open Go.RowKit Go.Proofs.YtfhcfhffmblacaaW.PrintWords Go.Proofs.YtfhcfhffmblacaaW.PrintLast Go.Proofs.YtfhcfhffmblacaaW.PrintMore
attribute [local go_sem] max2_int min2_int max_two min_two max_three min_three max_four min_four
set_option linter.unusedVariables false
set_option linter.unusedSimpArgs false
def impl_Tree_named.f (l0_0 : List (S106)) (a1 : ByteArray) : Option Int:=some (idxP (fun x : S106=>x.f0.toList == a1.toList) l0_0)
set_option maxHeartbeats 2000000 in
theorem impl_Tree_named.calls (A0_0 : Option Addr) (c0_0 : Nat) (l0_0 : List (S106)) (a1 : ByteArray) (r : Int) (w : World) (hr0_0 : Kd.C k106 w A0_0 l0_0.length l0_0) (hc0_0 : l0_0.length ≤ c0_0) (h : impl_Tree_named.f l0_0 a1 = some r) :
  Calls Try.prog 96 #[.agg #[.slice A0_0 l0_0.length c0_0],.string a1] w fun e w'=>e = .returned (.int .i64 r) ∧ Below w.heap.size w w':=by
 obtain rfl:=Option.some.inj h
 clear h
 have hu31:=Try.underlying33
 have eg : ∀ args w,(callFunc 108 args).run Try.prog w = .ok (.enter 108 args) w:=enters_of Try.func108 (by kernel_rfl) rfl
 have hcon:=fun (W : World) (hb : Below w.heap.size w W) (hB : W.heap[w.heap.size + 1]? = some (.cells #[.string a1] 9 (0,0)))=>slices_IndexFunc_Class.callsF A0_0 c0_0 l0_0 108 #[.pointer (some ⟨w.heap.size + 1,0,none⟩)] (fun x=>x.f0.toList == a1.toList) W eg (Kd.C_below hr0_0 hb) hc0_0 (fun x _ W' hW=>by
  have:=impl_Tree_named_1.callsF (w.heap.size + 1) a1 x W' (blk_keptB hB hW)
  simpa using this)
 clear hr0_0 hc0_0
 generalize idxP (fun x : S106=>x.f0.toList == a1.toList) l0_0 = r at hcon ⊢
 have HC:=a0_ hcon
 clear hcon
 go_enter Try.func96,Try.ntmps96
 go_wp2_with (go_at_call 107;refine (HC.out _ ?hb ?hB).mono ?_;(case hb=>exact below2 w _ _);(case hB=>exact heap_new2 w _ _);rintro e w' ⟨rfl,hb'⟩)
 go_ret
 exact ⟨rfl,(below2 w _ _).trans (hb'.mono (by simp;omega))⟩
end Go.Proofs.Ytfhcfhffmblacaa.P
namespace Go.Proofs.Ytfhcfhffmblacaa.P
open Go.RowKit Go.Proofs.YtfhcfhffmblacaaW.PrintWords Go.Proofs.YtfhcfhffmblacaaW.PrintLast Go.Proofs.YtfhcfhffmblacaaW.PrintMore
attribute [local go_sem] max2_int min2_int max_two min_two max_three min_three max_four min_four
set_option linter.unusedVariables false
set_option linter.unusedSimpArgs false
def impl_ValidTree.f (l0_0 : List (S106)) : Option Bool:=if smT l0_0 = true then some (vT l0_0) else none
set_option maxHeartbeats 4000000 in
set_option maxRecDepth 100000 in
theorem impl_ValidTree.calls (A0_0 : Option Addr) (c0_0 : Nat) (l0_0 : List (S106)) (r : Bool) (w : World) (hr0_0 : Kd.C k106 w A0_0 l0_0.length l0_0) (hc0_0 : l0_0.length ≤ c0_0) (h : impl_ValidTree.f l0_0 = some r) :
  Calls Try.prog 62 #[.agg #[.slice A0_0 l0_0.length c0_0]] w fun e w'=>e = .returned (.bool r) ∧ Below w.heap.size w w':=by
 have hu31:=Try.underlying33
 have hsm : smT l0_0 = true:=by
  apply Classical.byContradiction
  intro hn
  rw [impl_ValidTree.f,if_neg hn] at h
  cases h
 rw [impl_ValidTree.f,if_pos hsm] at h
 have HRr:=a0_ (Option.some.inj h)
 have HSM:=a0_ hsm
 have HR:=a0_ hr0_0
 have hmax : l0_0.length ≤ 9223372036854775807:=hr0_0.2.1
 clear h hsm hr0_0
 go_enter Try.func62,Try.ntmps62
 go_wp2
 go_loopg [8] l0_0.length (fun gg s8 wr=>∃ kk : Nat,kk ≤ l0_0.length ∧ l0_0.length - kk ≤ gg ∧ s8 = .int .i64 kk ∧ Aside0 (Below w.heap.size w wr) ∧ Aside0 (wr.heap[w.heap.size]? = some (.cells #[.slice A0_0 l0_0.length c0_0] 33 (0,0))) ∧ Aside0 (∀ j,j < kk → okCls l0_0 j (l0_0.getD j z106) = true))
 case atStart=>exact ⟨0,Nat.zero_le _,by omega,rfl,⟨below1 w _⟩,⟨heap_new1 w _⟩,⟨fun j hj=>absurd hj (Nat.not_lt_zero _)⟩⟩
 case round =>
  obtain ⟨kk,hkk,hg,rfl,BW,BK,HA⟩:=hrel
  have hcz : wr.cell? ⟨w.heap.size,0,none⟩ = some (.slice A0_0 l0_0.length c0_0):=(blk_cell BK.out 0).trans rfl
  by_cases hlt : kk < l0_0.length
  ·have hltz : (kk : Int) < (l0_0.length : Int):=by omega
   obtain ⟨ad,ea,hx0,hx1⟩:=at_T106 HR.out (kk : Int) (by omega) (by omega)
   cases ea
   have hrd : rd_T106 l0_0 (kk : Int) = l0_0[kk]:=by simp [rd_T106,hlt]
   rw [hrd] at hx0 hx1
   rw [Int.toNat_natCast] at hx0 hx1
   replace hx0:=(BW.out.cell (World.block_lt_of_cell? w _ hx0)).trans hx0
   replace hx1:=(BW.out.cell (World.block_lt_of_cell? w _ hx1)).trans hx1
   clear hrd
   generalize hy : l0_0[kk] = y at hx0 hx1
   have B:=a0_ hy
   clear hy
   go_upto_region 4 with (fail)
   have hW1:=a0_ (below_alloc BW.out (.cells #[.string y.f0,.int .i64 y.f1] 106))
   have hW2:=a0_ (blk_alloc BK.out (.cells #[.string y.f0,.int .i64 y.f1] 106))
   have hW3:=(blk_cell hW2.out 0).trans rfl
   have hW4:=(blk_cell (heap_new1 wr (.cells #[.string y.f0,.int .i64 y.f1] 106)) 0).trans rfl
   have hW5:=(blk_cell (heap_new1 wr (.cells #[.string y.f0,.int .i64 y.f1] 106)) 1).trans rfl
   clear hcz hx0 hx1 BW BK
   generalize wr.alloc (.cells #[.string y.f0,.int .i64 y.f1] 106) = W1 at hW1 hW2 hW3 hW4 hW5 ⊢
   generalize wr.heap.size = gb at hW4 hW5 ⊢
   have hy1 : y.f0.size ≤ 9223372036854775806:=by rw [← B.out];exact smT_at HSM.out kk hlt
   have A1:=a0_ (impl_nameOk_ev y.f0 (by omega))
   have hcn0:=fun (W : World) (hW : Below w.heap.size w W)=>impl_Tree_named.calls (some ad) c0_0 l0_0 y.f0 (named l0_0 y.f0) W (Kd.C_below HR.out hW) hc0_0 rfl
   have hok : okCls l0_0 kk (l0_0.getD kk z106) = okCls l0_0 kk y:=by
    rw [← B.out];simp [List.getD,hlt]
   have hdef : okCls l0_0 kk y = (okName y.f0 && (decide (named l0_0 y.f0 = (kk : Int)) && (if kk = 0 then decide (y.f1 = -1) else decide (0 ≤ y.f1) && decide (y.f1 ≤ (kk : Int) - 1)))):=rfl
   generalize named l0_0 y.f0 = nn at hcn0 hdef
   have HCN:=a0_ hcn0
   have HOK:=a0_ hok
   have HDF:=a0_ hdef
   clear hcn0 hok hdef hy1
   go_cut [45] (fun v45 wc=>v45 = .bool (!okCls l0_0 kk y) ∧ Aside0 (Below w.heap.size w wc) ∧ Aside0 (wc.heap[w.heap.size]? = some (.cells #[.slice (some ad) l0_0.length c0_0] 33 (0,0))))
   case first =>
    have hw1 : IntKind.i64.wrap ((kk : Int) - 1) = (kk : Int) - 1:=by rw [IntKind.wrap_i64];omega
    have A2:=a0_ (show impl_within.f y.f1 0 ((kk : Int) - 1) = some (decide (0 ≤ y.f1) && decide (y.f1 ≤ (kk : Int) - 1)) by
     unfold impl_within.f
     by_cases h0 : 0 ≤ y.f1
     ·rw [if_pos h0];simp [h0]
     ·rw [if_neg h0];simp [h0])
    cases hb1 : okName y.f0 with
    | false =>
     rw [hb1] at A1
     have BV : okCls l0_0 kk y = false:=by rw [HDF.out,hb1];rfl
     clear HDF HOK
     go_wp2_with (first
     | (go_at_call 95;(with_reducible refine (impl_nameOk.calls _ y.f0 _ _ A1.out).mono ?_);rintro e w' ⟨rfl,hd⟩;have hb:=drawn_below hd;replace hW3:=pw_cell_below hb hW3;replace hW4:=pw_cell_below hb hW4;replace hW5:=pw_cell_below hb hW5;replace hW1:=a0_ (below_step hW1.out hb);replace hW2:=a0_ (blk_keptB hW2.out hb);clear hb hd)
     | (go_at_call 96;(with_reducible refine (HCN.out _ hW1.out).mono ?_);rintro e w' ⟨rfl,hb⟩;replace hW3:=pw_cell_below hb hW3;replace hW4:=pw_cell_below hb hW4;replace hW5:=pw_cell_below hb hW5;replace hW1:=a0_ (below_step hW1.out hb);replace hW2:=a0_ (blk_keptB hW2.out hb);clear hb)
     | (go_at_call 93;(with_reducible refine (impl_within.calls y.f1 0 ((kk : Int) - 1) _ _ A2.out).mono ?_);rintro e w' ⟨rfl,hd⟩;have hb:=drawn_below hd;replace hW3:=pw_cell_below hb hW3;replace hW4:=pw_cell_below hb hW4;replace hW5:=pw_cell_below hb hW5;replace hW1:=a0_ (below_step hW1.out hb);replace hW2:=a0_ (blk_keptB hW2.out hb);clear hb hd))
     go_meet
     case rel=>exact ⟨by (rw [BV]);first | rfl | (simp [*];done),⟨hW1.out⟩,⟨hW2.out⟩⟩
    | true =>
     rw [hb1] at A1
     by_cases hb2 : nn ≠ (kk : Int)
     ·have BV : okCls l0_0 kk y = false:=by rw [HDF.out,hb1,decide_eq_false hb2];rfl
      have d2 : (nn != (kk : Int)) = true:=bne_iff_ne.2 hb2
      have d2' : (nn == (kk : Int)) = false:=beq_eq_false_iff_ne.2 hb2
      clear HDF HOK hb2
      go_wp2_with (first
     | (go_at_call 95;(with_reducible refine (impl_nameOk.calls _ y.f0 _ _ A1.out).mono ?_);rintro e w' ⟨rfl,hd⟩;have hb:=drawn_below hd;replace hW3:=pw_cell_below hb hW3;replace hW4:=pw_cell_below hb hW4;replace hW5:=pw_cell_below hb hW5;replace hW1:=a0_ (below_step hW1.out hb);replace hW2:=a0_ (blk_keptB hW2.out hb);clear hb hd)
     | (go_at_call 96;(with_reducible refine (HCN.out _ hW1.out).mono ?_);rintro e w' ⟨rfl,hb⟩;replace hW3:=pw_cell_below hb hW3;replace hW4:=pw_cell_below hb hW4;replace hW5:=pw_cell_below hb hW5;replace hW1:=a0_ (below_step hW1.out hb);replace hW2:=a0_ (blk_keptB hW2.out hb);clear hb)
     | (go_at_call 93;(with_reducible refine (impl_within.calls y.f1 0 ((kk : Int) - 1) _ _ A2.out).mono ?_);rintro e w' ⟨rfl,hd⟩;have hb:=drawn_below hd;replace hW3:=pw_cell_below hb hW3;replace hW4:=pw_cell_below hb hW4;replace hW5:=pw_cell_below hb hW5;replace hW1:=a0_ (below_step hW1.out hb);replace hW2:=a0_ (blk_keptB hW2.out hb);clear hb hd))
      go_meet
      case rel=>exact ⟨by (rw [BV]);first | rfl | (simp [*];done),⟨hW1.out⟩,⟨hW2.out⟩⟩
     ·have hnm : nn = (kk : Int):=Classical.byContradiction fun hn=>hb2 hn
      have d2 : (nn != (kk : Int)) = false:=bne_eq_false_iff_eq.2 hnm
      have d2' : (nn == (kk : Int)) = true:=beq_iff_eq.2 hnm
      have BV0 : okCls l0_0 kk y = (if kk = 0 then decide (y.f1 = -1) else decide (0 ≤ y.f1) && decide (y.f1 ≤ (kk : Int) - 1)):=by rw [HDF.out,hb1,decide_eq_true hnm];rfl
      clear HDF HOK hb2 hnm
      by_cases hk0 : kk = 0
      ·have BV : okCls l0_0 kk y = decide (y.f1 = -1):=by rw [BV0,if_pos hk0]
       have e0 : ((kk : Int) == 0) = true:=beq_iff_eq.2 (by omega)
       have e1 : decide (0 < (kk : Int)) = false:=decide_eq_false (by omega)
       have e1n : decide (0 < kk) = false:=decide_eq_false (by omega)
       clear BV0
       by_cases hp : y.f1 = -1
       ·have e2 : (y.f1 != -1) = false:=by rw [hp];rfl
        have e3 : (y.f1 == -1) = true:=by rw [hp];rfl
        rw [decide_eq_true hp] at BV
        clear hp hk0
        go_wp2_with (first
     | (go_at_call 95;(with_reducible refine (impl_nameOk.calls _ y.f0 _ _ A1.out).mono ?_);rintro e w' ⟨rfl,hd⟩;have hb:=drawn_below hd;replace hW3:=pw_cell_below hb hW3;replace hW4:=pw_cell_below hb hW4;replace hW5:=pw_cell_below hb hW5;replace hW1:=a0_ (below_step hW1.out hb);replace hW2:=a0_ (blk_keptB hW2.out hb);clear hb hd)
     | (go_at_call 96;(with_reducible refine (HCN.out _ hW1.out).mono ?_);rintro e w' ⟨rfl,hb⟩;replace hW3:=pw_cell_below hb hW3;replace hW4:=pw_cell_below hb hW4;replace hW5:=pw_cell_below hb hW5;replace hW1:=a0_ (below_step hW1.out hb);replace hW2:=a0_ (blk_keptB hW2.out hb);clear hb)
     | (go_at_call 93;(with_reducible refine (impl_within.calls y.f1 0 ((kk : Int) - 1) _ _ A2.out).mono ?_);rintro e w' ⟨rfl,hd⟩;have hb:=drawn_below hd;replace hW3:=pw_cell_below hb hW3;replace hW4:=pw_cell_below hb hW4;replace hW5:=pw_cell_below hb hW5;replace hW1:=a0_ (below_step hW1.out hb);replace hW2:=a0_ (blk_keptB hW2.out hb);clear hb hd))
        go_meet
        case rel=>exact ⟨by (rw [BV]);first | rfl | (simp [*];done),⟨hW1.out⟩,⟨hW2.out⟩⟩
       ·have e2 : (y.f1 != -1) = true:=bne_iff_ne.2 hp
        have e3 : (y.f1 == -1) = false:=beq_eq_false_iff_ne.2 hp
        rw [decide_eq_false hp] at BV
        clear hp hk0
        go_wp2_with (first
     | (go_at_call 95;(with_reducible refine (impl_nameOk.calls _ y.f0 _ _ A1.out).mono ?_);rintro e w' ⟨rfl,hd⟩;have hb:=drawn_below hd;replace hW3:=pw_cell_below hb hW3;replace hW4:=pw_cell_below hb hW4;replace hW5:=pw_cell_below hb hW5;replace hW1:=a0_ (below_step hW1.out hb);replace hW2:=a0_ (blk_keptB hW2.out hb);clear hb hd)
     | (go_at_call 96;(with_reducible refine (HCN.out _ hW1.out).mono ?_);rintro e w' ⟨rfl,hb⟩;replace hW3:=pw_cell_below hb hW3;replace hW4:=pw_cell_below hb hW4;replace hW5:=pw_cell_below hb hW5;replace hW1:=a0_ (below_step hW1.out hb);replace hW2:=a0_ (blk_keptB hW2.out hb);clear hb)
     | (go_at_call 93;(with_reducible refine (impl_within.calls y.f1 0 ((kk : Int) - 1) _ _ A2.out).mono ?_);rintro e w' ⟨rfl,hd⟩;have hb:=drawn_below hd;replace hW3:=pw_cell_below hb hW3;replace hW4:=pw_cell_below hb hW4;replace hW5:=pw_cell_below hb hW5;replace hW1:=a0_ (below_step hW1.out hb);replace hW2:=a0_ (blk_keptB hW2.out hb);clear hb hd))
        go_meet
        case rel=>exact ⟨by (rw [BV]);first | rfl | (simp [*];done),⟨hW1.out⟩,⟨hW2.out⟩⟩
      ·have BV : okCls l0_0 kk y = (decide (0 ≤ y.f1) && decide (y.f1 ≤ (kk : Int) - 1)):=by rw [BV0,if_neg hk0]
       have e0 : ((kk : Int) == 0) = false:=beq_eq_false_iff_ne.2 (by omega)
       have e1 : decide (0 < (kk : Int)) = true:=decide_eq_true (by omega)
       have e1n : decide (0 < kk) = true:=decide_eq_true (by omega)
       rw [← BV] at A2
       clear BV BV0 hk0
       cases BV : okCls l0_0 kk y with
       | false =>
        rw [BV] at A2
        go_wp2_with (first
     | (go_at_call 95;(with_reducible refine (impl_nameOk.calls _ y.f0 _ _ A1.out).mono ?_);rintro e w' ⟨rfl,hd⟩;have hb:=drawn_below hd;replace hW3:=pw_cell_below hb hW3;replace hW4:=pw_cell_below hb hW4;replace hW5:=pw_cell_below hb hW5;replace hW1:=a0_ (below_step hW1.out hb);replace hW2:=a0_ (blk_keptB hW2.out hb);clear hb hd)
     | (go_at_call 96;(with_reducible refine (HCN.out _ hW1.out).mono ?_);rintro e w' ⟨rfl,hb⟩;replace hW3:=pw_cell_below hb hW3;replace hW4:=pw_cell_below hb hW4;replace hW5:=pw_cell_below hb hW5;replace hW1:=a0_ (below_step hW1.out hb);replace hW2:=a0_ (blk_keptB hW2.out hb);clear hb)
     | (go_at_call 93;(with_reducible refine (impl_within.calls y.f1 0 ((kk : Int) - 1) _ _ A2.out).mono ?_);rintro e w' ⟨rfl,hd⟩;have hb:=drawn_below hd;replace hW3:=pw_cell_below hb hW3;replace hW4:=pw_cell_below hb hW4;replace hW5:=pw_cell_below hb hW5;replace hW1:=a0_ (below_step hW1.out hb);replace hW2:=a0_ (blk_keptB hW2.out hb);clear hb hd))
        go_meet
        case rel=>exact ⟨by (rw [BV]);first | rfl | (simp [*];done),⟨hW1.out⟩,⟨hW2.out⟩⟩
       | true =>
        rw [BV] at A2
        go_wp2_with (first
     | (go_at_call 95;(with_reducible refine (impl_nameOk.calls _ y.f0 _ _ A1.out).mono ?_);rintro e w' ⟨rfl,hd⟩;have hb:=drawn_below hd;replace hW3:=pw_cell_below hb hW3;replace hW4:=pw_cell_below hb hW4;replace hW5:=pw_cell_below hb hW5;replace hW1:=a0_ (below_step hW1.out hb);replace hW2:=a0_ (blk_keptB hW2.out hb);clear hb hd)
     | (go_at_call 96;(with_reducible refine (HCN.out _ hW1.out).mono ?_);rintro e w' ⟨rfl,hb⟩;replace hW3:=pw_cell_below hb hW3;replace hW4:=pw_cell_below hb hW4;replace hW5:=pw_cell_below hb hW5;replace hW1:=a0_ (below_step hW1.out hb);replace hW2:=a0_ (blk_keptB hW2.out hb);clear hb)
     | (go_at_call 93;(with_reducible refine (impl_within.calls y.f1 0 ((kk : Int) - 1) _ _ A2.out).mono ?_);rintro e w' ⟨rfl,hd⟩;have hb:=drawn_below hd;replace hW3:=pw_cell_below hb hW3;replace hW4:=pw_cell_below hb hW4;replace hW5:=pw_cell_below hb hW5;replace hW1:=a0_ (below_step hW1.out hb);replace hW2:=a0_ (blk_keptB hW2.out hb);clear hb hd))
        go_meet
        case rel=>exact ⟨by (rw [BV]);first | rfl | (simp [*];done),⟨hW1.out⟩,⟨hW2.out⟩⟩
   case rest =>
    obtain ⟨rfl,hW,hK⟩:=hcut
    have hb:=HOK.out
    cases BV : okCls l0_0 kk y with
    | false =>
     go_wp2
     go_ret
     refine ⟨?_,hW.out⟩
     rw [← HRr.out]
     have : vT l0_0 = false:=by
      cases hv : vT l0_0 with
      | false=>rfl
      | true=>have:=vT_at hv kk hlt;rw [HOK.out,BV] at this;cases this
     rw [this];rfl
    | true =>
     go_wp2
     go_roundg (l0_0.length - (kk + 1))
     case measure=>omega
     case rel =>
      refine ⟨kk + 1,by omega,by omega,by go_num,⟨hW.out⟩,⟨hK.out⟩,⟨fun j hj=>?_⟩⟩
      by_cases e : j = kk
      ·subst e;rw [HOK.out,BV]
      ·exact HA.out j (by omega)
  ·have hltz : ¬ (kk : Int) < (l0_0.length : Int):=by omega
   have : kk = l0_0.length:=by omega
   subst this
   have A3:=a0_ (show impl_within.f (l0_0.length : Int) 1 8 = some (vT l0_0) by
    have hall : (List.range l0_0.length).all (fun i=>okCls l0_0 i (l0_0.getD i z106)) = true:=by
     rw [List.all_eq_true];intro i hi;exact HA.out i (by simpa using hi)
    unfold impl_within.f vT
    rw [hall]
    by_cases h1 : (1 : Int) ≤ l0_0.length
    ·rw [if_pos h1]
     have h1' : 1 ≤ l0_0.length:=by omega
     by_cases h8 : l0_0.length ≤ 8
     ·simp [h1',h8];omega
     ·simp [h8];omega
    ·rw [if_neg h1]
     have h1' : ¬ 1 ≤ l0_0.length:=by omega
     simp [h1'])
   rw [HRr.out] at A3
   go_wp2_with (go_at_call 93;(with_reducible refine (impl_within.calls (l0_0.length : Int) 1 8 _ _ A3.out).mono ?_);rintro e w' ⟨rfl,⟨nd,rfl⟩⟩)
   go_ret
   exact ⟨rfl,pw_below_drewN BW.out _⟩
end Go.Proofs.Ytfhcfhffmblacaa.P
namespace Go.Proofs.Ytfhcfhffmblacaa.P
open Go.RowKit Go.Proofs.YtfhcfhffmblacaaW.PrintWords Go.Proofs.YtfhcfhffmblacaaW.PrintLast Go.Proofs.YtfhcfhffmblacaaW.PrintMore
attribute [local go_sem] max2_int min2_int max_two min_two max_three min_three max_four min_four
set_option linter.unusedVariables false
set_option linter.unusedSimpArgs false
def impl_Heap_has.f (l0_0 : List (S79)) (a1 : Int) : Option (Bool):=(impl_within.f a1 0 (wrap64 ((l0_0.length : Int) - 1))).bind fun t2=>(some t2)
set_option maxHeartbeats 8000000 in
set_option maxRecDepth 100000 in
theorem impl_Heap_has.calls (A0_0 : Option Addr) (c0_0 : Nat) (l0_0 : List (S79)) (a1 : Int) (r : Bool) (w : World) (hr0_0 : Kd.C k79 w A0_0 l0_0.length l0_0) (hc0_0 : l0_0.length ≤ c0_0) (h : impl_Heap_has.f l0_0 a1 = some r) :
  Calls Try.prog 58 #[.agg #[.slice A0_0 l0_0.length c0_0],.int .i64 a1] w fun e w'=>e = .returned (.bool r) ∧ Below w.heap.size w w':=by
 have hu37:=Try.underlying37
 have HR0_0:=a0_ hr0_0
 have HC0_0:=a0_ hc0_0
 clear hr0_0 hc0_0
 have HB:=a0_ (Below.refl w.heap.size w)
 have H : ((impl_within.f a1 0 (wrap64 ((l0_0.length : Int) - 1))).bind fun t2=>(some t2)) = some r:=h
 clear h
 replace H:=Option.bind_eq_some_iff.mp H
 obtain ⟨t2,A30,H⟩:=H
 replace H : (some t2) = some r:=H
 have A3:=a0_ A30
 clear A30
 obtain rfl:=Option.some.inj H
 go_enter Try.func58,Try.ntmps58
 go_wp2_with (first | ((with_reducible refine gate_dst (N:=2) rfl ?_);refine box_event ?hg (N:=2) ?hd (cs:=#[.slice A0_0 l0_0.length c0_0]) (t:=37) ?hr ?_;(case hd=>rfl);(case hg=>rfl);(case hr=>first | (go_simp;done) | (go_simp;rfl));intro gb1 hg w4 hbox hb;have BK1:=a0_ (hbox);have GW1:=a0_ ((by rw [hg];exact (below_size hb_) : w.heap.size ≤ gb1));have GE1:=a0_ ((by rw [hg];exact (below_size hb_) : w.heap.size ≤ gb1));replace HB:=a0_ (below_step hb_ hb);clear hb hbox hg;have hcz5_0 : w4.cell? ⟨gb1,0,none⟩ = some (.slice A0_0 l0_0.length c0_0):=(blk_cell BK1.out 0).trans rfl;have hfz5_0:=blk_frozen BK1.out 0) | ((with_reducible refine gate_callee (f:=93) rfl ?_);refine goesL_ (some 10) rfl rfl Try.func93 (by kernel_rfl) rfl #[.int .i64 a1,.int .i64 0,.int .i64 (wrap64 ((l0_0.length : Int) - 1))] rfl lm_ ?_;(with_reducible refine (impl_within.calls a1 0 (wrap64 ((l0_0.length : Int) - 1)) t2 _ A3.out).mono ?_);rintro e w' ⟨rfl,⟨nd,rfl⟩⟩;refine ⟨_,rfl,?_⟩))
 go_ret
 exact ⟨by first | rfl | (simp [errW_none,errW_some] <;> rfl) | (simp [*,errW_none,errW_some] <;> rfl),hb_⟩
theorem impl_Heap_has_ev (h : List Fau) (f : Int) (hl : h.length ≤ 9223372036854775807) : impl_Heap_has.f h f = some (hasF h f):=by
 unfold impl_Heap_has.f
 rw [wrap_in (by omega) (by omega),impl_within_ev]
 rfl
end Go.Proofs.Ytfhcfhffmblacaa.P
