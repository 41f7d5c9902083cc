/- Texts under the proof of FnExactKidsOf: helper words, the functions' contracts and the plain laws. No condition. -/
import Derived.Test.YtbglafibhopleaaQFnExactKidsOfa
import Derived.Test.YtbglafibhopleaaQFnExactKidsOfb
namespace Go.Proofs.Ytbglafibhopleaa.P
open Go.RowKit Go.Proofs.YtbglafibhopleaaW.PrintWords Go.Proofs.YtbglafibhopleaaW.PrintLast Go.Proofs.YtbglafibhopleaaW.PrintMore
attribute [local go_sem] max2_int min2_int max_two min_two max_three min_three max_four min_four
set_option linter.unusedVariables false
set_option linter.unusedSimpArgs false
mutual
def impl_partsOk.l0 : Nat → List (S55) → List (S55) → Int → Int → List (S72) → Option (Bool)
 | 0,_,_,_,_,_=>none
 | k + 1,x1,x8,x9,x10,x2000=>if x10 < x9 then (if 0 ≤ x10 then (if x10 < (x8.length : Int) then ((impl_codeOk.f ((rd_T55 x8 x10).f3)).bind fun t5=>(if t5 = true then ((impl_within.f ((rd_T55 x8 x10).f0) 0 5).bind fun t6=>(if t6 = true then (impl_partsOk.j1 k x1 x10 x8 x9 x10 ((((rd_T55 x8 x10).f0) == 0) != (x10 == 0)) x2000 ((rd_T55 x8 x10).f0) ((rd_T55 x8 x10).f1) ((rd_T55 x8 x10).f2) ((rd_T55 x8 x10).f3)) else (impl_partsOk.j1 k x1 x10 x8 x9 x10 true x2000 ((rd_T55 x8 x10).f0) ((rd_T55 x8 x10).f1) ((rd_T55 x8 x10).f2) ((rd_T55 x8 x10).f3)))) else (impl_partsOk.j1 k x1 x10 x8 x9 x10 true x2000 ((rd_T55 x8 x10).f0) ((rd_T55 x8 x10).f1) ((rd_T55 x8 x10).f2) ((rd_T55 x8 x10).f3)))) else (none)) else (none)) else ((impl_within.f (x1.length : Int) 1 16).bind fun t2=>(some t2))
def impl_partsOk.j1 : Nat → List (S55) → Int → List (S55) → Int → Int → Bool → List (S72) → Int → Bool → Int → Int → Option (Bool)
 | 0,_,_,_,_,_,_,_,_,_,_,_=>none
 | k + 1,x1,x5,x8,x9,x10,x32,x2000,x5000,x5001,x5002,x5003=>if x32 = true then (some false) else (if x5 > 0 then (if 0 ≤ (wrap64 (x5 - 1)) then (if (wrap64 (x5 - 1)) < (x1.length : Int) then (if x5000 > ((rd_T55 x1 (wrap64 (x5 - 1))).f0) then (if (rd_T55 x1 (wrap64 (x5 - 1))).f1 = true then (impl_partsOk.j2 k x1 x5 x8 x9 x10 (!(x5000 == (wrap64 (((rd_T55 x1 (wrap64 (x5 - 1))).f0) + 1)))) x2000 x5000 x5001 x5002 x5003) else (impl_partsOk.j2 k x1 x5 x8 x9 x10 (!false) x2000 x5000 x5001 x5002 x5003)) else (impl_partsOk.j2 k x1 x5 x8 x9 x10 false x2000 x5000 x5001 x5002 x5003)) else (none)) else (none)) else (impl_partsOk.j2 k x1 x5 x8 x9 x10 false x2000 x5000 x5001 x5002 x5003))
def impl_partsOk.j2 : Nat → List (S55) → Int → List (S55) → Int → Int → Bool → List (S72) → Int → Bool → Int → Int → Option (Bool)
 | 0,_,_,_,_,_,_,_,_,_,_,_=>none
 | k + 1,x1,x5,x8,x9,x10,x66,x2000,x5000,x5001,x5002,x5003=>if x66 = true then (some false) else (if (wrap64 (x5 + 1)) < (x1.length : Int) then (if 0 ≤ (wrap64 (x5 + 1)) then (if x5001 = true then (if x5002 = 0 then (if (((rd_T55 x1 (wrap64 (x5 + 1))).f0) > x5000) then (impl_partsOk.l0 k x1 x8 x9 (wrap64 (x10 + 1)) x2000) else (some false)) else (some false)) else ((impl_Tree_has.f x2000 x5002).bind fun t11=>(if t11 = true then (impl_partsOk.l0 k x1 x8 x9 (wrap64 (x10 + 1)) x2000) else (some false)))) else (none)) else (if x5001 = true then (if x5002 = 0 then (some false) else (some false)) else ((impl_Tree_has.f x2000 x5002).bind fun t12=>(if t12 = true then (impl_partsOk.l0 k x1 x8 x9 (wrap64 (x10 + 1)) x2000) else (some false)))))
end
def impl_partsOk.f (k : Nat) (l0_0 : List (S72)) (l1 : List (S55)) : Option (Bool):=impl_partsOk.l0 k l1 l1 (l1.length : Int) 0 l0_0
theorem impl_partsOk.mono_l : ∀ k,(∀ y0 y1 y2 y3 y4,LeO (impl_partsOk.l0 k y0 y1 y2 y3 y4) (impl_partsOk.l0 (k + 1) y0 y1 y2 y3 y4)) ∧ (∀ y0 y1 y2 y3 y4 y5 y6 y7 y8 y9 y10,LeO (impl_partsOk.j1 k y0 y1 y2 y3 y4 y5 y6 y7 y8 y9 y10) (impl_partsOk.j1 (k + 1) y0 y1 y2 y3 y4 y5 y6 y7 y8 y9 y10)) ∧ (∀ y0 y1 y2 y3 y4 y5 y6 y7 y8 y9 y10,LeO (impl_partsOk.j2 k y0 y1 y2 y3 y4 y5 y6 y7 y8 y9 y10) (impl_partsOk.j2 (k + 1) y0 y1 y2 y3 y4 y5 y6 y7 y8 y9 y10))
 | 0=>⟨fun _ _ _ _ _ r h=>by simp [impl_partsOk.l0] at h,fun _ _ _ _ _ _ _ _ _ _ _ r h=>by simp [impl_partsOk.j1] at h,fun _ _ _ _ _ _ _ _ _ _ _ r h=>by simp [impl_partsOk.j2] at h⟩
 | k + 1=>by
  obtain ⟨ih0,ih1,ih2⟩:=impl_partsOk.mono_l k
  refine ⟨?_,?_,?_⟩
  ·intro y0 y1 y2 y3 y4
   unfold impl_partsOk.l0
   repeat' first
   | (with_reducible exact ih0 _ _ _ _ _)
   | (with_reducible exact ih1 _ _ _ _ _ _ _ _ _ _ _)
   | (with_reducible exact ih2 _ _ _ _ _ _ _ _ _ _ _)
   | (with_reducible exact LeO.refl _)
   | (with_reducible exact LeO.none _)
   | (with_reducible refine LeO.ite ?_ ?_)
   | (with_reducible refine LeO.bind ?_ (fun _=>?_))
   | exact ih0 _ _ _ _ _
   | exact ih1 _ _ _ _ _ _ _ _ _ _ _
   | exact ih2 _ _ _ _ _ _ _ _ _ _ _
   | exact LeO.none _
   | refine LeO.ite ?_ ?_
   | refine LeO.bind ?_ (fun _=>?_)
  ·intro y0 y1 y2 y3 y4 y5 y6 y7 y8 y9 y10
   unfold impl_partsOk.j1
   repeat' first
   | (with_reducible exact ih0 _ _ _ _ _)
   | (with_reducible exact ih1 _ _ _ _ _ _ _ _ _ _ _)
   | (with_reducible exact ih2 _ _ _ _ _ _ _ _ _ _ _)
   | (with_reducible exact LeO.refl _)
   | (with_reducible exact LeO.none _)
   | (with_reducible refine LeO.ite ?_ ?_)
   | (with_reducible refine LeO.bind ?_ (fun _=>?_))
   | exact ih0 _ _ _ _ _
   | exact ih1 _ _ _ _ _ _ _ _ _ _ _
   | exact ih2 _ _ _ _ _ _ _ _ _ _ _
   | exact LeO.none _
   | refine LeO.ite ?_ ?_
   | refine LeO.bind ?_ (fun _=>?_)
  ·intro y0 y1 y2 y3 y4 y5 y6 y7 y8 y9 y10
   unfold impl_partsOk.j2
   repeat' first
   | (with_reducible exact ih0 _ _ _ _ _)
   | (with_reducible exact ih1 _ _ _ _ _ _ _ _ _ _ _)
   | (with_reducible exact ih2 _ _ _ _ _ _ _ _ _ _ _)
   | (with_reducible exact LeO.refl _)
   | (with_reducible exact LeO.none _)
   | (with_reducible refine LeO.ite ?_ ?_)
   | (with_reducible refine LeO.bind ?_ (fun _=>?_))
   | exact ih0 _ _ _ _ _
   | exact ih1 _ _ _ _ _ _ _ _ _ _ _
   | exact ih2 _ _ _ _ _ _ _ _ _ _ _
   | exact LeO.none _
   | refine LeO.ite ?_ ?_
   | refine LeO.bind ?_ (fun _=>?_)
theorem impl_partsOk.mono : ∀ a0 a1 k,LeO (impl_partsOk.f k a0 a1) (impl_partsOk.f (k + 1) a0 a1):=by
 intro a0 a1 k
 obtain ⟨ih0,ih1,ih2⟩:=impl_partsOk.mono_l k
 unfold impl_partsOk.f
 repeat' first
   | (with_reducible exact ih0 _ _ _ _ _)
   | (with_reducible exact ih1 _ _ _ _ _ _ _ _ _ _ _)
   | (with_reducible exact ih2 _ _ _ _ _ _ _ _ _ _ _)
   | (with_reducible exact LeO.refl _)
   | (with_reducible exact LeO.none _)
   | (with_reducible refine LeO.ite ?_ ?_)
   | (with_reducible refine LeO.bind ?_ (fun _=>?_))
   | exact ih0 _ _ _ _ _
   | exact ih1 _ _ _ _ _ _ _ _ _ _ _
   | exact ih2 _ _ _ _ _ _ _ _ _ _ _
   | exact LeO.none _
   | refine LeO.ite ?_ ?_
   | refine LeO.bind ?_ (fun _=>?_)
set_option maxHeartbeats 8000000 in
set_option maxRecDepth 100000 in
theorem impl_partsOk.calls (k : Nat) (A0_0 : Option Addr) (c0_0 : Nat) (l0_0 : List (S72)) (A1 : Option Addr) (c1 : Nat) (l1 : List (S55)) (r : Bool) (w : World) (hr0_0 : Kd.C k72 w A0_0 l0_0.length l0_0) (hc0_0 : l0_0.length ≤ c0_0) (hr1 : Kd.C k55 w A1 l1.length l1) (hc1 : l1.length ≤ c1) (h : impl_partsOk.f k l0_0 l1 = some r) :
  Calls Try.prog 50 #[.agg #[.slice A0_0 l0_0.length c0_0],.slice A1 l1.length c1] w fun e w'=>e = .returned (.bool r) ∧ Below w.heap.size w w':=by
 have hu32:=Try.underlying32
 have hu55:=Try.underlying55
 have HR0_0:=a0_ hr0_0
 have HC0_0:=a0_ hc0_0
 clear hr0_0 hc0_0
 have HR1:=a0_ hr1
 have HC1:=a0_ hc1
 clear hr1 hc1
 have HB:=a0_ (Below.refl w.heap.size w)
 have H : (impl_partsOk.l0 k l1 l1 (l1.length : Int) 0 l0_0) = some r:=h
 clear h
 have H':=a0_ H
 clear H
 go_enter Try.func50,Try.ntmps50
 go_wp2_with (first | ((with_reducible refine gate_dst (N:=2) rfl ?_);refine box_event ?hg (N:=2) ?hd (cs:=#[.slice A0_0 l0_0.length c0_0]) (t:=32) ?hr ?_;(case hd=>rfl);(case hg=>rfl);(case hr=>first | (go_simp;done) | (go_simp;rfl));intro gb1 hg w3 hbox hb;have BK1:=a0_ (hbox);have GW1:=a0_ ((by rw [hg];exact (below_size hbw_) : w.heap.size ≤ gb1));have GE1:=a0_ ((by rw [hg];exact (below_size hbw_) : w.heap.size ≤ gb1));replace HB:=a0_ (below_step hbw_ hb);clear hb hbox hg))
 repeat (go_quiet (first | ((with_reducible refine gate_dst (N:=2) rfl ?_);refine box_event ?hg (N:=2) ?hd (cs:=#[.slice A0_0 l0_0.length c0_0]) (t:=32) ?hr ?_;(case hd=>rfl);(case hg=>rfl);(case hr=>first | (go_simp;done) | (go_simp;rfl));intro gb1 hg w3 hbox hb;have BK1:=a0_ (hbox);have GW1:=a0_ ((by rw [hg];exact (below_size hbw_) : w.heap.size ≤ gb1));have GE1:=a0_ ((by rw [hg];exact (below_size hbw_) : w.heap.size ≤ gb1));replace HB:=a0_ (below_step hbw_ hb);clear hb hbox hg));try go_wp2_with (first | ((with_reducible refine gate_dst (N:=2) rfl ?_);refine box_event ?hg (N:=2) ?hd (cs:=#[.slice A0_0 l0_0.length c0_0]) (t:=32) ?hr ?_;(case hd=>rfl);(case hg=>rfl);(case hr=>first | (go_simp;done) | (go_simp;rfl));intro gb1 hg w3 hbox hb;have BK1:=a0_ (hbox);have GW1:=a0_ ((by rw [hg];exact (below_size hbw_) : w.heap.size ≤ gb1));have GE1:=a0_ ((by rw [hg];exact (below_size hbw_) : w.heap.size ≤ gb1));replace HB:=a0_ (below_step hbw_ hb);clear hb hbox hg)))
 go_loopg [10] k (fun kq v10 w'=>∃ (x10_1 : Int),v10 = .int .i64 x10_1 ∧ Aside0 (impl_partsOk.l0 kq l1 l1 (l1.length : Int) x10_1 l0_0 = some r) ∧ Aside0 (kq ≤ k) ∧ Aside0 (w'.heap[gb1]? = some (.cells #[(.slice A0_0 l0_0.length c0_0)] 32 (0,0))) ∧ Aside0 (Below w.heap.size w w'))
 case atStart=>exact ⟨(0),(by first | rfl | (simp;done) | (simp [*];done)),H',⟨Nat.le_refl _⟩,⟨by (with_reducible repeat (first | refine blk_drewN ?_ _ | refine blk_drew ?_ | refine blk_alloc ?_ _));exact BK1.out⟩,⟨hbw_⟩⟩
 case round =>
  clear H'
  try clear c1
  try clear p2
  obtain ⟨x10_1,rfl,HA,HK1,BK1,HB⟩:=hrel
  cases gk with
  | zero=>exact absurd HA.out (by simp [impl_partsOk.l0])
  | succ k1 =>
   have H:=HA.out
   clear HA
   simp only [impl_partsOk.l0] at H
   by_cases c4 : x10_1 < (l1.length : Int)
   ·rw [if_pos c4] at H
    have c4b0 : decide (x10_1 < (l1.length : Int)) = true:=decide_eq_true c4
    clear c4
    by_cases c5 : 0 ≤ x10_1
    ·rw [if_pos c5] at H
     have c5b0 : decide (0 ≤ x10_1) = true:=decide_eq_true c5
     clear c5
     by_cases c6 : x10_1 < (l1.length : Int)
     ·rw [if_pos c6] at H
      have c6b0 : decide (x10_1 < (l1.length : Int)) = true:=decide_eq_true c6
      clear c6
      have HC7:=a0_ H
      clear H
      have p3 : 0 ≤ (x10_1 : Int):=of_decide_eq_true (by first | (with_reducible assumption) | assumption)
      have q3 : x10_1 < (l1.length : Int):=of_decide_eq_true (by first | (with_reducible assumption) | assumption)
      obtain ⟨ad3,e3,hx3_0,hx3_1,hx3_2,hx3_3⟩:=at_T55 HR1.out x10_1 p3 q3
      cases e3
      replace hx3_0:=(HB.out.cell (World.block_lt_of_cell? w _ hx3_0)).trans hx3_0
      replace hx3_1:=(HB.out.cell (World.block_lt_of_cell? w _ hx3_1)).trans hx3_1
      replace hx3_2:=(HB.out.cell (World.block_lt_of_cell? w _ hx3_2)).trans hx3_2
      replace hx3_3:=(HB.out.cell (World.block_lt_of_cell? w _ hx3_3)).trans hx3_3
      replace p3:=eq_true p3
      replace q3:=eq_true q3
      go_upto_region 4 with (first | ((with_reducible refine gate_dst (N:=6) rfl ?_);refine box_event ?hg (N:=6) ?hd (cs:=#[.int .i64 0,.bool false,.int .i64 0,.int .i64 0]) (t:=55) ?hr ?_;(case hd=>rfl);(case hg=>rfl);(case hr=>first | (go_simp;done) | (go_simp;rfl));intro gb4 hg w8 hbox hb;have n0_:=kb_ BK1 hb;have n1_:=a0_ (below_step hbw_ hb);have n2_:=a0_ (hbox);have n3_:=a0_ ((by rw [hg];exact (below_size hbw_) : w.heap.size ≤ gb4));have n4_:=a0_ ((by rw [hg];exact (below_size hbw_) : w.heap.size ≤ gb4));have n5_:=a0_ ((by rw [hg];exact Nat.ne_of_lt (blk_lt (bb_ BK1.out)) : gb1 ≠ gb4));have n6_:=a0_ ((by rw [hg];exact Nat.ne_of_gt (blk_lt (bb_ BK1.out)) : gb4 ≠ gb1));clear BK1 HB;have BK1:=n0_;have HB:=n1_;have BK4:=n2_;have GW4:=n3_;have GE4:=n4_;have NB1_4:=n5_;have NB4_1:=n6_;clear n0_ n1_ n2_ n3_ n4_ n5_ n6_;clear hb hbox hg;have hnb9:=NB4_1.out;have hnc9:=NB1_4.out;have hcz10_0 : w8.cell? ⟨gb4,0,none⟩ = some (.int .i64 0):=(blk_cell BK4.out 0).trans rfl;have hcz10_1 : w8.cell? ⟨gb4,1,none⟩ = some (.bool false):=(blk_cell BK4.out 1).trans rfl;have hcz10_2 : w8.cell? ⟨gb4,2,none⟩ = some (.int .i64 0):=(blk_cell BK4.out 2).trans rfl;have hcz10_3 : w8.cell? ⟨gb4,3,none⟩ = some (.int .i64 0):=(blk_cell BK4.out 3).trans rfl;have hfz10_0:=blk_frozen BK4.out 0;have hfz10_1:=blk_frozen BK4.out 1;have hfz10_2:=blk_frozen BK4.out 2;have hfz10_3:=blk_frozen BK4.out 3))
      repeat (go_quiet (first | ((with_reducible refine gate_dst (N:=6) rfl ?_);refine box_event ?hg (N:=6) ?hd (cs:=#[.int .i64 0,.bool false,.int .i64 0,.int .i64 0]) (t:=55) ?hr ?_;(case hd=>rfl);(case hg=>rfl);(case hr=>first | (go_simp;done) | (go_simp;rfl));intro gb4 hg w8 hbox hb;have n0_:=kb_ BK1 hb;have n1_:=a0_ (below_step hbw_ hb);have n2_:=a0_ (hbox);have n3_:=a0_ ((by rw [hg];exact (below_size hbw_) : w.heap.size ≤ gb4));have n4_:=a0_ ((by rw [hg];exact (below_size hbw_) : w.heap.size ≤ gb4));have n5_:=a0_ ((by rw [hg];exact Nat.ne_of_lt (blk_lt (bb_ BK1.out)) : gb1 ≠ gb4));have n6_:=a0_ ((by rw [hg];exact Nat.ne_of_gt (blk_lt (bb_ BK1.out)) : gb4 ≠ gb1));clear BK1 HB;have BK1:=n0_;have HB:=n1_;have BK4:=n2_;have GW4:=n3_;have GE4:=n4_;have NB1_4:=n5_;have NB4_1:=n6_;clear n0_ n1_ n2_ n3_ n4_ n5_ n6_;clear hb hbox hg;have hnb9:=NB4_1.out;have hnc9:=NB1_4.out;have hcz10_0 : w8.cell? ⟨gb4,0,none⟩ = some (.int .i64 0):=(blk_cell BK4.out 0).trans rfl;have hcz10_1 : w8.cell? ⟨gb4,1,none⟩ = some (.bool false):=(blk_cell BK4.out 1).trans rfl;have hcz10_2 : w8.cell? ⟨gb4,2,none⟩ = some (.int .i64 0):=(blk_cell BK4.out 2).trans rfl;have hcz10_3 : w8.cell? ⟨gb4,3,none⟩ = some (.int .i64 0):=(blk_cell BK4.out 3).trans rfl;have hfz10_0:=blk_frozen BK4.out 0;have hfz10_1:=blk_frozen BK4.out 1;have hfz10_2:=blk_frozen BK4.out 2;have hfz10_3:=blk_frozen BK4.out 3));go_upto_region 4 with (first | ((with_reducible refine gate_dst (N:=6) rfl ?_);refine box_event ?hg (N:=6) ?hd (cs:=#[.int .i64 0,.bool false,.int .i64 0,.int .i64 0]) (t:=55) ?hr ?_;(case hd=>rfl);(case hg=>rfl);(case hr=>first | (go_simp;done) | (go_simp;rfl));intro gb4 hg w8 hbox hb;have n0_:=kb_ BK1 hb;have n1_:=a0_ (below_step hbw_ hb);have n2_:=a0_ (hbox);have n3_:=a0_ ((by rw [hg];exact (below_size hbw_) : w.heap.size ≤ gb4));have n4_:=a0_ ((by rw [hg];exact (below_size hbw_) : w.heap.size ≤ gb4));have n5_:=a0_ ((by rw [hg];exact Nat.ne_of_lt (blk_lt (bb_ BK1.out)) : gb1 ≠ gb4));have n6_:=a0_ ((by rw [hg];exact Nat.ne_of_gt (blk_lt (bb_ BK1.out)) : gb4 ≠ gb1));clear BK1 HB;have BK1:=n0_;have HB:=n1_;have BK4:=n2_;have GW4:=n3_;have GE4:=n4_;have NB1_4:=n5_;have NB4_1:=n6_;clear n0_ n1_ n2_ n3_ n4_ n5_ n6_;clear hb hbox hg;have hnb9:=NB4_1.out;have hnc9:=NB1_4.out;have hcz10_0 : w8.cell? ⟨gb4,0,none⟩ = some (.int .i64 0):=(blk_cell BK4.out 0).trans rfl;have hcz10_1 : w8.cell? ⟨gb4,1,none⟩ = some (.bool false):=(blk_cell BK4.out 1).trans rfl;have hcz10_2 : w8.cell? ⟨gb4,2,none⟩ = some (.int .i64 0):=(blk_cell BK4.out 2).trans rfl;have hcz10_3 : w8.cell? ⟨gb4,3,none⟩ = some (.int .i64 0):=(blk_cell BK4.out 3).trans rfl;have hfz10_0:=blk_frozen BK4.out 0;have hfz10_1:=blk_frozen BK4.out 1;have hfz10_2:=blk_frozen BK4.out 2;have hfz10_3:=blk_frozen BK4.out 3)))
      (try simp only [Act.put,s1_,s2_,s3_])
      go_cut [32] (fun v32 wc=>∃ (kq : Nat) (x32_6 : Bool),v32 = .bool x32_6 ∧ Aside0 (impl_partsOk.j1 kq l1 x10_1 l1 (l1.length : Int) x10_1 x32_6 l0_0 ((rd_T55 l1 x10_1).f0) ((rd_T55 l1 x10_1).f1) ((rd_T55 l1 x10_1).f2) ((rd_T55 l1 x10_1).f3) = some r) ∧ Aside0 (kq ≤ k1) ∧ Aside0 (wc.heap[gb1]? = some (.cells #[(.slice A0_0 l0_0.length c0_0)] 32 (0,0))) ∧ Aside0 (wc.heap[gb4]? = some (.cells #[.int .i64 ((rd_T55 l1 x10_1).f0),.bool ((rd_T55 l1 x10_1).f1),.int .i64 ((rd_T55 l1 x10_1).f2),.int .i64 ((rd_T55 l1 x10_1).f3)] 55 (0,0))) ∧ Aside0 (Below w.heap.size w wc))
      case first =>
       have H:=HC7.out
       clear HC7
       replace H:=Option.bind_eq_some_iff.mp H
       obtain ⟨t5,A110,H⟩:=H
       try dsimp only at H
       have A11:=a0_ A110
       clear A110
       by_cases c12 : t5 = true
       ·subst c12
        have H1 : ((impl_within.f ((rd_T55 l1 x10_1).f0) 0 5).bind fun t6=>(if t6 = true then (impl_partsOk.j1 k1 l1 x10_1 l1 (l1.length : Int) x10_1 ((((rd_T55 l1 x10_1).f0) == 0) != (x10_1 == 0)) l0_0 ((rd_T55 l1 x10_1).f0) ((rd_T55 l1 x10_1).f1) ((rd_T55 l1 x10_1).f2) ((rd_T55 l1 x10_1).f3)) else (impl_partsOk.j1 k1 l1 x10_1 l1 (l1.length : Int) x10_1 true l0_0 ((rd_T55 l1 x10_1).f0) ((rd_T55 l1 x10_1).f1) ((rd_T55 l1 x10_1).f2) ((rd_T55 l1 x10_1).f3)))) = some r:=by rw [if_pos rfl] at H;exact H
        clear H
        have H:=H1
        clear H1
        replace H:=Option.bind_eq_some_iff.mp H
        obtain ⟨t6,A130,H⟩:=H
        try dsimp only at H
        have A13:=a0_ A130
        clear A130
        by_cases c14 : t6 = true
        ·subst c14
         have H1 : (impl_partsOk.j1 k1 l1 x10_1 l1 (l1.length : Int) x10_1 ((((rd_T55 l1 x10_1).f0) == 0) != (x10_1 == 0)) l0_0 ((rd_T55 l1 x10_1).f0) ((rd_T55 l1 x10_1).f1) ((rd_T55 l1 x10_1).f2) ((rd_T55 l1 x10_1).f3)) = some r:=by rw [if_pos rfl] at H;exact H
         clear H
         have H:=H1
         clear H1
         have H':=a0_ H
         clear H
         have hnb15:=NB4_1.out
         have hnc15:=NB1_4.out
         have hcz16_0 : w8.cell? ⟨gb4,0,none⟩ = some (.int .i64 0):=(blk_cell BK4.out 0).trans rfl
         have hcz16_1 : w8.cell? ⟨gb4,1,none⟩ = some (.bool false):=(blk_cell BK4.out 1).trans rfl
         have hcz16_2 : w8.cell? ⟨gb4,2,none⟩ = some (.int .i64 0):=(blk_cell BK4.out 2).trans rfl
         have hcz16_3 : w8.cell? ⟨gb4,3,none⟩ = some (.int .i64 0):=(blk_cell BK4.out 3).trans rfl
         have hfz16_0:=blk_frozen BK4.out 0
         have hfz16_1:=blk_frozen BK4.out 1
         have hfz16_2:=blk_frozen BK4.out 2
         have hfz16_3:=blk_frozen BK4.out 3
         go_wp2_with (first | (go_at_call 64;(with_reducible refine (impl_codeOk.calls ((rd_T55 l1 x10_1).f3) true _ A11.out).mono ?_);rintro e w' ⟨rfl,⟨nd,rfl⟩⟩;(try first | exact ⟨rfl,_,World.drewN_drewN _ _ _⟩ | exact ⟨rfl,_,Eq.trans (World.drewN_drewN _ _ _) (congrArg (World.drewN _) (Nat.add_assoc _ _ _))⟩)) | (go_at_call 63;(with_reducible refine (impl_within.calls ((rd_T55 l1 x10_1).f0) 0 5 true _ A13.out).mono ?_);rintro e w' ⟨rfl,⟨nd,rfl⟩⟩;(try first | exact ⟨rfl,_,World.drewN_drewN _ _ _⟩ | exact ⟨rfl,_,Eq.trans (World.drewN_drewN _ _ _) (congrArg (World.drewN _) (Nat.add_assoc _ _ _))⟩)))
         repeat (go_quiet (first | (go_at_call 64;(with_reducible refine (impl_codeOk.calls ((rd_T55 l1 x10_1).f3) true _ A11.out).mono ?_);rintro e w' ⟨rfl,⟨nd,rfl⟩⟩;(try first | exact ⟨rfl,_,World.drewN_drewN _ _ _⟩ | exact ⟨rfl,_,Eq.trans (World.drewN_drewN _ _ _) (congrArg (World.drewN _) (Nat.add_assoc _ _ _))⟩)) | (go_at_call 63;(with_reducible refine (impl_within.calls ((rd_T55 l1 x10_1).f0) 0 5 true _ A13.out).mono ?_);rintro e w' ⟨rfl,⟨nd,rfl⟩⟩;(try first | exact ⟨rfl,_,World.drewN_drewN _ _ _⟩ | exact ⟨rfl,_,Eq.trans (World.drewN_drewN _ _ _) (congrArg (World.drewN _) (Nat.add_assoc _ _ _))⟩)));try go_wp2_with (first | (go_at_call 64;(with_reducible refine (impl_codeOk.calls ((rd_T55 l1 x10_1).f3) true _ A11.out).mono ?_);rintro e w' ⟨rfl,⟨nd,rfl⟩⟩;(try first | exact ⟨rfl,_,World.drewN_drewN _ _ _⟩ | exact ⟨rfl,_,Eq.trans (World.drewN_drewN _ _ _) (congrArg (World.drewN _) (Nat.add_assoc _ _ _))⟩)) | (go_at_call 63;(with_reducible refine (impl_within.calls ((rd_T55 l1 x10_1).f0) 0 5 true _ A13.out).mono ?_);rintro e w' ⟨rfl,⟨nd,rfl⟩⟩;(try first | exact ⟨rfl,_,World.drewN_drewN _ _ _⟩ | exact ⟨rfl,_,Eq.trans (World.drewN_drewN _ _ _) (congrArg (World.drewN _) (Nat.add_assoc _ _ _))⟩))))
         go_meet
         case rel=>exact ⟨_,(((((rd_T55 l1 x10_1).f0) == 0) != (x10_1 == 0))),(by first | rfl | (simp;done) | (simp [*];done)),H',⟨by have:=HK1.out;first | omega | exact Nat.le_refl _⟩,⟨by (with_reducible repeat (first | refine blk_drewN ?_ _ | refine blk_drew ?_ | refine blk_alloc ?_ _));refine blk_far ?_ NB1_4.out _;(with_reducible repeat (first | refine blk_drewN ?_ _ | refine blk_drew ?_ | refine blk_alloc ?_ _));refine blk_far ?_ NB1_4.out _;(with_reducible repeat (first | refine blk_drewN ?_ _ | refine blk_drew ?_ | refine blk_alloc ?_ _));refine blk_far ?_ NB1_4.out _;(with_reducible repeat (first | refine blk_drewN ?_ _ | refine blk_drew ?_ | refine blk_alloc ?_ _));refine blk_far ?_ NB1_4.out _;(with_reducible repeat (first | refine blk_drewN ?_ _ | refine blk_drew ?_ | refine blk_alloc ?_ _));exact BK1.out⟩,⟨by (with_reducible repeat (first | refine blk_drewN ?_ _ | refine blk_drew ?_ | refine blk_alloc ?_ _));refine blk_put (cs:=#[.int .i64 ((rd_T55 l1 x10_1).f0),.bool ((rd_T55 l1 x10_1).f1),.int .i64 ((rd_T55 l1 x10_1).f2),.int .i64 0]) ?_ 3 _ rfl;(with_reducible repeat (first | refine blk_drewN ?_ _ | refine blk_drew ?_ | refine blk_alloc ?_ _));refine blk_put (cs:=#[.int .i64 ((rd_T55 l1 x10_1).f0),.bool ((rd_T55 l1 x10_1).f1),.int .i64 0,.int .i64 0]) ?_ 2 _ rfl;(with_reducible repeat (first | refine blk_drewN ?_ _ | refine blk_drew ?_ | refine blk_alloc ?_ _));refine blk_put (cs:=#[.int .i64 ((rd_T55 l1 x10_1).f0),.bool false,.int .i64 0,.int .i64 0]) ?_ 1 _ rfl;(with_reducible repeat (first | refine blk_drewN ?_ _ | refine blk_drew ?_ | refine blk_alloc ?_ _));refine blk_put (cs:=#[.int .i64 0,.bool false,.int .i64 0,.int .i64 0]) ?_ 0 _ rfl;(with_reducible repeat (first | refine blk_drewN ?_ _ | refine blk_drew ?_ | refine blk_alloc ?_ _));exact BK4.out⟩,⟨hbw_⟩⟩
        ·replace c14:=Bool.eq_false_iff.mpr c14
         subst c14
         have H1 : (impl_partsOk.j1 k1 l1 x10_1 l1 (l1.length : Int) x10_1 true l0_0 ((rd_T55 l1 x10_1).f0) ((rd_T55 l1 x10_1).f1) ((rd_T55 l1 x10_1).f2) ((rd_T55 l1 x10_1).f3)) = some r:=by rw [if_neg (show ¬ (false = true) by decide)] at H;exact H
         clear H
         have H:=H1
         clear H1
         have H':=a0_ H
         clear H
         have hnb17:=NB4_1.out
         have hnc17:=NB1_4.out
         have hcz18_0 : w8.cell? ⟨gb4,0,none⟩ = some (.int .i64 0):=(blk_cell BK4.out 0).trans rfl
         have hcz18_1 : w8.cell? ⟨gb4,1,none⟩ = some (.bool false):=(blk_cell BK4.out 1).trans rfl
         have hcz18_2 : w8.cell? ⟨gb4,2,none⟩ = some (.int .i64 0):=(blk_cell BK4.out 2).trans rfl
         have hcz18_3 : w8.cell? ⟨gb4,3,none⟩ = some (.int .i64 0):=(blk_cell BK4.out 3).trans rfl
         have hfz18_0:=blk_frozen BK4.out 0
         have hfz18_1:=blk_frozen BK4.out 1
         have hfz18_2:=blk_frozen BK4.out 2
         have hfz18_3:=blk_frozen BK4.out 3
         go_wp2_with (first | (go_at_call 64;(with_reducible refine (impl_codeOk.calls ((rd_T55 l1 x10_1).f3) true _ A11.out).mono ?_);rintro e w' ⟨rfl,⟨nd,rfl⟩⟩;(try first | exact ⟨rfl,_,World.drewN_drewN _ _ _⟩ | exact ⟨rfl,_,Eq.trans (World.drewN_drewN _ _ _) (congrArg (World.drewN _) (Nat.add_assoc _ _ _))⟩)) | (go_at_call 63;(with_reducible refine (impl_within.calls ((rd_T55 l1 x10_1).f0) 0 5 false _ A13.out).mono ?_);rintro e w' ⟨rfl,⟨nd,rfl⟩⟩;(try first | exact ⟨rfl,_,World.drewN_drewN _ _ _⟩ | exact ⟨rfl,_,Eq.trans (World.drewN_drewN _ _ _) (congrArg (World.drewN _) (Nat.add_assoc _ _ _))⟩)))
         repeat (go_quiet (first | (go_at_call 64;(with_reducible refine (impl_codeOk.calls ((rd_T55 l1 x10_1).f3) true _ A11.out).mono ?_);rintro e w' ⟨rfl,⟨nd,rfl⟩⟩;(try first | exact ⟨rfl,_,World.drewN_drewN _ _ _⟩ | exact ⟨rfl,_,Eq.trans (World.drewN_drewN _ _ _) (congrArg (World.drewN _) (Nat.add_assoc _ _ _))⟩)) | (go_at_call 63;(with_reducible refine (impl_within.calls ((rd_T55 l1 x10_1).f0) 0 5 false _ A13.out).mono ?_);rintro e w' ⟨rfl,⟨nd,rfl⟩⟩;(try first | exact ⟨rfl,_,World.drewN_drewN _ _ _⟩ | exact ⟨rfl,_,Eq.trans (World.drewN_drewN _ _ _) (congrArg (World.drewN _) (Nat.add_assoc _ _ _))⟩)));try go_wp2_with (first | (go_at_call 64;(with_reducible refine (impl_codeOk.calls ((rd_T55 l1 x10_1).f3) true _ A11.out).mono ?_);rintro e w' ⟨rfl,⟨nd,rfl⟩⟩;(try first | exact ⟨rfl,_,World.drewN_drewN _ _ _⟩ | exact ⟨rfl,_,Eq.trans (World.drewN_drewN _ _ _) (congrArg (World.drewN _) (Nat.add_assoc _ _ _))⟩)) | (go_at_call 63;(with_reducible refine (impl_within.calls ((rd_T55 l1 x10_1).f0) 0 5 false _ A13.out).mono ?_);rintro e w' ⟨rfl,⟨nd,rfl⟩⟩;(try first | exact ⟨rfl,_,World.drewN_drewN _ _ _⟩ | exact ⟨rfl,_,Eq.trans (World.drewN_drewN _ _ _) (congrArg (World.drewN _) (Nat.add_assoc _ _ _))⟩))))
         go_meet
         case rel=>exact ⟨_,(true),(by first | rfl | (simp;done) | (simp [*];done)),H',⟨by have:=HK1.out;first | omega | exact Nat.le_refl _⟩,⟨by (with_reducible repeat (first | refine blk_drewN ?_ _ | refine blk_drew ?_ | refine blk_alloc ?_ _));refine blk_far ?_ NB1_4.out _;(with_reducible repeat (first | refine blk_drewN ?_ _ | refine blk_drew ?_ | refine blk_alloc ?_ _));refine blk_far ?_ NB1_4.out _;(with_reducible repeat (first | refine blk_drewN ?_ _ | refine blk_drew ?_ | refine blk_alloc ?_ _));refine blk_far ?_ NB1_4.out _;(with_reducible repeat (first | refine blk_drewN ?_ _ | refine blk_drew ?_ | refine blk_alloc ?_ _));refine blk_far ?_ NB1_4.out _;(with_reducible repeat (first | refine blk_drewN ?_ _ | refine blk_drew ?_ | refine blk_alloc ?_ _));exact BK1.out⟩,⟨by (with_reducible repeat (first | refine blk_drewN ?_ _ | refine blk_drew ?_ | refine blk_alloc ?_ _));refine blk_put (cs:=#[.int .i64 ((rd_T55 l1 x10_1).f0),.bool ((rd_T55 l1 x10_1).f1),.int .i64 ((rd_T55 l1 x10_1).f2),.int .i64 0]) ?_ 3 _ rfl;(with_reducible repeat (first | refine blk_drewN ?_ _ | refine blk_drew ?_ | refine blk_alloc ?_ _));refine blk_put (cs:=#[.int .i64 ((rd_T55 l1 x10_1).f0),.bool ((rd_T55 l1 x10_1).f1),.int .i64 0,.int .i64 0]) ?_ 2 _ rfl;(with_reducible repeat (first | refine blk_drewN ?_ _ | refine blk_drew ?_ | refine blk_alloc ?_ _));refine blk_put (cs:=#[.int .i64 ((rd_T55 l1 x10_1).f0),.bool false,.int .i64 0,.int .i64 0]) ?_ 1 _ rfl;(with_reducible repeat (first | refine blk_drewN ?_ _ | refine blk_drew ?_ | refine blk_alloc ?_ _));refine blk_put (cs:=#[.int .i64 0,.bool false,.int .i64 0,.int .i64 0]) ?_ 0 _ rfl;(with_reducible repeat (first | refine blk_drewN ?_ _ | refine blk_drew ?_ | refine blk_alloc ?_ _));exact BK4.out⟩,⟨hbw_⟩⟩
       ·replace c12:=Bool.eq_false_iff.mpr c12
        subst c12
        have H1 : (impl_partsOk.j1 k1 l1 x10_1 l1 (l1.length : Int) x10_1 true l0_0 ((rd_T55 l1 x10_1).f0) ((rd_T55 l1 x10_1).f1) ((rd_T55 l1 x10_1).f2) ((rd_T55 l1 x10_1).f3)) = some r:=by rw [if_neg (show ¬ (false = true) by decide)] at H;exact H
        clear H
        have H:=H1
        clear H1
        have H':=a0_ H
        clear H
        have hnb19:=NB4_1.out
        have hnc19:=NB1_4.out
        have hcz20_0 : w8.cell? ⟨gb4,0,none⟩ = some (.int .i64 0):=(blk_cell BK4.out 0).trans rfl
        have hcz20_1 : w8.cell? ⟨gb4,1,none⟩ = some (.bool false):=(blk_cell BK4.out 1).trans rfl
        have hcz20_2 : w8.cell? ⟨gb4,2,none⟩ = some (.int .i64 0):=(blk_cell BK4.out 2).trans rfl
        have hcz20_3 : w8.cell? ⟨gb4,3,none⟩ = some (.int .i64 0):=(blk_cell BK4.out 3).trans rfl
        have hfz20_0:=blk_frozen BK4.out 0
        have hfz20_1:=blk_frozen BK4.out 1
        have hfz20_2:=blk_frozen BK4.out 2
        have hfz20_3:=blk_frozen BK4.out 3
        go_wp2_with (first | (go_at_call 64;(with_reducible refine (impl_codeOk.calls ((rd_T55 l1 x10_1).f3) false _ A11.out).mono ?_);rintro e w' ⟨rfl,⟨nd,rfl⟩⟩;(try first | exact ⟨rfl,_,World.drewN_drewN _ _ _⟩ | exact ⟨rfl,_,Eq.trans (World.drewN_drewN _ _ _) (congrArg (World.drewN _) (Nat.add_assoc _ _ _))⟩)))
        repeat (go_quiet (first | (go_at_call 64;(with_reducible refine (impl_codeOk.calls ((rd_T55 l1 x10_1).f3) false _ A11.out).mono ?_);rintro e w' ⟨rfl,⟨nd,rfl⟩⟩;(try first | exact ⟨rfl,_,World.drewN_drewN _ _ _⟩ | exact ⟨rfl,_,Eq.trans (World.drewN_drewN _ _ _) (congrArg (World.drewN _) (Nat.add_assoc _ _ _))⟩)));try go_wp2_with (first | (go_at_call 64;(with_reducible refine (impl_codeOk.calls ((rd_T55 l1 x10_1).f3) false _ A11.out).mono ?_);rintro e w' ⟨rfl,⟨nd,rfl⟩⟩;(try first | exact ⟨rfl,_,World.drewN_drewN _ _ _⟩ | exact ⟨rfl,_,Eq.trans (World.drewN_drewN _ _ _) (congrArg (World.drewN _) (Nat.add_assoc _ _ _))⟩))))
        go_meet
        case rel=>exact ⟨_,(true),(by first | rfl | (simp;done) | (simp [*];done)),H',⟨by have:=HK1.out;first | omega | exact Nat.le_refl _⟩,⟨by (with_reducible repeat (first | refine blk_drewN ?_ _ | refine blk_drew ?_ | refine blk_alloc ?_ _));refine blk_far ?_ NB1_4.out _;(with_reducible repeat (first | refine blk_drewN ?_ _ | refine blk_drew ?_ | refine blk_alloc ?_ _));refine blk_far ?_ NB1_4.out _;(with_reducible repeat (first | refine blk_drewN ?_ _ | refine blk_drew ?_ | refine blk_alloc ?_ _));refine blk_far ?_ NB1_4.out _;(with_reducible repeat (first | refine blk_drewN ?_ _ | refine blk_drew ?_ | refine blk_alloc ?_ _));refine blk_far ?_ NB1_4.out _;(with_reducible repeat (first | refine blk_drewN ?_ _ | refine blk_drew ?_ | refine blk_alloc ?_ _));exact BK1.out⟩,⟨by (with_reducible repeat (first | refine blk_drewN ?_ _ | refine blk_drew ?_ | refine blk_alloc ?_ _));refine blk_put (cs:=#[.int .i64 ((rd_T55 l1 x10_1).f0),.bool ((rd_T55 l1 x10_1).f1),.int .i64 ((rd_T55 l1 x10_1).f2),.int .i64 0]) ?_ 3 _ rfl;(with_reducible repeat (first | refine blk_drewN ?_ _ | refine blk_drew ?_ | refine blk_alloc ?_ _));refine blk_put (cs:=#[.int .i64 ((rd_T55 l1 x10_1).f0),.bool ((rd_T55 l1 x10_1).f1),.int .i64 0,.int .i64 0]) ?_ 2 _ rfl;(with_reducible repeat (first | refine blk_drewN ?_ _ | refine blk_drew ?_ | refine blk_alloc ?_ _));refine blk_put (cs:=#[.int .i64 ((rd_T55 l1 x10_1).f0),.bool false,.int .i64 0,.int .i64 0]) ?_ 1 _ rfl;(with_reducible repeat (first | refine blk_drewN ?_ _ | refine blk_drew ?_ | refine blk_alloc ?_ _));refine blk_put (cs:=#[.int .i64 0,.bool false,.int .i64 0,.int .i64 0]) ?_ 0 _ rfl;(with_reducible repeat (first | refine blk_drewN ?_ _ | refine blk_drew ?_ | refine blk_alloc ?_ _));exact BK4.out⟩,⟨hbw_⟩⟩
      case rest =>
       clear HC7
       try clear c1
       try clear p2
       try clear p3
       try clear q3
       try clear hx3
       try clear c4
       try clear c4b0
       try clear c5
       try clear c5b0
       try clear c6
       try clear c6b0
       try clear c9
       try clear c12
       try clear c14
       try clear c15
       try clear c17
       try clear c19
       try clear hcz10_0
       try clear hcz10_1
       try clear hcz10_2
       try clear hcz10_3
       try clear hcz16_0
       try clear hcz16_1
       try clear hcz16_2
       try clear hcz16_3
       try clear hcz18_0
       try clear hcz18_1
       try clear hcz18_2
       try clear hcz18_3
       try clear hcz20_0
       try clear hcz20_1
       try clear hcz20_2
       try clear hcz20_3
       try clear hfz10_0
       try clear hfz10_1
       try clear hfz10_2
       try clear hfz10_3
       try clear hfz16_0
       try clear hfz16_1
       try clear hfz16_2
       try clear hfz16_3
       try clear hfz18_0
       try clear hfz18_1
       try clear hfz18_2
       try clear hfz18_3
       try clear hfz20_0
       try clear hfz20_1
       try clear hfz20_2
       try clear hfz20_3
       try clear hx3_0
       try clear hx3_1
       try clear hx3_2
       try clear hx3_3
       try clear p2
       try clear p3
       try clear q3
       obtain ⟨kq,x32_6,rfl,HA,HJ6,BK1,BK4,HB⟩:=hcut
       cases kq with
       | zero=>exact absurd HA.out (by simp [impl_partsOk.j1])
       | succ kj6 =>
        have H:=HA.out
        clear HA
        simp only [impl_partsOk.j1] at H
        by_cases c21 : x32_6 = true
        ·subst c21
         have H1 : (some false) = some r:=by rw [if_pos rfl] at H;exact H
         clear H
         have H:=H1
         clear H1
         obtain rfl:=Option.some.inj H
         go_wp2
         repeat (go_quiet (fail);try go_wp2)
         go_ret
         exact ⟨by first | rfl | (simp [errW_none,errW_some] <;> rfl) | (simp [*,errW_none,errW_some] <;> rfl),hbw_⟩
        ·replace c21:=Bool.eq_false_iff.mpr c21
         subst c21
         have H1 : (if x10_1 > 0 then (if 0 ≤ (wrap64 (x10_1 - 1)) then (if (wrap64 (x10_1 - 1)) < (l1.length : Int) then (if ((rd_T55 l1 x10_1).f0) > ((rd_T55 l1 (wrap64 (x10_1 - 1))).f0) then (if (rd_T55 l1 (wrap64 (x10_1 - 1))).f1 = true then (impl_partsOk.j2 kj6 l1 x10_1 l1 (l1.length : Int) x10_1 (!(((rd_T55 l1 x10_1).f0) == (wrap64 (((rd_T55 l1 (wrap64 (x10_1 - 1))).f0) + 1)))) l0_0 ((rd_T55 l1 x10_1).f0) ((rd_T55 l1 x10_1).f1) ((rd_T55 l1 x10_1).f2) ((rd_T55 l1 x10_1).f3)) else (impl_partsOk.j2 kj6 l1 x10_1 l1 (l1.length : Int) x10_1 (!false) l0_0 ((rd_T55 l1 x10_1).f0) ((rd_T55 l1 x10_1).f1) ((rd_T55 l1 x10_1).f2) ((rd_T55 l1 x10_1).f3))) else (impl_partsOk.j2 kj6 l1 x10_1 l1 (l1.length : Int) x10_1 false l0_0 ((rd_T55 l1 x10_1).f0) ((rd_T55 l1 x10_1).f1) ((rd_T55 l1 x10_1).f2) ((rd_T55 l1 x10_1).f3))) else (none)) else (none)) else (impl_partsOk.j2 kj6 l1 x10_1 l1 (l1.length : Int) x10_1 false l0_0 ((rd_T55 l1 x10_1).f0) ((rd_T55 l1 x10_1).f1) ((rd_T55 l1 x10_1).f2) ((rd_T55 l1 x10_1).f3))) = some r:=by rw [if_neg (show ¬ (false = true) by decide)] at H;exact H
         clear H
         have H:=H1
         clear H1
         have HC22:=a0_ H
         clear H
         go_upto_region 6 with (fail)
         repeat (go_quiet (fail);go_upto_region 6 with (fail))
         go_cut [66] (fun v66 wc=>∃ (kq : Nat) (x66_21 : Bool),v66 = .bool x66_21 ∧ Aside0 (impl_partsOk.j2 kq l1 x10_1 l1 (l1.length : Int) x10_1 x66_21 l0_0 ((rd_T55 l1 x10_1).f0) ((rd_T55 l1 x10_1).f1) ((rd_T55 l1 x10_1).f2) ((rd_T55 l1 x10_1).f3) = some r) ∧ Aside0 (kq ≤ kj6) ∧ Aside0 (wc.heap[gb1]? = some (.cells #[(.slice A0_0 l0_0.length c0_0)] 32 (0,0))) ∧ Aside0 (wc.heap[gb4]? = some (.cells #[.int .i64 ((rd_T55 l1 x10_1).f0),.bool ((rd_T55 l1 x10_1).f1),.int .i64 ((rd_T55 l1 x10_1).f2),.int .i64 ((rd_T55 l1 x10_1).f3)] 55 (0,0))) ∧ Aside0 (Below w.heap.size w wc))
         case first =>
          have H:=HC22.out
          clear HC22
          by_cases c23 : x10_1 > 0
          ·rw [if_pos c23] at H
           have c23b0 : decide (0 < x10_1) = true:=decide_eq_true c23
           clear c23
           (first | rw [c23b0] | (simp only [i64_w,i32_w];rw [c23b0]) | skip)
           obtain ⟨ji24,hji24⟩ : ∃ j_ : Int,(wrap64 (x10_1 - 1)) = j_:=⟨_,rfl⟩
           replace H : (if 0 ≤ (ji24) then (if (ji24) < (l1.length : Int) then (if ((rd_T55 l1 x10_1).f0) > ((rd_T55 l1 (ji24)).f0) then (if (rd_T55 l1 (ji24)).f1 = true then (impl_partsOk.j2 kj6 l1 x10_1 l1 (l1.length : Int) x10_1 (!(((rd_T55 l1 x10_1).f0) == (wrap64 (((rd_T55 l1 (ji24)).f0) + 1)))) l0_0 ((rd_T55 l1 x10_1).f0) ((rd_T55 l1 x10_1).f1) ((rd_T55 l1 x10_1).f2) ((rd_T55 l1 x10_1).f3)) else (impl_partsOk.j2 kj6 l1 x10_1 l1 (l1.length : Int) x10_1 (!false) l0_0 ((rd_T55 l1 x10_1).f0) ((rd_T55 l1 x10_1).f1) ((rd_T55 l1 x10_1).f2) ((rd_T55 l1 x10_1).f3))) else (impl_partsOk.j2 kj6 l1 x10_1 l1 (l1.length : Int) x10_1 false l0_0 ((rd_T55 l1 x10_1).f0) ((rd_T55 l1 x10_1).f1) ((rd_T55 l1 x10_1).f2) ((rd_T55 l1 x10_1).f3))) else (none)) else (none)) = some r:=by first | (rw [hji24] at H;exact H) | (simp only [hji24] at H ⊢;exact H)
           have hji24w : (IntKind.i64.wrap (x10_1 - 1)) = ji24:=(i64_w _).trans hji24
           by_cases c25 : 0 ≤ (ji24)
           ·rw [if_pos c25] at H
            have c25b0 : decide (0 ≤ (ji24)) = true:=decide_eq_true c25
            clear c25
            by_cases c26 : (ji24) < (l1.length : Int)
            ·rw [if_pos c26] at H
             have c26b0 : decide ((ji24) < (l1.length : Int)) = true:=decide_eq_true c26
             clear c26
             by_cases c27 : ((rd_T55 l1 x10_1).f0) > ((rd_T55 l1 (ji24)).f0)
             ·rw [if_pos c27] at H
              have c27b0 : decide (((rd_T55 l1 (ji24)).f0) < ((rd_T55 l1 x10_1).f0)) = true:=decide_eq_true c27
              clear c27
              obtain ⟨bq28,hbq28⟩ : ∃ b_ : Bool,b_ = ((rd_T55 l1 (ji24)).f1):=⟨_,rfl⟩
              replace H : (if bq28 = true then (impl_partsOk.j2 kj6 l1 x10_1 l1 (l1.length : Int) x10_1 (!(((rd_T55 l1 x10_1).f0) == (wrap64 (((rd_T55 l1 (ji24)).f0) + 1)))) l0_0 ((rd_T55 l1 x10_1).f0) ((rd_T55 l1 x10_1).f1) ((rd_T55 l1 x10_1).f2) ((rd_T55 l1 x10_1).f3)) else (impl_partsOk.j2 kj6 l1 x10_1 l1 (l1.length : Int) x10_1 (!false) l0_0 ((rd_T55 l1 x10_1).f0) ((rd_T55 l1 x10_1).f1) ((rd_T55 l1 x10_1).f2) ((rd_T55 l1 x10_1).f3))) = some r:=by rw [← hbq28] at H;exact H
              have Nbq28:=a0_ hbq28
              clear hbq28
              by_cases c29 : bq28 = true
              ·subst c29
               have H1 : (impl_partsOk.j2 kj6 l1 x10_1 l1 (l1.length : Int) x10_1 (!(((rd_T55 l1 x10_1).f0) == (wrap64 (((rd_T55 l1 (ji24)).f0) + 1)))) l0_0 ((rd_T55 l1 x10_1).f0) ((rd_T55 l1 x10_1).f1) ((rd_T55 l1 x10_1).f2) ((rd_T55 l1 x10_1).f3)) = some r:=by rw [if_pos rfl] at H;exact H
               clear H
               have H:=H1
               clear H1
               have H':=a0_ H
               clear H
               have hnb30:=NB4_1.out
               have hnc30:=NB1_4.out
               have hcz31_0 : wc.cell? ⟨gb4,0,none⟩ = some (.int .i64 ((rd_T55 l1 x10_1).f0)):=(blk_cell BK4.out 0).trans rfl
               have hcz31_1 : wc.cell? ⟨gb4,1,none⟩ = some (.bool ((rd_T55 l1 x10_1).f1)):=(blk_cell BK4.out 1).trans rfl
               have hcz31_2 : wc.cell? ⟨gb4,2,none⟩ = some (.int .i64 ((rd_T55 l1 x10_1).f2)):=(blk_cell BK4.out 2).trans rfl
               have hcz31_3 : wc.cell? ⟨gb4,3,none⟩ = some (.int .i64 ((rd_T55 l1 x10_1).f3)):=(blk_cell BK4.out 3).trans rfl
               have hfz31_0:=blk_frozen BK4.out 0
               have hfz31_1:=blk_frozen BK4.out 1
               have hfz31_2:=blk_frozen BK4.out 2
               have hfz31_3:=blk_frozen BK4.out 3
               have p7 : 0 ≤ ((ji24) : Int):=of_decide_eq_true (by first | (with_reducible assumption) | assumption)
               have q7 : (ji24) < (l1.length : Int):=of_decide_eq_true (by first | (with_reducible assumption) | assumption)
               obtain ⟨ad7,e7,hx7_0,hx7_1,hx7_2,hx7_3⟩:=at_T55 HR1.out (ji24) p7 q7
               (try rw [← Nbq28.out] at hx7_1)
               obtain rfl : ad3 = ad7:=(by injection e7)
               replace hx7_0:=(HB.out.cell (World.block_lt_of_cell? w _ hx7_0)).trans hx7_0
               replace hx7_1:=(HB.out.cell (World.block_lt_of_cell? w _ hx7_1)).trans hx7_1
               replace hx7_2:=(HB.out.cell (World.block_lt_of_cell? w _ hx7_2)).trans hx7_2
               replace hx7_3:=(HB.out.cell (World.block_lt_of_cell? w _ hx7_3)).trans hx7_3
               replace p7:=eq_true p7
               replace q7:=eq_true q7
               have p8 : 0 ≤ ((ji24) : Int):=of_decide_eq_true (by first | (with_reducible assumption) | assumption)
               have q8 : (ji24) < (l1.length : Int):=of_decide_eq_true (by first | (with_reducible assumption) | assumption)
               obtain ⟨ad8,e8,hx8_0,hx8_1,hx8_2,hx8_3⟩:=at_T55 HR1.out (ji24) p8 q8
               (try rw [← Nbq28.out] at hx8_1)
               obtain rfl : ad3 = ad8:=(by injection e8)
               replace hx8_0:=(HB.out.cell (World.block_lt_of_cell? w _ hx8_0)).trans hx8_0
               replace hx8_1:=(HB.out.cell (World.block_lt_of_cell? w _ hx8_1)).trans hx8_1
               replace hx8_2:=(HB.out.cell (World.block_lt_of_cell? w _ hx8_2)).trans hx8_2
               replace hx8_3:=(HB.out.cell (World.block_lt_of_cell? w _ hx8_3)).trans hx8_3
               replace p8:=eq_true p8
               replace q8:=eq_true q8
               have p9 : 0 ≤ ((ji24) : Int):=of_decide_eq_true (by first | (with_reducible assumption) | assumption)
               have q9 : (ji24) < (l1.length : Int):=of_decide_eq_true (by first | (with_reducible assumption) | assumption)
               obtain ⟨ad9,e9,hx9_0,hx9_1,hx9_2,hx9_3⟩:=at_T55 HR1.out (ji24) p9 q9
               (try rw [← Nbq28.out] at hx9_1)
               obtain rfl : ad3 = ad9:=(by injection e9)
               replace hx9_0:=(HB.out.cell (World.block_lt_of_cell? w _ hx9_0)).trans hx9_0
               replace hx9_1:=(HB.out.cell (World.block_lt_of_cell? w _ hx9_1)).trans hx9_1
               replace hx9_2:=(HB.out.cell (World.block_lt_of_cell? w _ hx9_2)).trans hx9_2
               replace hx9_3:=(HB.out.cell (World.block_lt_of_cell? w _ hx9_3)).trans hx9_3
               replace p9:=eq_true p9
               replace q9:=eq_true q9
               go_wp2
               repeat (go_quiet (fail);try go_wp2)
               go_meet
               case rel=>exact ⟨_,(!(((rd_T55 l1 x10_1).f0) == (wrap64 (((rd_T55 l1 (ji24)).f0) + 1)))),(by first | rfl | (simp;done) | (simp only [← hji24] <;> (first | rfl | simp)) | (simp [*];done)),H',⟨by have:=HK1.out;have:=HJ6.out;first | omega | exact Nat.le_refl _⟩,⟨by (with_reducible repeat (first | refine blk_drewN ?_ _ | refine blk_drew ?_ | refine blk_alloc ?_ _));exact BK1.out⟩,⟨by (with_reducible repeat (first | refine blk_drewN ?_ _ | refine blk_drew ?_ | refine blk_alloc ?_ _));exact BK4.out⟩,⟨hbw_⟩⟩
              ·replace c29:=Bool.eq_false_iff.mpr c29
               subst c29
               have H1 : (impl_partsOk.j2 kj6 l1 x10_1 l1 (l1.length : Int) x10_1 (!false) l0_0 ((rd_T55 l1 x10_1).f0) ((rd_T55 l1 x10_1).f1) ((rd_T55 l1 x10_1).f2) ((rd_T55 l1 x10_1).f3)) = some r:=by rw [if_neg (show ¬ (false = true) by decide)] at H;exact H
               clear H
               have H:=H1
               clear H1
               have H':=a0_ H
               clear H
               have hnb32:=NB4_1.out
               have hnc32:=NB1_4.out
               have hcz33_0 : wc.cell? ⟨gb4,0,none⟩ = some (.int .i64 ((rd_T55 l1 x10_1).f0)):=(blk_cell BK4.out 0).trans rfl
               have hcz33_1 : wc.cell? ⟨gb4,1,none⟩ = some (.bool ((rd_T55 l1 x10_1).f1)):=(blk_cell BK4.out 1).trans rfl
               have hcz33_2 : wc.cell? ⟨gb4,2,none⟩ = some (.int .i64 ((rd_T55 l1 x10_1).f2)):=(blk_cell BK4.out 2).trans rfl
               have hcz33_3 : wc.cell? ⟨gb4,3,none⟩ = some (.int .i64 ((rd_T55 l1 x10_1).f3)):=(blk_cell BK4.out 3).trans rfl
               have hfz33_0:=blk_frozen BK4.out 0
               have hfz33_1:=blk_frozen BK4.out 1
               have hfz33_2:=blk_frozen BK4.out 2
               have hfz33_3:=blk_frozen BK4.out 3
               have p7 : 0 ≤ ((ji24) : Int):=of_decide_eq_true (by first | (with_reducible assumption) | assumption)
               have q7 : (ji24) < (l1.length : Int):=of_decide_eq_true (by first | (with_reducible assumption) | assumption)
               obtain ⟨ad7,e7,hx7_0,hx7_1,hx7_2,hx7_3⟩:=at_T55 HR1.out (ji24) p7 q7
               (try rw [← Nbq28.out] at hx7_1)
               obtain rfl : ad3 = ad7:=(by injection e7)
               replace hx7_0:=(HB.out.cell (World.block_lt_of_cell? w _ hx7_0)).trans hx7_0
               replace hx7_1:=(HB.out.cell (World.block_lt_of_cell? w _ hx7_1)).trans hx7_1
               replace hx7_2:=(HB.out.cell (World.block_lt_of_cell? w _ hx7_2)).trans hx7_2
               replace hx7_3:=(HB.out.cell (World.block_lt_of_cell? w _ hx7_3)).trans hx7_3
               replace p7:=eq_true p7
               replace q7:=eq_true q7
               have p8 : 0 ≤ ((ji24) : Int):=of_decide_eq_true (by first | (with_reducible assumption) | assumption)
               have q8 : (ji24) < (l1.length : Int):=of_decide_eq_true (by first | (with_reducible assumption) | assumption)
               obtain ⟨ad8,e8,hx8_0,hx8_1,hx8_2,hx8_3⟩:=at_T55 HR1.out (ji24) p8 q8
               (try rw [← Nbq28.out] at hx8_1)
               obtain rfl : ad3 = ad8:=(by injection e8)
               replace hx8_0:=(HB.out.cell (World.block_lt_of_cell? w _ hx8_0)).trans hx8_0
               replace hx8_1:=(HB.out.cell (World.block_lt_of_cell? w _ hx8_1)).trans hx8_1
               replace hx8_2:=(HB.out.cell (World.block_lt_of_cell? w _ hx8_2)).trans hx8_2
               replace hx8_3:=(HB.out.cell (World.block_lt_of_cell? w _ hx8_3)).trans hx8_3
               replace p8:=eq_true p8
               replace q8:=eq_true q8
               go_wp2
               repeat (go_quiet (fail);try go_wp2)
               go_meet
               case rel=>exact ⟨_,(!false),(by first | rfl | (simp;done) | (simp [*];done)),H',⟨by have:=HK1.out;have:=HJ6.out;first | omega | exact Nat.le_refl _⟩,⟨by (with_reducible repeat (first | refine blk_drewN ?_ _ | refine blk_drew ?_ | refine blk_alloc ?_ _));exact BK1.out⟩,⟨by (with_reducible repeat (first | refine blk_drewN ?_ _ | refine blk_drew ?_ | refine blk_alloc ?_ _));exact BK4.out⟩,⟨hbw_⟩⟩
             ·rw [if_neg c27] at H
              have c27b0 : decide (((rd_T55 l1 (ji24)).f0) < ((rd_T55 l1 x10_1).f0)) = false:=decide_eq_false c27
              clear c27
              have H':=a0_ H
              clear H
              have hnb34:=NB4_1.out
              have hnc34:=NB1_4.out
              have hcz35_0 : wc.cell? ⟨gb4,0,none⟩ = some (.int .i64 ((rd_T55 l1 x10_1).f0)):=(blk_cell BK4.out 0).trans rfl
              have hcz35_1 : wc.cell? ⟨gb4,1,none⟩ = some (.bool ((rd_T55 l1 x10_1).f1)):=(blk_cell BK4.out 1).trans rfl
              have hcz35_2 : wc.cell? ⟨gb4,2,none⟩ = some (.int .i64 ((rd_T55 l1 x10_1).f2)):=(blk_cell BK4.out 2).trans rfl
              have hcz35_3 : wc.cell? ⟨gb4,3,none⟩ = some (.int .i64 ((rd_T55 l1 x10_1).f3)):=(blk_cell BK4.out 3).trans rfl
              have hfz35_0:=blk_frozen BK4.out 0
              have hfz35_1:=blk_frozen BK4.out 1
              have hfz35_2:=blk_frozen BK4.out 2
              have hfz35_3:=blk_frozen BK4.out 3
              have p7 : 0 ≤ ((ji24) : Int):=of_decide_eq_true (by first | (with_reducible assumption) | assumption)
              have q7 : (ji24) < (l1.length : Int):=of_decide_eq_true (by first | (with_reducible assumption) | assumption)
              obtain ⟨ad7,e7,hx7_0,hx7_1,hx7_2,hx7_3⟩:=at_T55 HR1.out (ji24) p7 q7
              obtain rfl : ad3 = ad7:=(by injection e7)
              replace hx7_0:=(HB.out.cell (World.block_lt_of_cell? w _ hx7_0)).trans hx7_0
              replace hx7_1:=(HB.out.cell (World.block_lt_of_cell? w _ hx7_1)).trans hx7_1
              replace hx7_2:=(HB.out.cell (World.block_lt_of_cell? w _ hx7_2)).trans hx7_2
              replace hx7_3:=(HB.out.cell (World.block_lt_of_cell? w _ hx7_3)).trans hx7_3
              replace p7:=eq_true p7
              replace q7:=eq_true q7
              go_wp2
              repeat (go_quiet (fail);try go_wp2)
              go_meet
              case rel=>exact ⟨_,(false),(by first | rfl | (simp;done) | (simp [*];done)),H',⟨by have:=HK1.out;have:=HJ6.out;first | omega | exact Nat.le_refl _⟩,⟨by (with_reducible repeat (first | refine blk_drewN ?_ _ | refine blk_drew ?_ | refine blk_alloc ?_ _));exact BK1.out⟩,⟨by (with_reducible repeat (first | refine blk_drewN ?_ _ | refine blk_drew ?_ | refine blk_alloc ?_ _));exact BK4.out⟩,⟨hbw_⟩⟩
            ·rw [if_neg c26] at H
             exact absurd H (by simp)
           ·rw [if_neg c25] at H
            exact absurd H (by simp)
          ·rw [if_neg c23] at H
           have c23b0 : decide (0 < x10_1) = false:=decide_eq_false c23
           clear c23
           (first | rw [c23b0] | (simp only [i64_w,i32_w];rw [c23b0]) | skip)
           have H':=a0_ H
           clear H
           go_wp2
           repeat (go_quiet (fail);try go_wp2)
           go_meet
           case rel=>exact ⟨_,(false),(by first | rfl | (simp;done) | (simp [*];done)),H',⟨by have:=HK1.out;have:=HJ6.out;first | omega | exact Nat.le_refl _⟩,⟨by (with_reducible repeat (first | refine blk_drewN ?_ _ | refine blk_drew ?_ | refine blk_alloc ?_ _));exact BK1.out⟩,⟨by (with_reducible repeat (first | refine blk_drewN ?_ _ | refine blk_drew ?_ | refine blk_alloc ?_ _));exact BK4.out⟩,⟨hbw_⟩⟩
         case rest =>
          clear HC22
          try clear c1
          try clear c2
          try clear p2
          try clear q2
          try clear c3
          try clear p3
          try clear q3
          try clear hx3
          try clear c4
          try clear c4b0
          try clear c5
          try clear c5b0
          try clear c6
          try clear c6b0
          try clear p6
          try clear p7
          try clear q7
          try clear hx7
          try clear p8
          try clear q8
          try clear hx8
          try clear c9
          try clear p9
          try clear q9
          try clear hx9
          try clear c12
          try clear c14
          try clear c15
          try clear c17
          try clear c19
          try clear c21
          try clear c23
          try clear c23b0
          try clear c25
          try clear c25b0
          try clear c26
          try clear c26b0
          try clear c27
          try clear c27b0
          try clear q28
          try clear c29
          try clear c30
          try clear c32
          try clear c34
          try clear hcz10_0
          try clear hcz10_1
          try clear hcz10_2
          try clear hcz10_3
          try clear hcz16_0
          try clear hcz16_1
          try clear hcz16_2
          try clear hcz16_3
          try clear hcz18_0
          try clear hcz18_1
          try clear hcz18_2
          try clear hcz18_3
          try clear hcz20_0
          try clear hcz20_1
          try clear hcz20_2
          try clear hcz20_3
          try clear hcz31_0
          try clear hcz31_1
          try clear hcz31_2
          try clear hcz31_3
          try clear hcz33_0
          try clear hcz33_1
          try clear hcz33_2
          try clear hcz33_3
          try clear hcz35_0
          try clear hcz35_1
          try clear hcz35_2
          try clear hcz35_3
          try clear hfz10_0
          try clear hfz10_1
          try clear hfz10_2
          try clear hfz10_3
          try clear hfz16_0
          try clear hfz16_1
          try clear hfz16_2
          try clear hfz16_3
          try clear hfz18_0
          try clear hfz18_1
          try clear hfz18_2
          try clear hfz18_3
          try clear hfz20_0
          try clear hfz20_1
          try clear hfz20_2
          try clear hfz20_3
          try clear hfz31_0
          try clear hfz31_1
          try clear hfz31_2
          try clear hfz31_3
          try clear hfz33_0
          try clear hfz33_1
          try clear hfz33_2
          try clear hfz33_3
          try clear hfz35_0
          try clear hfz35_1
          try clear hfz35_2
          try clear hfz35_3
          try clear hx3_0
          try clear hx3_1
          try clear hx3_2
          try clear hx3_3
          try clear hx7_0
          try clear hx7_1
          try clear hx7_2
          try clear hx7_3
          try clear hx8_0
          try clear hx8_1
          try clear hx8_2
          try clear hx8_3
          try clear hx9_0
          try clear hx9_1
          try clear hx9_2
          try clear hx9_3
          try clear p2
          try clear p3
          try clear p7
          try clear p8
          try clear p9
          try clear q3
          try clear q7
          try clear q8
          try clear q9
          obtain ⟨kq,x66_21,rfl,HA,HJ21,BK1,BK4,HB⟩:=hcut
          cases kq with
          | zero=>exact absurd HA.out (by simp [impl_partsOk.j2])
          | succ kj21 =>
           have H:=HA.out
           clear HA
           simp only [impl_partsOk.j2] at H
           by_cases c36 : x66_21 = true
           ·subst c36
            have H1 : (some false) = some r:=by rw [if_pos rfl] at H;exact H
            clear H
            have H:=H1
            clear H1
            obtain rfl:=Option.some.inj H
            go_wp2
            repeat (go_quiet (fail);try go_wp2)
            go_ret
            exact ⟨by first | rfl | (simp [errW_none,errW_some] <;> rfl) | (simp [*,errW_none,errW_some] <;> rfl),hbw_⟩
           ·replace c36:=Bool.eq_false_iff.mpr c36
            subst c36
            have H1 : (if (wrap64 (x10_1 + 1)) < (l1.length : Int) then (if 0 ≤ (wrap64 (x10_1 + 1)) then (if ((rd_T55 l1 x10_1).f1) = true then (if ((rd_T55 l1 x10_1).f2) = 0 then (if (((rd_T55 l1 (wrap64 (x10_1 + 1))).f0) > ((rd_T55 l1 x10_1).f0)) then (impl_partsOk.l0 kj21 l1 l1 (l1.length : Int) (wrap64 (x10_1 + 1)) l0_0) else (some false)) else (some false)) else ((impl_Tree_has.f l0_0 ((rd_T55 l1 x10_1).f2)).bind fun t11=>(if t11 = true then (impl_partsOk.l0 kj21 l1 l1 (l1.length : Int) (wrap64 (x10_1 + 1)) l0_0) else (some false)))) else (none)) else (if ((rd_T55 l1 x10_1).f1) = true then (if ((rd_T55 l1 x10_1).f2) = 0 then (some false) else (some false)) else ((impl_Tree_has.f l0_0 ((rd_T55 l1 x10_1).f2)).bind fun t12=>(if t12 = true then (impl_partsOk.l0 kj21 l1 l1 (l1.length : Int) (wrap64 (x10_1 + 1)) l0_0) else (some false))))) = some r:=by rw [if_neg (show ¬ (false = true) by decide)] at H;exact H
            clear H
            have H:=H1
            clear H1
            by_cases c37 : (wrap64 (x10_1 + 1)) < (l1.length : Int)
            ·rw [if_pos c37] at H
             have c37b0 : decide ((wrap64 (x10_1 + 1)) < (l1.length : Int)) = true:=decide_eq_true c37
             clear c37
             obtain ⟨ji38,hji38⟩ : ∃ j_ : Int,(wrap64 (x10_1 + 1)) = j_:=⟨_,rfl⟩
             replace H : (if 0 ≤ (ji38) then (if ((rd_T55 l1 x10_1).f1) = true then (if ((rd_T55 l1 x10_1).f2) = 0 then (if (((rd_T55 l1 (ji38)).f0) > ((rd_T55 l1 x10_1).f0)) then (impl_partsOk.l0 kj21 l1 l1 (l1.length : Int) ji38 l0_0) else (some false)) else (some false)) else ((impl_Tree_has.f l0_0 ((rd_T55 l1 x10_1).f2)).bind fun t11=>(if t11 = true then (impl_partsOk.l0 kj21 l1 l1 (l1.length : Int) ji38 l0_0) else (some false)))) else (none)) = some r:=by first | (rw [hji38] at H;exact H) | (simp only [hji38] at H ⊢;exact H)
             (try rw [hji38] at c37b0)
             have hji38w : (IntKind.i64.wrap (x10_1 + 1)) = ji38:=(i64_w _).trans hji38
             by_cases c39 : 0 ≤ (ji38)
             ·rw [if_pos c39] at H
              have c39b0 : decide (0 ≤ (ji38)) = true:=decide_eq_true c39
              clear c39
              by_cases c40 : ((rd_T55 l1 x10_1).f1) = true
              ·rw [if_pos c40] at H
               have c40b0 : ((rd_T55 l1 x10_1).f1) = true:=c40
               clear c40
               by_cases c41 : ((rd_T55 l1 x10_1).f2) = 0
               ·rw [if_pos c41] at H
                have c41b0 : (((rd_T55 l1 x10_1).f2) == 0) = true:=beq_iff_eq.mpr c41
                have c41b1 : (((rd_T55 l1 x10_1).f2) != 0) = false:=bne_eq_false_iff_eq.mpr c41
                clear c41
                by_cases c42 : (((rd_T55 l1 (ji38)).f0) > ((rd_T55 l1 x10_1).f0))
                ·rw [if_pos c42] at H
                 have c42b0 : decide (((rd_T55 l1 x10_1).f0) < ((rd_T55 l1 (ji38)).f0)) = true:=decide_eq_true c42
                 clear c42
                 have H':=a0_ H
                 clear H
                 have p10 : 0 ≤ ((ji38) : Int):=of_decide_eq_true (by first | (with_reducible assumption) | assumption)
                 have q10 : (ji38) < (l1.length : Int):=of_decide_eq_true (by first | (with_reducible assumption) | assumption)
                 obtain ⟨ad10,e10,hx10_0,hx10_1,hx10_2,hx10_3⟩:=at_T55 HR1.out (ji38) p10 q10
                 obtain rfl : ad3 = ad10:=(by injection e10)
                 replace hx10_0:=(HB.out.cell (World.block_lt_of_cell? w _ hx10_0)).trans hx10_0
                 replace hx10_1:=(HB.out.cell (World.block_lt_of_cell? w _ hx10_1)).trans hx10_1
                 replace hx10_2:=(HB.out.cell (World.block_lt_of_cell? w _ hx10_2)).trans hx10_2
                 replace hx10_3:=(HB.out.cell (World.block_lt_of_cell? w _ hx10_3)).trans hx10_3
                 replace p10:=eq_true p10
                 replace q10:=eq_true q10
                 have hnb43:=NB4_1.out
                 have hnc43:=NB1_4.out
                 have hcz44_0 : wc.cell? ⟨gb4,0,none⟩ = some (.int .i64 ((rd_T55 l1 x10_1).f0)):=(blk_cell BK4.out 0).trans rfl
                 have hcz44_1 : wc.cell? ⟨gb4,1,none⟩ = some (.bool ((rd_T55 l1 x10_1).f1)):=(blk_cell BK4.out 1).trans rfl
                 have hcz44_2 : wc.cell? ⟨gb4,2,none⟩ = some (.int .i64 ((rd_T55 l1 x10_1).f2)):=(blk_cell BK4.out 2).trans rfl
                 have hcz44_3 : wc.cell? ⟨gb4,3,none⟩ = some (.int .i64 ((rd_T55 l1 x10_1).f3)):=(blk_cell BK4.out 3).trans rfl
                 have hfz44_0:=blk_frozen BK4.out 0
                 have hfz44_1:=blk_frozen BK4.out 1
                 have hfz44_2:=blk_frozen BK4.out 2
                 have hfz44_3:=blk_frozen BK4.out 3
                 go_wp2
                 repeat (go_quiet (fail);try go_wp2)
                 go_roundg kj21
                 case measure=>have:=HK1.out;have:=HJ6.out;have:=HJ21.out;omega
                 case rel=>exact ⟨(ji38),(by first | rfl | (simp;done) | (simp only [← hji38] <;> (first | rfl | simp)) | (simp [*];done)),H',⟨by have:=HK1.out;have:=HJ6.out;have:=HJ21.out;omega⟩,⟨by (with_reducible repeat (first | refine blk_drewN ?_ _ | refine blk_drew ?_ | refine blk_alloc ?_ _));exact BK1.out⟩,⟨hbw_⟩⟩
                ·rw [if_neg c42] at H
                 have c42b0 : decide (((rd_T55 l1 x10_1).f0) < ((rd_T55 l1 (ji38)).f0)) = false:=decide_eq_false c42
                 clear c42
                 obtain rfl:=Option.some.inj H
                 have p10 : 0 ≤ ((ji38) : Int):=of_decide_eq_true (by first | (with_reducible assumption) | assumption)
                 have q10 : (ji38) < (l1.length : Int):=of_decide_eq_true (by first | (with_reducible assumption) | assumption)
                 obtain ⟨ad10,e10,hx10_0,hx10_1,hx10_2,hx10_3⟩:=at_T55 HR1.out (ji38) p10 q10
                 obtain rfl : ad3 = ad10:=(by injection e10)
                 replace hx10_0:=(HB.out.cell (World.block_lt_of_cell? w _ hx10_0)).trans hx10_0
                 replace hx10_1:=(HB.out.cell (World.block_lt_of_cell? w _ hx10_1)).trans hx10_1
                 replace hx10_2:=(HB.out.cell (World.block_lt_of_cell? w _ hx10_2)).trans hx10_2
                 replace hx10_3:=(HB.out.cell (World.block_lt_of_cell? w _ hx10_3)).trans hx10_3
                 replace p10:=eq_true p10
                 replace q10:=eq_true q10
                 have hnb45:=NB4_1.out
                 have hnc45:=NB1_4.out
                 have hcz46_0 : wc.cell? ⟨gb4,0,none⟩ = some (.int .i64 ((rd_T55 l1 x10_1).f0)):=(blk_cell BK4.out 0).trans rfl
                 have hcz46_1 : wc.cell? ⟨gb4,1,none⟩ = some (.bool ((rd_T55 l1 x10_1).f1)):=(blk_cell BK4.out 1).trans rfl
                 have hcz46_2 : wc.cell? ⟨gb4,2,none⟩ = some (.int .i64 ((rd_T55 l1 x10_1).f2)):=(blk_cell BK4.out 2).trans rfl
                 have hcz46_3 : wc.cell? ⟨gb4,3,none⟩ = some (.int .i64 ((rd_T55 l1 x10_1).f3)):=(blk_cell BK4.out 3).trans rfl
                 have hfz46_0:=blk_frozen BK4.out 0
                 have hfz46_1:=blk_frozen BK4.out 1
                 have hfz46_2:=blk_frozen BK4.out 2
                 have hfz46_3:=blk_frozen BK4.out 3
                 go_wp2
                 repeat (go_quiet (fail);try go_wp2)
                 go_ret
                 exact ⟨by first | rfl | (simp [errW_none,errW_some] <;> rfl) | (simp only [← hji38];first | rfl | (simp [errW_none,errW_some] <;> rfl)) | (simp [*,errW_none,errW_some] <;> rfl),hbw_⟩
               ·rw [if_neg c41] at H
                have c41b0 : (((rd_T55 l1 x10_1).f2) == 0) = false:=beq_eq_false_iff_ne.mpr c41
                have c41b1 : (((rd_T55 l1 x10_1).f2) != 0) = true:=bne_iff_ne.mpr c41
                obtain rfl:=Option.some.inj H
                have p10 : 0 ≤ ((ji38) : Int):=of_decide_eq_true (by first | (with_reducible assumption) | assumption)
                have q10 : (ji38) < (l1.length : Int):=of_decide_eq_true (by first | (with_reducible assumption) | assumption)
                obtain ⟨ad10,e10,hx10_0,hx10_1,hx10_2,hx10_3⟩:=at_T55 HR1.out (ji38) p10 q10
                obtain rfl : ad3 = ad10:=(by injection e10)
                replace hx10_0:=(HB.out.cell (World.block_lt_of_cell? w _ hx10_0)).trans hx10_0
                replace hx10_1:=(HB.out.cell (World.block_lt_of_cell? w _ hx10_1)).trans hx10_1
                replace hx10_2:=(HB.out.cell (World.block_lt_of_cell? w _ hx10_2)).trans hx10_2
                replace hx10_3:=(HB.out.cell (World.block_lt_of_cell? w _ hx10_3)).trans hx10_3
                replace p10:=eq_true p10
                replace q10:=eq_true q10
                have hnb47:=NB4_1.out
                have hnc47:=NB1_4.out
                have hcz48_0 : wc.cell? ⟨gb4,0,none⟩ = some (.int .i64 ((rd_T55 l1 x10_1).f0)):=(blk_cell BK4.out 0).trans rfl
                have hcz48_1 : wc.cell? ⟨gb4,1,none⟩ = some (.bool ((rd_T55 l1 x10_1).f1)):=(blk_cell BK4.out 1).trans rfl
                have hcz48_2 : wc.cell? ⟨gb4,2,none⟩ = some (.int .i64 ((rd_T55 l1 x10_1).f2)):=(blk_cell BK4.out 2).trans rfl
                have hcz48_3 : wc.cell? ⟨gb4,3,none⟩ = some (.int .i64 ((rd_T55 l1 x10_1).f3)):=(blk_cell BK4.out 3).trans rfl
                have hfz48_0:=blk_frozen BK4.out 0
                have hfz48_1:=blk_frozen BK4.out 1
                have hfz48_2:=blk_frozen BK4.out 2
                have hfz48_3:=blk_frozen BK4.out 3
                go_wp2
                repeat (go_quiet (fail);try go_wp2)
                go_ret
                exact ⟨by first | rfl | (simp [errW_none,errW_some] <;> rfl) | (simp only [← hji38];first | rfl | (simp [errW_none,errW_some] <;> rfl)) | (simp [*,errW_none,errW_some] <;> rfl),hbw_⟩
              ·rw [if_neg c40] at H
               have c40b0 : ((rd_T55 l1 x10_1).f1) = false:=by simpa using c40
               clear c40
               replace H:=Option.bind_eq_some_iff.mp H
               obtain ⟨t11,A490,H⟩:=H
               try dsimp only at H
               have A49:=a0_ A490
               clear A490
               by_cases c50 : t11 = true
               ·subst c50
                have H1 : (impl_partsOk.l0 kj21 l1 l1 (l1.length : Int) ji38 l0_0) = some r:=by rw [if_pos rfl] at H;exact H
                clear H
                have H:=H1
                clear H1
                have H':=a0_ H
                clear H
                have p10 : 0 ≤ ((ji38) : Int):=of_decide_eq_true (by first | (with_reducible assumption) | assumption)
                have q10 : (ji38) < (l1.length : Int):=of_decide_eq_true (by first | (with_reducible assumption) | assumption)
                obtain ⟨ad10,e10,hx10_0,hx10_1,hx10_2,hx10_3⟩:=at_T55 HR1.out (ji38) p10 q10
                obtain rfl : ad3 = ad10:=(by injection e10)
                replace hx10_0:=(HB.out.cell (World.block_lt_of_cell? w _ hx10_0)).trans hx10_0
                replace hx10_1:=(HB.out.cell (World.block_lt_of_cell? w _ hx10_1)).trans hx10_1
                replace hx10_2:=(HB.out.cell (World.block_lt_of_cell? w _ hx10_2)).trans hx10_2
                replace hx10_3:=(HB.out.cell (World.block_lt_of_cell? w _ hx10_3)).trans hx10_3
                replace p10:=eq_true p10
                replace q10:=eq_true q10
                have hnb51:=NB4_1.out
                have hnc51:=NB1_4.out
                have hcz52_0 : wc.cell? ⟨gb4,0,none⟩ = some (.int .i64 ((rd_T55 l1 x10_1).f0)):=(blk_cell BK4.out 0).trans rfl
                have hcz52_1 : wc.cell? ⟨gb4,1,none⟩ = some (.bool ((rd_T55 l1 x10_1).f1)):=(blk_cell BK4.out 1).trans rfl
                have hcz52_2 : wc.cell? ⟨gb4,2,none⟩ = some (.int .i64 ((rd_T55 l1 x10_1).f2)):=(blk_cell BK4.out 2).trans rfl
                have hcz52_3 : wc.cell? ⟨gb4,3,none⟩ = some (.int .i64 ((rd_T55 l1 x10_1).f3)):=(blk_cell BK4.out 3).trans rfl
                have hfz52_0:=blk_frozen BK4.out 0
                have hfz52_1:=blk_frozen BK4.out 1
                have hfz52_2:=blk_frozen BK4.out 2
                have hfz52_3:=blk_frozen BK4.out 3
                have hcz53_0 : wc.cell? ⟨gb1,0,none⟩ = some (.slice A0_0 l0_0.length c0_0):=(blk_cell BK1.out 0).trans rfl
                have hfz53_0:=blk_frozen BK1.out 0
                go_wp2_with (first | (go_at_call 65;(with_reducible refine (impl_Tree_has.calls _ _ l0_0 ((rd_T55 l1 x10_1).f2) true _ ?side1 ?side2 A49.out).mono ?_);(case side1=>exact cc_ (Kd.C_below HR0_0.out HB.out));(case side2=>exact HC0_0.out);rintro e w54 ⟨rfl,hb⟩;replace BK1:=kb_ BK1 hb;replace BK4:=kb_ BK4 hb;replace HB:=a0_ (below_step hbw_ hb);(try clear hb);(try clear hb2);(try clear hk);(try clear hi)))
                repeat (go_quiet (first | (go_at_call 65;(with_reducible refine (impl_Tree_has.calls _ _ l0_0 ((rd_T55 l1 x10_1).f2) true _ ?side1 ?side2 A49.out).mono ?_);(case side1=>exact cc_ (Kd.C_below HR0_0.out HB.out));(case side2=>exact HC0_0.out);rintro e w54 ⟨rfl,hb⟩;replace BK1:=kb_ BK1 hb;replace BK4:=kb_ BK4 hb;replace HB:=a0_ (below_step hbw_ hb);(try clear hb);(try clear hb2);(try clear hk);(try clear hi)));try go_wp2_with (first | (go_at_call 65;(with_reducible refine (impl_Tree_has.calls _ _ l0_0 ((rd_T55 l1 x10_1).f2) true _ ?side1 ?side2 A49.out).mono ?_);(case side1=>exact cc_ (Kd.C_below HR0_0.out HB.out));(case side2=>exact HC0_0.out);rintro e w54 ⟨rfl,hb⟩;replace BK1:=kb_ BK1 hb;replace BK4:=kb_ BK4 hb;replace HB:=a0_ (below_step hbw_ hb);(try clear hb);(try clear hb2);(try clear hk);(try clear hi))))
                go_roundg kj21
                case measure=>have:=HK1.out;have:=HJ6.out;have:=HJ21.out;omega
                case rel=>exact ⟨(ji38),(by first | rfl | (simp;done) | (simp only [← hji38] <;> (first | rfl | simp)) | (simp [*];done)),H',⟨by have:=HK1.out;have:=HJ6.out;have:=HJ21.out;omega⟩,⟨by (with_reducible repeat (first | refine blk_drewN ?_ _ | refine blk_drew ?_ | refine blk_alloc ?_ _));exact BK1.out⟩,⟨hbw_⟩⟩
               ·replace c50:=Bool.eq_false_iff.mpr c50
                subst c50
                have H1 : (some false) = some r:=by rw [if_neg (show ¬ (false = true) by decide)] at H;exact H
                clear H
                have H:=H1
                clear H1
                obtain rfl:=Option.some.inj H
                have p10 : 0 ≤ ((ji38) : Int):=of_decide_eq_true (by first | (with_reducible assumption) | assumption)
                have q10 : (ji38) < (l1.length : Int):=of_decide_eq_true (by first | (with_reducible assumption) | assumption)
                obtain ⟨ad10,e10,hx10_0,hx10_1,hx10_2,hx10_3⟩:=at_T55 HR1.out (ji38) p10 q10
                obtain rfl : ad3 = ad10:=(by injection e10)
                replace hx10_0:=(HB.out.cell (World.block_lt_of_cell? w _ hx10_0)).trans hx10_0
                replace hx10_1:=(HB.out.cell (World.block_lt_of_cell? w _ hx10_1)).trans hx10_1
                replace hx10_2:=(HB.out.cell (World.block_lt_of_cell? w _ hx10_2)).trans hx10_2
                replace hx10_3:=(HB.out.cell (World.block_lt_of_cell? w _ hx10_3)).trans hx10_3
                replace p10:=eq_true p10
                replace q10:=eq_true q10
                have hnb55:=NB4_1.out
                have hnc55:=NB1_4.out
                have hcz56_0 : wc.cell? ⟨gb4,0,none⟩ = some (.int .i64 ((rd_T55 l1 x10_1).f0)):=(blk_cell BK4.out 0).trans rfl
                have hcz56_1 : wc.cell? ⟨gb4,1,none⟩ = some (.bool ((rd_T55 l1 x10_1).f1)):=(blk_cell BK4.out 1).trans rfl
                have hcz56_2 : wc.cell? ⟨gb4,2,none⟩ = some (.int .i64 ((rd_T55 l1 x10_1).f2)):=(blk_cell BK4.out 2).trans rfl
                have hcz56_3 : wc.cell? ⟨gb4,3,none⟩ = some (.int .i64 ((rd_T55 l1 x10_1).f3)):=(blk_cell BK4.out 3).trans rfl
                have hfz56_0:=blk_frozen BK4.out 0
                have hfz56_1:=blk_frozen BK4.out 1
                have hfz56_2:=blk_frozen BK4.out 2
                have hfz56_3:=blk_frozen BK4.out 3
                have hcz57_0 : wc.cell? ⟨gb1,0,none⟩ = some (.slice A0_0 l0_0.length c0_0):=(blk_cell BK1.out 0).trans rfl
                have hfz57_0:=blk_frozen BK1.out 0
                go_wp2_with (first | (go_at_call 65;(with_reducible refine (impl_Tree_has.calls _ _ l0_0 ((rd_T55 l1 x10_1).f2) false _ ?side1 ?side2 A49.out).mono ?_);(case side1=>exact cc_ (Kd.C_below HR0_0.out HB.out));(case side2=>exact HC0_0.out);rintro e w58 ⟨rfl,hb⟩;replace BK1:=kb_ BK1 hb;replace BK4:=kb_ BK4 hb;replace HB:=a0_ (below_step hbw_ hb);(try clear hb);(try clear hb2);(try clear hk);(try clear hi)))
                repeat (go_quiet (first | (go_at_call 65;(with_reducible refine (impl_Tree_has.calls _ _ l0_0 ((rd_T55 l1 x10_1).f2) false _ ?side1 ?side2 A49.out).mono ?_);(case side1=>exact cc_ (Kd.C_below HR0_0.out HB.out));(case side2=>exact HC0_0.out);rintro e w58 ⟨rfl,hb⟩;replace BK1:=kb_ BK1 hb;replace BK4:=kb_ BK4 hb;replace HB:=a0_ (below_step hbw_ hb);(try clear hb);(try clear hb2);(try clear hk);(try clear hi)));try go_wp2_with (first | (go_at_call 65;(with_reducible refine (impl_Tree_has.calls _ _ l0_0 ((rd_T55 l1 x10_1).f2) false _ ?side1 ?side2 A49.out).mono ?_);(case side1=>exact cc_ (Kd.C_below HR0_0.out HB.out));(case side2=>exact HC0_0.out);rintro e w58 ⟨rfl,hb⟩;replace BK1:=kb_ BK1 hb;replace BK4:=kb_ BK4 hb;replace HB:=a0_ (below_step hbw_ hb);(try clear hb);(try clear hb2);(try clear hk);(try clear hi))))
                go_ret
                exact ⟨by first | rfl | (simp [errW_none,errW_some] <;> rfl) | (simp only [← hji38];first | rfl | (simp [errW_none,errW_some] <;> rfl)) | (simp [*,errW_none,errW_some] <;> rfl),hbw_⟩
             ·rw [if_neg c39] at H
              exact absurd H (by simp)
            ·rw [if_neg c37] at H
             have c37b0 : decide ((wrap64 (x10_1 + 1)) < (l1.length : Int)) = false:=decide_eq_false c37
             clear c37
             by_cases c59 : ((rd_T55 l1 x10_1).f1) = true
             ·rw [if_pos c59] at H
              have c59b0 : ((rd_T55 l1 x10_1).f1) = true:=c59
              clear c59
              by_cases c60 : ((rd_T55 l1 x10_1).f2) = 0
              ·rw [if_pos c60] at H
               have c60b0 : (((rd_T55 l1 x10_1).f2) == 0) = true:=beq_iff_eq.mpr c60
               have c60b1 : (((rd_T55 l1 x10_1).f2) != 0) = false:=bne_eq_false_iff_eq.mpr c60
               clear c60
               obtain rfl:=Option.some.inj H
               have hnb61:=NB4_1.out
               have hnc61:=NB1_4.out
               have hcz62_0 : wc.cell? ⟨gb4,0,none⟩ = some (.int .i64 ((rd_T55 l1 x10_1).f0)):=(blk_cell BK4.out 0).trans rfl
               have hcz62_1 : wc.cell? ⟨gb4,1,none⟩ = some (.bool ((rd_T55 l1 x10_1).f1)):=(blk_cell BK4.out 1).trans rfl
               have hcz62_2 : wc.cell? ⟨gb4,2,none⟩ = some (.int .i64 ((rd_T55 l1 x10_1).f2)):=(blk_cell BK4.out 2).trans rfl
               have hcz62_3 : wc.cell? ⟨gb4,3,none⟩ = some (.int .i64 ((rd_T55 l1 x10_1).f3)):=(blk_cell BK4.out 3).trans rfl
               have hfz62_0:=blk_frozen BK4.out 0
               have hfz62_1:=blk_frozen BK4.out 1
               have hfz62_2:=blk_frozen BK4.out 2
               have hfz62_3:=blk_frozen BK4.out 3
               go_wp2
               repeat (go_quiet (fail);try go_wp2)
               go_ret
               exact ⟨by first | rfl | (simp [errW_none,errW_some] <;> rfl) | (simp [*,errW_none,errW_some] <;> rfl),hbw_⟩
              ·rw [if_neg c60] at H
               have c60b0 : (((rd_T55 l1 x10_1).f2) == 0) = false:=beq_eq_false_iff_ne.mpr c60
               have c60b1 : (((rd_T55 l1 x10_1).f2) != 0) = true:=bne_iff_ne.mpr c60
               obtain rfl:=Option.some.inj H
               have hnb63:=NB4_1.out
               have hnc63:=NB1_4.out
               have hcz64_0 : wc.cell? ⟨gb4,0,none⟩ = some (.int .i64 ((rd_T55 l1 x10_1).f0)):=(blk_cell BK4.out 0).trans rfl
               have hcz64_1 : wc.cell? ⟨gb4,1,none⟩ = some (.bool ((rd_T55 l1 x10_1).f1)):=(blk_cell BK4.out 1).trans rfl
               have hcz64_2 : wc.cell? ⟨gb4,2,none⟩ = some (.int .i64 ((rd_T55 l1 x10_1).f2)):=(blk_cell BK4.out 2).trans rfl
               have hcz64_3 : wc.cell? ⟨gb4,3,none⟩ = some (.int .i64 ((rd_T55 l1 x10_1).f3)):=(blk_cell BK4.out 3).trans rfl
               have hfz64_0:=blk_frozen BK4.out 0
               have hfz64_1:=blk_frozen BK4.out 1
               have hfz64_2:=blk_frozen BK4.out 2
               have hfz64_3:=blk_frozen BK4.out 3
               go_wp2
               repeat (go_quiet (fail);try go_wp2)
               go_ret
               exact ⟨by first | rfl | (simp [errW_none,errW_some] <;> rfl) | (simp [*,errW_none,errW_some] <;> rfl),hbw_⟩
             ·rw [if_neg c59] at H
              have c59b0 : ((rd_T55 l1 x10_1).f1) = false:=by simpa using c59
              clear c59
              replace H:=Option.bind_eq_some_iff.mp H
              obtain ⟨t12,A650,H⟩:=H
              try dsimp only at H
              have A65:=a0_ A650
              clear A650
              by_cases c66 : t12 = true
              ·subst c66
               have H1 : (impl_partsOk.l0 kj21 l1 l1 (l1.length : Int) (wrap64 (x10_1 + 1)) l0_0) = some r:=by rw [if_pos rfl] at H;exact H
               clear H
               have H:=H1
               clear H1
               have H':=a0_ H
               clear H
               have hnb67:=NB4_1.out
               have hnc67:=NB1_4.out
               have hcz68_0 : wc.cell? ⟨gb4,0,none⟩ = some (.int .i64 ((rd_T55 l1 x10_1).f0)):=(blk_cell BK4.out 0).trans rfl
               have hcz68_1 : wc.cell? ⟨gb4,1,none⟩ = some (.bool ((rd_T55 l1 x10_1).f1)):=(blk_cell BK4.out 1).trans rfl
               have hcz68_2 : wc.cell? ⟨gb4,2,none⟩ = some (.int .i64 ((rd_T55 l1 x10_1).f2)):=(blk_cell BK4.out 2).trans rfl
               have hcz68_3 : wc.cell? ⟨gb4,3,none⟩ = some (.int .i64 ((rd_T55 l1 x10_1).f3)):=(blk_cell BK4.out 3).trans rfl
               have hfz68_0:=blk_frozen BK4.out 0
               have hfz68_1:=blk_frozen BK4.out 1
               have hfz68_2:=blk_frozen BK4.out 2
               have hfz68_3:=blk_frozen BK4.out 3
               have hcz69_0 : wc.cell? ⟨gb1,0,none⟩ = some (.slice A0_0 l0_0.length c0_0):=(blk_cell BK1.out 0).trans rfl
               have hfz69_0:=blk_frozen BK1.out 0
               go_wp2_with (first | (go_at_call 65;(with_reducible refine (impl_Tree_has.calls _ _ l0_0 ((rd_T55 l1 x10_1).f2) true _ ?side1 ?side2 A65.out).mono ?_);(case side1=>exact cc_ (Kd.C_below HR0_0.out HB.out));(case side2=>exact HC0_0.out);rintro e w70 ⟨rfl,hb⟩;replace BK1:=kb_ BK1 hb;replace BK4:=kb_ BK4 hb;replace HB:=a0_ (below_step hbw_ hb);(try clear hb);(try clear hb2);(try clear hk);(try clear hi)))
               repeat (go_quiet (first | (go_at_call 65;(with_reducible refine (impl_Tree_has.calls _ _ l0_0 ((rd_T55 l1 x10_1).f2) true _ ?side1 ?side2 A65.out).mono ?_);(case side1=>exact cc_ (Kd.C_below HR0_0.out HB.out));(case side2=>exact HC0_0.out);rintro e w70 ⟨rfl,hb⟩;replace BK1:=kb_ BK1 hb;replace BK4:=kb_ BK4 hb;replace HB:=a0_ (below_step hbw_ hb);(try clear hb);(try clear hb2);(try clear hk);(try clear hi)));try go_wp2_with (first | (go_at_call 65;(with_reducible refine (impl_Tree_has.calls _ _ l0_0 ((rd_T55 l1 x10_1).f2) true _ ?side1 ?side2 A65.out).mono ?_);(case side1=>exact cc_ (Kd.C_below HR0_0.out HB.out));(case side2=>exact HC0_0.out);rintro e w70 ⟨rfl,hb⟩;replace BK1:=kb_ BK1 hb;replace BK4:=kb_ BK4 hb;replace HB:=a0_ (below_step hbw_ hb);(try clear hb);(try clear hb2);(try clear hk);(try clear hi))))
               go_roundg kj21
               case measure=>have:=HK1.out;have:=HJ6.out;have:=HJ21.out;omega
               case rel=>exact ⟨(wrap64 (x10_1 + 1)),(by first | rfl | (simp;done) | (simp [*];done)),H',⟨by have:=HK1.out;have:=HJ6.out;have:=HJ21.out;omega⟩,⟨by (with_reducible repeat (first | refine blk_drewN ?_ _ | refine blk_drew ?_ | refine blk_alloc ?_ _));exact BK1.out⟩,⟨hbw_⟩⟩
              ·replace c66:=Bool.eq_false_iff.mpr c66
               subst c66
               have H1 : (some false) = some r:=by rw [if_neg (show ¬ (false = true) by decide)] at H;exact H
               clear H
               have H:=H1
               clear H1
               obtain rfl:=Option.some.inj H
               have hnb71:=NB4_1.out
               have hnc71:=NB1_4.out
               have hcz72_0 : wc.cell? ⟨gb4,0,none⟩ = some (.int .i64 ((rd_T55 l1 x10_1).f0)):=(blk_cell BK4.out 0).trans rfl
               have hcz72_1 : wc.cell? ⟨gb4,1,none⟩ = some (.bool ((rd_T55 l1 x10_1).f1)):=(blk_cell BK4.out 1).trans rfl
               have hcz72_2 : wc.cell? ⟨gb4,2,none⟩ = some (.int .i64 ((rd_T55 l1 x10_1).f2)):=(blk_cell BK4.out 2).trans rfl
               have hcz72_3 : wc.cell? ⟨gb4,3,none⟩ = some (.int .i64 ((rd_T55 l1 x10_1).f3)):=(blk_cell BK4.out 3).trans rfl
               have hfz72_0:=blk_frozen BK4.out 0
               have hfz72_1:=blk_frozen BK4.out 1
               have hfz72_2:=blk_frozen BK4.out 2
               have hfz72_3:=blk_frozen BK4.out 3
               have hcz73_0 : wc.cell? ⟨gb1,0,none⟩ = some (.slice A0_0 l0_0.length c0_0):=(blk_cell BK1.out 0).trans rfl
               have hfz73_0:=blk_frozen BK1.out 0
               go_wp2_with (first | (go_at_call 65;(with_reducible refine (impl_Tree_has.calls _ _ l0_0 ((rd_T55 l1 x10_1).f2) false _ ?side1 ?side2 A65.out).mono ?_);(case side1=>exact cc_ (Kd.C_below HR0_0.out HB.out));(case side2=>exact HC0_0.out);rintro e w74 ⟨rfl,hb⟩;replace BK1:=kb_ BK1 hb;replace BK4:=kb_ BK4 hb;replace HB:=a0_ (below_step hbw_ hb);(try clear hb);(try clear hb2);(try clear hk);(try clear hi)))
               repeat (go_quiet (first | (go_at_call 65;(with_reducible refine (impl_Tree_has.calls _ _ l0_0 ((rd_T55 l1 x10_1).f2) false _ ?side1 ?side2 A65.out).mono ?_);(case side1=>exact cc_ (Kd.C_below HR0_0.out HB.out));(case side2=>exact HC0_0.out);rintro e w74 ⟨rfl,hb⟩;replace BK1:=kb_ BK1 hb;replace BK4:=kb_ BK4 hb;replace HB:=a0_ (below_step hbw_ hb);(try clear hb);(try clear hb2);(try clear hk);(try clear hi)));try go_wp2_with (first | (go_at_call 65;(with_reducible refine (impl_Tree_has.calls _ _ l0_0 ((rd_T55 l1 x10_1).f2) false _ ?side1 ?side2 A65.out).mono ?_);(case side1=>exact cc_ (Kd.C_below HR0_0.out HB.out));(case side2=>exact HC0_0.out);rintro e w74 ⟨rfl,hb⟩;replace BK1:=kb_ BK1 hb;replace BK4:=kb_ BK4 hb;replace HB:=a0_ (below_step hbw_ hb);(try clear hb);(try clear hb2);(try clear hk);(try clear hi))))
               go_ret
               exact ⟨by first | rfl | (simp [errW_none,errW_some] <;> rfl) | (simp [*,errW_none,errW_some] <;> rfl),hbw_⟩
     ·rw [if_neg c6] at H
      exact absurd H (by simp)
    ·rw [if_neg c5] at H
     exact absurd H (by simp)
   ·rw [if_neg c4] at H
    have c4b0 : decide (x10_1 < (l1.length : Int)) = false:=decide_eq_false c4
    clear c4
    replace H:=Option.bind_eq_some_iff.mp H
    obtain ⟨t2,A750,H⟩:=H
    replace H : (some t2) = some r:=H
    have A75:=a0_ A750
    clear A750
    obtain rfl:=Option.some.inj H
    go_wp2_with (first | (go_at_call 63;(with_reducible refine (impl_within.calls (l1.length : Int) 1 16 t2 _ A75.out).mono ?_);rintro e w' ⟨rfl,⟨nd,rfl⟩⟩;(try first | exact ⟨rfl,_,World.drewN_drewN _ _ _⟩ | exact ⟨rfl,_,Eq.trans (World.drewN_drewN _ _ _) (congrArg (World.drewN _) (Nat.add_assoc _ _ _))⟩)))
    repeat (go_quiet (first | (go_at_call 63;(with_reducible refine (impl_within.calls (l1.length : Int) 1 16 t2 _ A75.out).mono ?_);rintro e w' ⟨rfl,⟨nd,rfl⟩⟩;(try first | exact ⟨rfl,_,World.drewN_drewN _ _ _⟩ | exact ⟨rfl,_,Eq.trans (World.drewN_drewN _ _ _) (congrArg (World.drewN _) (Nat.add_assoc _ _ _))⟩)));try go_wp2_with (first | (go_at_call 63;(with_reducible refine (impl_within.calls (l1.length : Int) 1 16 t2 _ A75.out).mono ?_);rintro e w' ⟨rfl,⟨nd,rfl⟩⟩;(try first | exact ⟨rfl,_,World.drewN_drewN _ _ _⟩ | exact ⟨rfl,_,Eq.trans (World.drewN_drewN _ _ _) (congrArg (World.drewN _) (Nat.add_assoc _ _ _))⟩))))
    go_ret
    exact ⟨by first | rfl | (simp [errW_none,errW_some] <;> rfl) | (simp [*,errW_none,errW_some] <;> rfl),hbw_⟩
theorem impl_partsOk_j2 (t : List Cls) (g : List Prt) (ht : t.length ≤ 9223372036854775807) (hl : g.length ≤ 9223372036854775807) (i : Nat) (hi : i < g.length) (p : Prt) (hp : g.getD i z55 = p) (b R : Bool)
  (hn : b = false → okB t g i p = true → Ev (fun k=>impl_partsOk.l0 k g g (g.length : Int) ((i + 1 : Nat) : Int) t) R) : Ev (fun k=>impl_partsOk.j2 k g (i : Int) g (g.length : Int) (i : Int) b t p.f0 p.f1 p.f2 p.f3) (!b && (okB t g i p && R)):=by
 have hw : wrap64 ((i : Int) + 1) = ((i + 1 : Nat) : Int):=by rw [wrap_succ (i:=(i : Int)) (n:=g.length) (by omega) (by omega) (by omega)];rfl
 have hrd : rd_T55 g ((i + 1 : Nat) : Int) = g.getD (i + 1) z55:=by simp [rd_T55]
 refine Ev.succ ?_
 simp only [impl_partsOk.j2,hw,hrd]
 cases b with
 | true=>exact Ev.pos rfl (Ev.const rfl)
 | false =>
  refine Ev.neg (by simp) ?_
  rw [Bool.not_false,Bool.true_and]
  replace hn:=hn rfl
  unfold okB at hn ⊢
  by_cases hlt : ((i + 1 : Nat) : Int) < (g.length : Int)
  ·refine Ev.pos hlt (Ev.pos (by omega) ?_)
   cases h1 : p.f1 with
   | true =>
    refine Ev.pos rfl ?_
    rw [h1,if_pos rfl] at hn
    rw [if_pos rfl]
    by_cases h2 : p.f2 = 0
    ·refine Ev.pos h2 ?_
     rw [beq_iff_eq.2 h2,Bool.true_and] at hn ⊢
     unfold belowB at hn ⊢
     rw [hp,decide_eq_true (show i + 1 < g.length by omega),Bool.true_and] at hn ⊢
     by_cases h3 : (g.getD (i + 1) z55).f0 > p.f0
     ·rw [decide_eq_true (show p.f0 < (g.getD (i + 1) z55).f0 from h3)] at hn ⊢
      rw [Bool.true_and]
      exact Ev.pos h3 (hn rfl)
     ·rw [decide_eq_false (show ¬ p.f0 < (g.getD (i + 1) z55).f0 from h3),Bool.false_and]
      exact Ev.neg h3 (Ev.const rfl)
    ·refine Ev.neg h2 ?_
     rw [beq_eq_false_iff_ne.2 h2]
     exact Ev.const rfl
   | false =>
    refine Ev.neg (by simp) ?_
    rw [h1,if_neg (by simp)] at hn
    rw [if_neg (by simp)]
    refine Ev.bind (Ev.const (impl_Tree_has_ev t p.f2 ht)) ?_
    cases h4 : hasC t p.f2 with
    | true=>exact Ev.pos rfl (hn h4)
    | false=>exact Ev.neg (by simp) (Ev.const rfl)
  ·refine Ev.neg hlt ?_
   cases h1 : p.f1 with
   | true =>
    refine Ev.pos rfl ?_
    rw [if_pos rfl]
    unfold belowB
    rw [decide_eq_false (show ¬ i + 1 < g.length by omega),Bool.false_and,Bool.and_false,Bool.false_and]
    by_cases h2 : p.f2 = 0
    ·exact Ev.pos h2 (Ev.const rfl)
    ·exact Ev.neg h2 (Ev.const rfl)
   | false =>
    refine Ev.neg (by simp) ?_
    rw [h1,if_neg (by simp)] at hn
    rw [if_neg (by simp)]
    refine Ev.bind (Ev.const (impl_Tree_has_ev t p.f2 ht)) ?_
    cases h4 : hasC t p.f2 with
    | true=>exact Ev.pos rfl (hn h4)
    | false=>exact Ev.neg (by simp) (Ev.const rfl)
theorem impl_partsOk_j1 (t : List Cls) (g : List Prt) (ht : t.length ≤ 9223372036854775807) (hl : g.length ≤ 9223372036854775807) (i : Nat) (hi : i < g.length) (p : Prt) (hp : g.getD i z55 = p) (b R : Bool) (hq : 0 < i → 0 ≤ (g.getD (i - 1) z55).f0 ∧ (g.getD (i - 1) z55).f0 ≤ 5)
  (hn : b = false → okU g i p = true → okB t g i p = true → Ev (fun k=>impl_partsOk.l0 k g g (g.length : Int) ((i + 1 : Nat) : Int) t) R) : Ev (fun k=>impl_partsOk.j1 k g (i : Int) g (g.length : Int) (i : Int) b t p.f0 p.f1 p.f2 p.f3) (!b && (okU g i p && (okB t g i p && R))):=by
 refine Ev.succ ?_
 simp only [impl_partsOk.j1]
 cases b with
 | true=>exact Ev.pos rfl (Ev.const rfl)
 | false =>
  refine Ev.neg (by simp) ?_
  rw [Bool.not_false,Bool.true_and]
  replace hn:=hn rfl
  unfold okU at hn ⊢
  by_cases h0 : i = 0
  ·refine Ev.neg (by omega) ?_
   rw [if_pos h0] at hn
   rw [if_pos h0,Bool.true_and]
   simpa using impl_partsOk_j2 t g ht hl i hi p hp false R (fun _=>hn rfl)
  ·have hb:=hq (by omega)
   have hw : wrap64 ((i : Int) - 1) = ((i - 1 : Nat) : Int):=by rw [wrap_pred (by omega) (by omega)];omega
   have hrd : rd_T55 g ((i - 1 : Nat) : Int) = g.getD (i - 1) z55:=by simp [rd_T55]
   rw [if_neg h0] at hn ⊢
   simp only [hw,hrd]
   generalize g.getD (i - 1) z55 = q at hb hn ⊢
   rw [wrap_in (i:=q.f0 + 1) (by omega) (by omega)]
   refine Ev.pos (by omega) (Ev.pos (by omega) (Ev.pos (by omega) ?_))
   by_cases h1 : p.f0 > q.f0
   ·refine Ev.pos h1 ?_
    rw [decide_eq_true (show q.f0 < p.f0 from h1),Bool.true_and] at hn ⊢
    cases hq1 : q.f1 with
    | true =>
     refine Ev.pos rfl ?_
     rw [hq1] at hn
     have:=impl_partsOk_j2 t g ht hl i hi p hp (!(p.f0 == q.f0 + 1)) R (fun e=>hn (by rw [Bool.true_and,e];rfl))
     simpa using this
    | false =>
     refine Ev.neg (by simp) ?_
     have:=impl_partsOk_j2 t g ht hl i hi p hp (!false) R (fun e=>by cases e)
     simpa using this
   ·refine Ev.neg h1 ?_
    rw [decide_eq_false (show ¬ q.f0 < p.f0 from h1),Bool.false_and] at hn ⊢
    simpa using impl_partsOk_j2 t g ht hl i hi p hp false R (fun _=>hn rfl)
theorem impl_partsOk_l0 (t : List Cls) (g : List Prt) (ht : t.length ≤ 9223372036854775807) (hl : g.length ≤ 9223372036854775807) : ∀ d i,i + d = g.length → (0 < i → okP t g (i - 1) (g.getD (i - 1) z55) = true) →
  Ev (fun k=>impl_partsOk.l0 k g g (g.length : Int) (i : Int) t) ((List.range' i d).all (fun i=>okP t g i (g.getD i z55)) && (decide (1 ≤ g.length) && decide (g.length ≤ 16))):=by
 intro d
 induction d with
 | zero =>
  intro i hi _
  refine Ev.succ ?_
  simp only [impl_partsOk.l0]
  refine Ev.neg (by omega) (Ev.bind (Ev.const (impl_within_ev _ _ _)) ?_)
  refine Ev.const ?_
  simp
  congr 1 <;> exact decide_eq_decide.2 (by omega)
 | succ d ih =>
  intro i hi hA
  have hlt : i < g.length:=by omega
  have hrd : rd_T55 g (i : Int) = g.getD i z55:=by simp [rd_T55]
  rw [List.range'_succ,List.all_cons]
  by_cases hok : okP t g i (g.getD i z55) = true
  ·have hn:=ih (i + 1) (by omega) (fun _=>hok)
   have hj:=fun b=>impl_partsOk_j1 t g ht hl i hlt _ rfl b _ (fun h=>okP_depth (hA h)) (fun _ _ _=>hn)
   rw [hok,Bool.true_and]
   rw [okP_eq] at hok
   simp only [Bool.and_eq_true] at hok
   obtain ⟨h1,h2,h3,h4,h5⟩:=hok
   refine Ev.succ ?_
   simp only [impl_partsOk.l0,hrd,impl_codeOk_ev,impl_within_ev,Option.bind_some]
   refine Ev.pos (by omega) (Ev.pos (by omega) (Ev.pos (by omega) (Ev.pos (by simpa using h1) (Ev.pos (by simpa using h2) ?_))))
   have:=hj (((g.getD i z55).f0 == 0) != ((i : Int) == 0))
   rw [h3,h4,h5,Bool.true_and,Bool.true_and,Bool.true_and] at this
   exact this
  ·have hok' : okP t g i (g.getD i z55) = false:=by simpa using hok
   rw [hok',Bool.false_and,Bool.false_and]
   have hj:=fun b (hb : b = false → okU g i (g.getD i z55) = true → okB t g i (g.getD i z55) = true → False)=>impl_partsOk_j1 t g ht hl i hlt _ rfl b false (fun h=>okP_depth (hA h)) (fun h1 h2 h3=>(hb h1 h2 h3).elim)
   simp only [Bool.and_false] at hj
   refine Ev.succ ?_
   simp only [impl_partsOk.l0,hrd,impl_codeOk_ev,impl_within_ev,Option.bind_some]
   refine Ev.pos (by omega) (Ev.pos (by omega) (Ev.pos (by omega) ?_))
   rw [okP_eq] at hok'
   by_cases h1 : (decide (0 ≤ (g.getD i z55).f3) && decide ((g.getD i z55).f3 ≤ 99)) = true
   ·refine Ev.pos h1 ?_
    rw [h1,Bool.true_and] at hok'
    by_cases h2 : (decide (0 ≤ (g.getD i z55).f0) && decide ((g.getD i z55).f0 ≤ 5)) = true
    ·refine Ev.pos h2 (hj _ (fun h3 h4 h5=>?_))
     rw [h2,h3,h4,h5] at hok'
     cases hok'
    ·exact Ev.neg h2 (hj true (fun h=>by cases h))
   ·exact Ev.neg h1 (hj true (fun h=>by cases h))
end Go.Proofs.Ytbglafibhopleaa.P
namespace Go.Proofs.Ytbglafibhopleaa.P
open Go.RowKit Go.Proofs.YtbglafibhopleaaW.PrintWords Go.Proofs.YtbglafibhopleaaW.PrintLast Go.Proofs.YtbglafibhopleaaW.PrintMore
attribute [local go_sem] max2_int min2_int max_two min_two max_three min_three max_four min_four
set_option linter.unusedVariables false
set_option linter.unusedSimpArgs false
def impl_ValidGroup.f (k : Nat) (l0_0 : List (S72)) (l1 : List (S55)) : Option (Bool):=(impl_ValidTree.f l0_0).bind fun t2=>(if t2 = true then ((impl_partsOk.f k l0_0 l1).bind fun t3=>(some t3)) else (some false))
theorem impl_ValidGroup.mono : ∀ a0 a1 k,LeO (impl_ValidGroup.f k a0 a1) (impl_ValidGroup.f (k + 1) a0 a1):=by
 intro a0 a1 k
 unfold impl_ValidGroup.f
 repeat' first
   | (with_reducible exact impl_partsOk.mono _ _ _)
   | (with_reducible exact LeO.refl _)
   | (with_reducible exact LeO.none _)
   | (with_reducible refine LeO.ite ?_ ?_)
   | (with_reducible refine LeO.bind ?_ (fun _=>?_))
   | exact impl_partsOk.mono _ _ _
   | exact LeO.none _
   | refine LeO.ite ?_ ?_
   | refine LeO.bind ?_ (fun _=>?_)
set_option maxHeartbeats 8000000 in
set_option maxRecDepth 100000 in
theorem impl_ValidGroup.calls (k : Nat) (A0_0 : Option Addr) (c0_0 : Nat) (l0_0 : List (S72)) (A1 : Option Addr) (c1 : Nat) (l1 : List (S55)) (r : Bool) (w : World) (hr0_0 : Kd.C k72 w A0_0 l0_0.length l0_0) (hc0_0 : l0_0.length ≤ c0_0) (hr1 : Kd.C k55 w A1 l1.length l1) (hc1 : l1.length ≤ c1) (h : impl_ValidGroup.f k l0_0 l1 = some r) :
  Calls Try.prog 31 #[.agg #[.slice A0_0 l0_0.length c0_0],.slice A1 l1.length c1] w fun e w'=>e = .returned (.bool r) ∧ Below w.heap.size w w':=by
 have hu32:=Try.underlying32
 have HR0_0:=a0_ hr0_0
 have HC0_0:=a0_ hc0_0
 clear hr0_0 hc0_0
 have HR1:=a0_ hr1
 have HC1:=a0_ hc1
 clear hr1 hc1
 have HB:=a0_ (Below.refl w.heap.size w)
 have H : ((impl_ValidTree.f l0_0).bind fun t2=>(if t2 = true then ((impl_partsOk.f k l0_0 l1).bind fun t3=>(some t3)) else (some false))) = some r:=h
 clear h
 replace H:=Option.bind_eq_some_iff.mp H
 obtain ⟨t2,A30,H⟩:=H
 try dsimp only at H
 have A3:=a0_ A30
 clear A30
 by_cases c4 : t2 = true
 ·subst c4
  have H1 : ((impl_partsOk.f k l0_0 l1).bind fun t3=>(some t3)) = some r:=by rw [if_pos rfl] at H;exact H
  clear H
  have H:=H1
  clear H1
  replace H:=Option.bind_eq_some_iff.mp H
  obtain ⟨t3,A50,H⟩:=H
  replace H : (some t3) = some r:=H
  have A5:=a0_ A50
  clear A50
  obtain rfl:=Option.some.inj H
  go_enter Try.func31,Try.ntmps31
  go_wp2_with (first | ((with_reducible refine gate_dst (N:=2) rfl ?_);refine box_event ?hg (N:=2) ?hd (cs:=#[.slice A0_0 l0_0.length c0_0]) (t:=32) ?hr ?_;(case hd=>rfl);(case hg=>rfl);(case hr=>first | (go_simp;done) | (go_simp;rfl));intro gb1 hg w6 hbox hb;have BK1:=a0_ (hbox);have GW1:=a0_ ((by rw [hg];exact (below_size hbw_) : w.heap.size ≤ gb1));have GE1:=a0_ ((by rw [hg];exact (below_size hbw_) : w.heap.size ≤ gb1));replace HB:=a0_ (below_step hbw_ hb);clear hb hbox hg;have hcz7_0 : w6.cell? ⟨gb1,0,none⟩ = some (.slice A0_0 l0_0.length c0_0):=(blk_cell BK1.out 0).trans rfl;have hfz7_0:=blk_frozen BK1.out 0) | ((with_reducible refine gate_callee (f:=49) rfl ?_);refine goesL_ (some 6) rfl rfl Try.func49 (by kernel_rfl) rfl #[.agg #[.slice A0_0 l0_0.length c0_0]] rfl lm_ ?_;(with_reducible refine (impl_ValidTree.calls _ _ l0_0 true _ ?side1 ?side2 A3.out).mono ?_);(case side1=>exact cc_ (Kd.C_below HR0_0.out HB.out));(case side2=>exact HC0_0.out);rintro e w8 ⟨rfl,hb⟩;refine ⟨_,rfl,?_⟩;replace BK1:=kb_ BK1 hb;replace HB:=a0_ (below_step hbw_ hb);(try clear hb);have hcz9_0 : w8.cell? ⟨gb1,0,none⟩ = some (.slice A0_0 l0_0.length c0_0):=(blk_cell BK1.out 0).trans rfl;have hfz9_0:=blk_frozen BK1.out 0) | (go_at_call 50;(with_reducible refine (impl_partsOk.calls k _ _ l0_0 _ _ l1 t3 _ ?side1 ?side2 ?side3 ?side4 A5.out).mono ?_);(case side1=>exact cc_ (Kd.C_below HR0_0.out HB.out));(case side2=>exact HC0_0.out);(case side3=>exact cc_ (Kd.C_below HR1.out HB.out));(case side4=>exact HC1.out);rintro e w10 ⟨rfl,hb⟩;replace BK1:=kb_ BK1 hb;replace HB:=a0_ (below_step hbw_ hb);(try clear hb);(try clear hb2);(try clear hk);(try clear hi)))
  go_ret
  exact ⟨by first | rfl | (simp [errW_none,errW_some] <;> rfl) | (simp [*,errW_none,errW_some] <;> rfl),hbw_⟩
 ·replace c4:=Bool.eq_false_iff.mpr c4
  subst c4
  have H1 : (some false) = some r:=by rw [if_neg (show ¬ (false = true) by decide)] at H;exact H
  clear H
  have H:=H1
  clear H1
  obtain rfl:=Option.some.inj H
  go_enter Try.func31,Try.ntmps31
  go_wp2_with (first | ((with_reducible refine gate_dst (N:=2) rfl ?_);refine box_event ?hg (N:=2) ?hd (cs:=#[.slice A0_0 l0_0.length c0_0]) (t:=32) ?hr ?_;(case hd=>rfl);(case hg=>rfl);(case hr=>first | (go_simp;done) | (go_simp;rfl));intro gb1 hg w11 hbox hb;have BK1:=a0_ (hbox);have GW1:=a0_ ((by rw [hg];exact (below_size hbw_) : w.heap.size ≤ gb1));have GE1:=a0_ ((by rw [hg];exact (below_size hbw_) : w.heap.size ≤ gb1));replace HB:=a0_ (below_step hbw_ hb);clear hb hbox hg;have hcz12_0 : w11.cell? ⟨gb1,0,none⟩ = some (.slice A0_0 l0_0.length c0_0):=(blk_cell BK1.out 0).trans rfl;have hfz12_0:=blk_frozen BK1.out 0) | ((with_reducible refine gate_callee (f:=49) rfl ?_);refine goesL_ (some 6) rfl rfl Try.func49 (by kernel_rfl) rfl #[.agg #[.slice A0_0 l0_0.length c0_0]] rfl lm_ ?_;(with_reducible refine (impl_ValidTree.calls _ _ l0_0 false _ ?side1 ?side2 A3.out).mono ?_);(case side1=>exact cc_ (Kd.C_below HR0_0.out HB.out));(case side2=>exact HC0_0.out);rintro e w13 ⟨rfl,hb⟩;refine ⟨_,rfl,?_⟩;replace BK1:=kb_ BK1 hb;replace HB:=a0_ (below_step hbw_ hb);(try clear hb);(try clear hb2);(try clear hk);(try clear hi)))
  go_ret
  exact ⟨by first | rfl | (simp [errW_none,errW_some] <;> rfl) | (simp [*,errW_none,errW_some] <;> rfl),hbw_⟩
theorem impl_ValidGroup_ev (t : List Cls) (g : List Prt) (ht : t.length ≤ 9223372036854775807) (hl : g.length ≤ 9223372036854775807) (hs : smT t = true) : Ev (fun k=>impl_ValidGroup.f k t g) (vG t g):=by
 refine Ev.bind (Ev.const (show impl_ValidTree.f t = some (vT t) by rw [impl_ValidTree.f,if_pos hs])) ?_
 unfold vG psG
 cases hv : vT t with
 | false =>
  refine Ev.neg (by simp) (Ev.const ?_)
  simp
 | true =>
  refine Ev.pos rfl (Ev.bind ?_ (Ev.const rfl))
  have:=impl_partsOk_l0 t g ht hl g.length 0 (by omega) (fun h=>absurd h (by omega))
  rw [List.range_eq_range',Bool.true_and]
  exact this
end Go.Proofs.Ytbglafibhopleaa.P
namespace Go.Proofs.Ytbglafibhopleaa.P
open Go.RowKit Go.Proofs.YtbglafibhopleaaW.PrintWords Go.Proofs.YtbglafibhopleaaW.PrintLast Go.Proofs.YtbglafibhopleaaW.PrintMore
attribute [local go_sem] max2_int min2_int max_two min_two max_three min_three max_four min_four
set_option linter.unusedVariables false
set_option linter.unusedSimpArgs false
def impl_deeper.l0 : Nat → Int → List (S55) → List (S55) → Int → Int → Option ((List (S55)))
 | 0,_,_,_,_,_=>none
 | k + 1,x1,x5,x11,x12,x13=>if x13 < x12 then (if 0 ≤ x13 then (if x13 < (x11.length : Int) then (if x5.length < 4398046511104 then (impl_deeper.l0 k x1 (x5 ++ [(⟨wrap64 (((rd_T55 x11 x13).f0) + x1),(rd_T55 x11 x13).f1,(rd_T55 x11 x13).f2,(rd_T55 x11 x13).f3⟩ : S55)]) x11 x12 (wrap64 (x13 + 1))) else (none)) else (none)) else (none)) else (some x5)
def impl_deeper.f (k : Nat) (l0 : List (S55)) (a1 : Int) : Option ((List (S55))):=if 0 ≤ (l0.length : Int) then (if ((l0.length : Int) : Int).toNat ≤ 8796093022208 then (impl_deeper.l0 k a1 (([] : List (S55))) l0 (l0.length : Int) 0) else (none)) else (none)
theorem impl_deeper.mono_l : ∀ k,(∀ y0 y1 y2 y3 y4,LeO (impl_deeper.l0 k y0 y1 y2 y3 y4) (impl_deeper.l0 (k + 1) y0 y1 y2 y3 y4))
 | 0=>fun _ _ _ _ _ r h=>by simp [impl_deeper.l0] at h
 | k + 1=>by
  have ih0:=impl_deeper.mono_l k
  ·intro y0 y1 y2 y3 y4
   unfold impl_deeper.l0
   repeat' first
   | (with_reducible exact ih0 _ _ _ _ _)
   | (with_reducible exact LeO.refl _)
   | (with_reducible exact LeO.none _)
   | (with_reducible refine LeO.ite ?_ ?_)
   | (with_reducible refine LeO.bind ?_ (fun _=>?_))
   | exact ih0 _ _ _ _ _
   | exact LeO.none _
   | refine LeO.ite ?_ ?_
   | refine LeO.bind ?_ (fun _=>?_)
theorem impl_deeper.mono : ∀ a0 a1 k,LeO (impl_deeper.f k a0 a1) (impl_deeper.f (k + 1) a0 a1):=by
 intro a0 a1 k
 have ih0:=impl_deeper.mono_l k
 unfold impl_deeper.f
 repeat' first
   | (with_reducible exact ih0 _ _ _ _ _)
   | (with_reducible exact LeO.refl _)
   | (with_reducible exact LeO.none _)
   | (with_reducible refine LeO.ite ?_ ?_)
   | (with_reducible refine LeO.bind ?_ (fun _=>?_))
   | exact ih0 _ _ _ _ _
   | exact LeO.none _
   | refine LeO.ite ?_ ?_
   | refine LeO.bind ?_ (fun _=>?_)
set_option maxHeartbeats 8000000 in
set_option maxRecDepth 100000 in
theorem impl_deeper.calls (k : Nat) (A0 : Option Addr) (c0 : Nat) (l0 : List (S55)) (a1 : Int) (r : List (S55)) (w : World) (hr0 : Kd.C k55 w A0 l0.length l0) (hc0 : l0.length ≤ c0) (h : impl_deeper.f k l0 a1 = some r) :
  Calls Try.prog 56 #[.slice A0 l0.length c0,.int .i64 a1] w fun e w'=>∃ v0_ : Value,e = .returned (v0_) ∧ Kd.R k55 55 w' w.heap.size (fun _=>True) v0_ r ∧ Below w.heap.size w w':=by
 have hu55:=Try.underlying55
 have HR0:=a0_ hr0
 have HC0:=a0_ hc0
 clear hr0 hc0
 have HB:=a0_ (Below.refl w.heap.size w)
 have H : (if 0 ≤ (l0.length : Int) then (if ((l0.length : Int) : Int).toNat ≤ 8796093022208 then (impl_deeper.l0 k a1 (([] : List (S55))) l0 (l0.length : Int) 0) else (none)) else (none)) = some r:=h
 clear h
 by_cases c3 : 0 ≤ (l0.length : Int)
 ·rw [if_pos c3] at H
  have c3b0:=eq_true c3
  have c3b1 : decide (0 ≤ (l0.length : Int)) = true:=decide_eq_true c3
  clear c3
  by_cases c4 : ((l0.length : Int) : Int).toNat ≤ 8796093022208
  ·rw [if_pos c4] at H
   have c4b0:=eq_true c4
   have c4b1 : decide (((l0.length : Int) : Int).toNat ≤ 8796093022208) = true:=decide_eq_true c4
   clear c4
   obtain ⟨y1,hy1⟩ : ∃ y_ : List (S55),y_ = (([] : List (S55))):=⟨_,rfl⟩
   replace H : (impl_deeper.l0 k a1 y1 l0 (l0.length : Int) 0) = some r:=by first | (rw [hy1];with_reducible exact H) | (have H2_:=(Option.bind_some _ _).symm.trans H;rw [hy1];with_reducible exact H2_) | (have H2_:=(Option.bind_some _ _).symm.trans H;with_reducible exact H2_) | with_reducible exact H | (rw [hy1];exact H) | exact H
   have Ny1:=a0_ hy1
   clear hy1
   have H':=a0_ H
   clear H
   go_enter Try.func56,Try.ntmps56
   go_wp2_with (first | ((with_reducible refine gate_dst (N:=10) rfl ?_);refine Kd.R_make0 k55 _ 55 rfl (N:=10) rfl 28 _ _ rfl (l0.length : Int) rfl rfl Try.underlying28 (.agg #[(.int .i64 0),(.bool false),(.int .i64 0),(.int .i64 0)]) 32 info55 rfl (by decide) (by omega) z55 (ok:=fun _=>True) (okp:=fun _=>True) (k55_mkM _ _ _ z55 ) (fun _ hk=>hk) trivial (of_decide_eq_true (by first | (with_reducible assumption) | assumption)) (Nat.le_trans (Nat.mul_le_mul_right _ (of_decide_eq_true (by first | (with_reducible assumption) | assumption) : (l0.length : Int).toNat ≤ 8796093022208)) (by omega)) (Below.refl _ _) (Nat.le_refl _) ?_;intro v2 w5 ho6 hb hg_ hnew_;clear hg_ hnew_;(first | rw [← Ny1.out] at ho6 | (simp only [Int.reduceToNat] at ho6;rw [← Ny1.out] at ho6));have HO3:=a0_ (Kd.R_lower ho6 (below_size hbw_));replace HB:=a0_ (below_step hbw_ hb);clear hb ho6))
   go_loopg [5,13] k (fun kq v5 v13 w'=>∃ (x5_1 : List (S55)) (x13_1 : Int),v13 = .int .i64 x13_1 ∧ Aside0 (impl_deeper.l0 kq a1 x5_1 l0 (l0.length : Int) x13_1 = some r) ∧ Aside0 (kq ≤ k) ∧ Aside0 (Kd.R k55 55 w' w.heap.size (fun _=>True) v5 x5_1) ∧ Aside0 (Below w.heap.size w w'))
   case atStart=>exact ⟨(y1),(0),(by first | rfl | (simp;done) | (simp [*];done)),H',⟨Nat.le_refl _⟩,⟨by (with_reducible repeat (first | apply Kd.R_alloc | apply Kd.R_drewN | apply Kd.R_drew));exact HO3.out⟩,⟨hbw_⟩⟩
   case round =>
    clear H'
    try clear p2
    try clear c3
    try clear c3b0
    try clear c3b1
    try clear c4
    try clear c4b0
    try clear c4b1
    try clear c5
    obtain ⟨x5_1,x13_1,rfl,HA,HK1,HO_5,HB⟩:=hrel
    cases gk with
    | zero=>exact absurd HA.out (by simp [impl_deeper.l0])
    | succ k1 =>
     have H:=HA.out
     clear HA
     simp only [impl_deeper.l0] at H
     by_cases c7 : x13_1 < (l0.length : Int)
     ·rw [if_pos c7] at H
      have c7b0 : decide (x13_1 < (l0.length : Int)) = true:=decide_eq_true c7
      clear c7
      by_cases c8 : 0 ≤ x13_1
      ·rw [if_pos c8] at H
       have c8b0 : decide (0 ≤ x13_1) = true:=decide_eq_true c8
       clear c8
       by_cases c9 : x13_1 < (l0.length : Int)
       ·rw [if_pos c9] at H
        have c9b0 : decide (x13_1 < (l0.length : Int)) = true:=decide_eq_true c9
        clear c9
        by_cases c10 : x5_1.length < 4398046511104
        ·rw [if_pos c10] at H
         have LMc10:=a0_ c10
         clear c10
         obtain ⟨y6,hy6⟩ : ∃ y_ : List (S55),y_ = (x5_1 ++ [(⟨wrap64 (((rd_T55 l0 x13_1).f0) + a1),(rd_T55 l0 x13_1).f1,(rd_T55 l0 x13_1).f2,(rd_T55 l0 x13_1).f3⟩ : S55)]):=⟨_,rfl⟩
         replace H : (impl_deeper.l0 k1 a1 y6 l0 (l0.length : Int) (wrap64 (x13_1 + 1))) = some r:=by first | (rw [hy6];with_reducible exact H) | (have H2_:=(Option.bind_some _ _).symm.trans H;rw [hy6];with_reducible exact H2_) | (have H2_:=(Option.bind_some _ _).symm.trans H;with_reducible exact H2_) | with_reducible exact H | (rw [hy6];exact H) | exact H
         have Ny6:=a0_ hy6
         clear hy6
         have H':=a0_ H
         clear H
         have p4 : 0 ≤ (x13_1 : Int):=of_decide_eq_true (by first | (with_reducible assumption) | assumption)
         have q4 : x13_1 < (l0.length : Int):=of_decide_eq_true (by first | (with_reducible assumption) | assumption)
         obtain ⟨ad4,e4,hx4_0,hx4_1,hx4_2,hx4_3⟩:=at_T55 HR0.out x13_1 p4 q4
         cases e4
         replace hx4_0:=(HB.out.cell (World.block_lt_of_cell? w _ hx4_0)).trans hx4_0
         replace hx4_1:=(HB.out.cell (World.block_lt_of_cell? w _ hx4_1)).trans hx4_1
         replace hx4_2:=(HB.out.cell (World.block_lt_of_cell? w _ hx4_2)).trans hx4_2
         replace hx4_3:=(HB.out.cell (World.block_lt_of_cell? w _ hx4_3)).trans hx4_3
         replace p4:=eq_true p4
         replace q4:=eq_true q4
         go_wp2_with (first | ((with_reducible refine gate_dst (N:=7) rfl ?_);refine box_event ?hg (N:=7) ?hd (cs:=#[.int .i64 0,.bool false,.int .i64 0,.int .i64 0]) (t:=55) ?hr ?_;(case hd=>rfl);(case hg=>rfl);(case hr=>first | (go_simp;done) | (go_simp;rfl));intro gb5 hg w11 hbox hb;replace HO_5:=a0_ (Kd.R_below (Kd.R_elderB (rr_ HO_5.out) gb5 (Nat.le_of_eq hg.symm)) hb);have BK5:=a0_ (hbox);have GW5:=a0_ ((by rw [hg];exact (below_size hbw_) : w.heap.size ≤ gb5));have GE5:=a0_ ((by rw [hg];exact (below_size hbw_) : w.heap.size ≤ gb5));replace HB:=a0_ (below_step hbw_ hb);clear hb hbox hg;have hcz12_0 : w11.cell? ⟨gb5,0,none⟩ = some (.int .i64 0):=(blk_cell BK5.out 0).trans rfl;have hcz12_1 : w11.cell? ⟨gb5,1,none⟩ = some (.bool false):=(blk_cell BK5.out 1).trans rfl;have hcz12_2 : w11.cell? ⟨gb5,2,none⟩ = some (.int .i64 0):=(blk_cell BK5.out 2).trans rfl;have hcz12_3 : w11.cell? ⟨gb5,3,none⟩ = some (.int .i64 0):=(blk_cell BK5.out 3).trans rfl;have hfz12_0:=blk_frozen BK5.out 0;have hfz12_1:=blk_frozen BK5.out 1;have hfz12_2:=blk_frozen BK5.out 2;have hfz12_3:=blk_frozen BK5.out 3) | ((with_reducible refine gate_builtin (b:=.append) (xs:=#[.tmp 22,.tmp 24]) rfl ?_);at_builtin;refine Kd.R_append k55 (w0:=w) w.heap.size rfl (.tmp 22) (.tmp 24) 28 55 (.agg #[(.int .i64 0),(.bool false),(.int .i64 0),(.int .i64 0)]) 32 rfl Try.underlying28 info55 rfl (by decide) (by omega) u5 x5_1 (⟨wrap64 (((rd_T55 l0 x13_1).f0) + a1),(rd_T55 l0 x13_1).f1,(rd_T55 l0 x13_1).f2,(rd_T55 l0 x13_1).f3⟩ : S55) [.int .i64 (wrap64 (((rd_T55 l0 x13_1).f0) + a1)),.bool ((rd_T55 l0 x13_1).f1),.int .i64 ((rd_T55 l0 x13_1).f2),.int .i64 ((rd_T55 l0 x13_1).f3)] (fun k_=>k_ ≠ gb5) (fun _=>False) rfl (by first | (go_simp;done) | (go_simp;rfl)) ?aP (fun _ hk=>hk.elim) ?aF ?aO ?aB ?aS ?aL ?_;(case aP=>exact k55_mkM _ _ _ (⟨wrap64 (((rd_T55 l0 x13_1).f0) + a1),(rd_T55 l0 x13_1).f1,(rd_T55 l0 x13_1).f2,(rd_T55 l0 x13_1).f3⟩ : S55));(case aB=>exact hbw_);(case aF=>exact (fun k_ hk=>Kd.freshB (g:=gb5) (o:=.cells #[.int .i64 (wrap64 (((rd_T55 l0 x13_1).f0) + a1)),.bool ((rd_T55 l0 x13_1).f1),.int .i64 ((rd_T55 l0 x13_1).f2),.int .i64 ((rd_T55 l0 x13_1).f3)] 55 (0,0)) (by (with_reducible repeat (first | refine blk_drewN ?_ _ | refine blk_drew ?_ | refine blk_alloc ?_ _));refine blk_put (cs:=#[.int .i64 ((rd_T55 l0 x13_1).f0),.bool ((rd_T55 l0 x13_1).f1),.int .i64 ((rd_T55 l0 x13_1).f2),.int .i64 ((rd_T55 l0 x13_1).f3)]) ?_ 0 _ rfl;(with_reducible repeat (first | refine blk_drewN ?_ _ | refine blk_drew ?_ | refine blk_alloc ?_ _));refine blk_put (cs:=#[.int .i64 ((rd_T55 l0 x13_1).f0),.bool ((rd_T55 l0 x13_1).f1),.int .i64 ((rd_T55 l0 x13_1).f2),.int .i64 0]) ?_ 3 _ rfl;(with_reducible repeat (first | refine blk_drewN ?_ _ | refine blk_drew ?_ | refine blk_alloc ?_ _));refine blk_put (cs:=#[.int .i64 ((rd_T55 l0 x13_1).f0),.bool ((rd_T55 l0 x13_1).f1),.int .i64 0,.int .i64 0]) ?_ 2 _ rfl;(with_reducible repeat (first | refine blk_drewN ?_ _ | refine blk_drew ?_ | refine blk_alloc ?_ _));refine blk_put (cs:=#[.int .i64 ((rd_T55 l0 x13_1).f0),.bool false,.int .i64 0,.int .i64 0]) ?_ 1 _ rfl;(with_reducible repeat (first | refine blk_drewN ?_ _ | refine blk_drew ?_ | refine blk_alloc ?_ _));refine blk_put (cs:=#[.int .i64 0,.bool false,.int .i64 0,.int .i64 0]) ?_ 0 _ rfl;(with_reducible repeat (first | refine blk_drewN ?_ _ | refine blk_drew ?_ | refine blk_alloc ?_ _));exact BK5.out) k_ hk));(case aO=>exact (by (with_reducible repeat (first | apply Kd.R_alloc | apply Kd.R_drewN | apply Kd.R_drew));exact Kd.R_mono (Kd.R_far (p:=⟨gb5,0,none⟩) (Kd.R_far (p:=⟨gb5,3,none⟩) (Kd.R_far (p:=⟨gb5,2,none⟩) (Kd.R_far (p:=⟨gb5,1,none⟩) (Kd.R_far (p:=⟨gb5,0,none⟩) (Kd.R_mono HO_5.out (fun k_ hk=>(⟨hk,hk.2⟩ : _ ∧ k_ ≠ gb5))) (fun _ hk=>hk.2) (.int .i64 ((rd_T55 l0 x13_1).f0))) (fun _ hk=>hk.2) (.bool ((rd_T55 l0 x13_1).f1))) (fun _ hk=>hk.2) (.int .i64 ((rd_T55 l0 x13_1).f2))) (fun _ hk=>hk.2) (.int .i64 ((rd_T55 l0 x13_1).f3))) (fun _ hk=>hk.2) (.int .i64 (wrap64 (((rd_T55 l0 x13_1).f0) + a1)))) (fun _ hk=>hk.1.2)));(case aS=>exact (below_size hbw_));(case aL=>have:=LMc10.out;omega);intro v7 w13 ho hb hg hat;rw [← Ny6.out] at ho;replace BK5:=a0_ (blk_grown (g:=gb5) (o:=.cells #[.int .i64 (wrap64 (((rd_T55 l0 x13_1).f0) + a1)),.bool ((rd_T55 l0 x13_1).f1),.int .i64 ((rd_T55 l0 x13_1).f2),.int .i64 ((rd_T55 l0 x13_1).f3)] 55 (0,0)) (by (with_reducible repeat (first | refine blk_drewN ?_ _ | refine blk_drew ?_ | refine blk_alloc ?_ _));refine blk_put (cs:=#[.int .i64 ((rd_T55 l0 x13_1).f0),.bool ((rd_T55 l0 x13_1).f1),.int .i64 ((rd_T55 l0 x13_1).f2),.int .i64 ((rd_T55 l0 x13_1).f3)]) ?_ 0 _ rfl;(with_reducible repeat (first | refine blk_drewN ?_ _ | refine blk_drew ?_ | refine blk_alloc ?_ _));refine blk_put (cs:=#[.int .i64 ((rd_T55 l0 x13_1).f0),.bool ((rd_T55 l0 x13_1).f1),.int .i64 ((rd_T55 l0 x13_1).f2),.int .i64 0]) ?_ 3 _ rfl;(with_reducible repeat (first | refine blk_drewN ?_ _ | refine blk_drew ?_ | refine blk_alloc ?_ _));refine blk_put (cs:=#[.int .i64 ((rd_T55 l0 x13_1).f0),.bool ((rd_T55 l0 x13_1).f1),.int .i64 0,.int .i64 0]) ?_ 2 _ rfl;(with_reducible repeat (first | refine blk_drewN ?_ _ | refine blk_drew ?_ | refine blk_alloc ?_ _));refine blk_put (cs:=#[.int .i64 ((rd_T55 l0 x13_1).f0),.bool false,.int .i64 0,.int .i64 0]) ?_ 1 _ rfl;(with_reducible repeat (first | refine blk_drewN ?_ _ | refine blk_drew ?_ | refine blk_alloc ?_ _));refine blk_put (cs:=#[.int .i64 0,.bool false,.int .i64 0,.int .i64 0]) ?_ 0 _ rfl;(with_reducible repeat (first | refine blk_drewN ?_ _ | refine blk_drew ?_ | refine blk_alloc ?_ _));exact BK5.out) hg (Kd.R_away HO_5.out (fun _ hk=>hk.2)));have HO8:=a0_ (ho);replace HB:=a0_ (hb);clear HO_5;clear ho hb hg hat))
         go_roundg k1
         case measure=>have:=HK1.out;omega
         case rel=>exact ⟨(y6),(wrap64 (x13_1 + 1)),(by first | rfl | (simp;done) | (simp [*];done)),H',⟨by have:=HK1.out;omega⟩,⟨by (with_reducible repeat (first | apply Kd.R_alloc | apply Kd.R_drewN | apply Kd.R_drew));exact Kd.R_mono HO8.out (fun _ hk=>trivial)⟩,⟨hbw_⟩⟩
        ·rw [if_neg c10] at H
         exact absurd H (by simp)
       ·rw [if_neg c9] at H
        exact absurd H (by simp)
      ·rw [if_neg c8] at H
       exact absurd H (by simp)
     ·rw [if_neg c7] at H
      have c7b0 : decide (x13_1 < (l0.length : Int)) = false:=decide_eq_false c7
      clear c7
      obtain rfl:=Option.some.inj H
      go_wp2
      go_ret
      exact ⟨_,by first | rfl | (simp [errW_none,errW_some] <;> rfl) | (simp [*,errW_none,errW_some] <;> rfl),by (with_reducible repeat (first | apply Kd.R_alloc | apply Kd.R_drewN | apply Kd.R_drew));exact HO_5.out,hbw_⟩
  ·rw [if_neg c4] at H
   exact absurd H (by simp)
 ·rw [if_neg c3] at H
  exact absurd H (by simp)
theorem impl_deeper_ev (g : List Prt) (d : Int) (hl : g.length ≤ 1048576) (hd : -1000 ≤ d ∧ d ≤ 1000) (hg : ∀ p ∈ g,-1000000 ≤ p.f0 ∧ p.f0 ≤ 1000000) : Ev (fun k=>impl_deeper.f k g d) (dpr d g):=by
 have key : ∀ n j,j + n = g.length → Ev (fun k=>impl_deeper.l0 k d (dpr d (g.take j)) g (g.length : Int) (j : Int)) (dpr d g):=by
  intro n
  induction n with
  | zero =>
   intro j hj
   refine Ev.succ ?_
   simp only [impl_deeper.l0]
   rw [List.take_of_length_le (by omega)]
   exact Ev.neg (by omega) (Ev.const rfl)
  | succ n ih =>
   intro j hj
   refine Ev.succ ?_
   have hlt : j < g.length:=by omega
   have hr : rd_T55 g (j : Int) = g[j]:=by simp [rd_T55,hlt]
   have hb:=hg g[j] (List.getElem_mem _)
   have hi:=ih (j + 1) (by omega)
   have e : dpr d (g.take (j + 1)) = dpr d (g.take j) ++ [⟨g[j].f0 + d,g[j].f1,g[j].f2,g[j].f3⟩]:=by
    rw [List.take_succ_eq_append_getElem hlt]
    unfold dpr
    rw [List.map_append]
    rfl
   rw [e] at hi
   have h1 : (dpr d (g.take j)).length ≤ j:=by rw [dpr_len,List.length_take];omega
   simp only [impl_deeper.l0,hr]
   rw [wrap_succ (i:=(j : Int)) (n:=g.length) (by omega) (by omega) (by omega),wrap_in (i:=g[j].f0 + d) (by omega) (by omega)]
   exact Ev.pos (by omega) (Ev.pos (by omega) (Ev.pos (by omega) (Ev.pos (by omega) hi)))
 exact Ev.pos (by omega) (Ev.pos (by omega) (key g.length 0 (by omega)))
end Go.Proofs.Ytbglafibhopleaa.P
namespace Go.Proofs.Ytbglafibhopleaa.P
open Go.RowKit Go.Proofs.YtbglafibhopleaaW.PrintWords Go.Proofs.YtbglafibhopleaaW.PrintLast Go.Proofs.YtbglafibhopleaaW.PrintMore
attribute [local go_sem] max2_int min2_int max_two min_two max_three min_three max_four min_four
set_option linter.unusedVariables false
set_option linter.unusedSimpArgs false
def impl_end.l0 : Nat → List (S55) → Int → Int → Option (Int)
 | 0,_,_,_=>none
 | k + 1,x0,x1,x5=>if x5 < (x0.length : Int) then (if 0 ≤ x5 then (if 0 ≤ x1 then (if x1 < (x0.length : Int) then (if ((rd_T55 x0 x5).f0) > ((rd_T55 x0 x1).f0) then (impl_end.l0 k x0 x1 (wrap64 (x5 + 1))) else (some x5)) else (none)) else (none)) else (none)) else (some x5)
def impl_end.f (k : Nat) (l0 : List (S55)) (a1 : Int) : Option (Int):=impl_end.l0 k l0 a1 (wrap64 (a1 + 1))
theorem impl_end.mono_l : ∀ k,(∀ y0 y1 y2,LeO (impl_end.l0 k y0 y1 y2) (impl_end.l0 (k + 1) y0 y1 y2))
 | 0=>fun _ _ _ r h=>by simp [impl_end.l0] at h
 | k + 1=>by
  have ih0:=impl_end.mono_l k
  ·intro y0 y1 y2
   unfold impl_end.l0
   repeat' first
   | (with_reducible exact ih0 _ _ _)
   | (with_reducible exact LeO.refl _)
   | (with_reducible exact LeO.none _)
   | (with_reducible refine LeO.ite ?_ ?_)
   | (with_reducible refine LeO.bind ?_ (fun _=>?_))
   | exact ih0 _ _ _
   | exact LeO.none _
   | refine LeO.ite ?_ ?_
   | refine LeO.bind ?_ (fun _=>?_)
theorem impl_end.mono : ∀ a0 a1 k,LeO (impl_end.f k a0 a1) (impl_end.f (k + 1) a0 a1):=by
 intro a0 a1 k
 have ih0:=impl_end.mono_l k
 unfold impl_end.f
 repeat' first
   | (with_reducible exact ih0 _ _ _)
   | (with_reducible exact LeO.refl _)
   | (with_reducible exact LeO.none _)
   | (with_reducible refine LeO.ite ?_ ?_)
   | (with_reducible refine LeO.bind ?_ (fun _=>?_))
   | exact ih0 _ _ _
   | exact LeO.none _
   | refine LeO.ite ?_ ?_
   | refine LeO.bind ?_ (fun _=>?_)
set_option maxHeartbeats 8000000 in
set_option maxRecDepth 100000 in
theorem impl_end.calls (k : Nat) (A0 : Option Addr) (c0 : Nat) (l0 : List (S55)) (a1 : Int) (r : Int) (w : World) (hr0 : Kd.C k55 w A0 l0.length l0) (hc0 : l0.length ≤ c0) (h : impl_end.f k l0 a1 = some r) :
  Calls Try.prog 57 #[.slice A0 l0.length c0,.int .i64 a1] w fun e w'=>e = .returned (.int .i64 r) ∧ Drawn0 w w':=by
 have HR0:=a0_ hr0
 have HC0:=a0_ hc0
 clear hr0 hc0
 have H : (impl_end.l0 k l0 a1 (wrap64 (a1 + 1))) = some r:=h
 clear h
 have H':=a0_ H
 clear H
 go_enter Try.func57,Try.ntmps57
 go_wp2
 repeat (go_quiet (fail);try go_wp2)
 go_loopg [5] k (fun kq v5 w'=>∃ (x5_1 : Int),v5 = .int .i64 x5_1 ∧ Aside0 (impl_end.l0 kq l0 a1 x5_1 = some r) ∧ Aside0 (kq ≤ k) ∧ Drawn0 w w')
 case atStart=>exact ⟨(wrap64 (a1 + 1)),(by first | rfl | (simp;done) | (simp [*];done)),H',⟨Nat.le_refl _⟩,by repeat (first | exact Drawn0.refl _ | apply Drawn0.step)⟩
 case round =>
  clear H'
  try clear p2
  obtain ⟨x5_1,rfl,HA,HK1,⟨m1,rfl⟩⟩:=hrel
  cases gk with
  | zero=>exact absurd HA.out (by simp [impl_end.l0])
  | succ k1 =>
   have H:=HA.out
   clear HA
   simp only [impl_end.l0] at H
   by_cases c3 : x5_1 < (l0.length : Int)
   ·rw [if_pos c3] at H
    have c3b0 : decide (x5_1 < (l0.length : Int)) = true:=decide_eq_true c3
    clear c3
    by_cases c4 : 0 ≤ x5_1
    ·rw [if_pos c4] at H
     have c4b0 : decide (0 ≤ x5_1) = true:=decide_eq_true c4
     clear c4
     by_cases c5 : 0 ≤ a1
     ·rw [if_pos c5] at H
      have c5b0 : decide (0 ≤ a1) = true:=decide_eq_true c5
      clear c5
      by_cases c6 : a1 < (l0.length : Int)
      ·rw [if_pos c6] at H
       have c6b0 : decide (a1 < (l0.length : Int)) = true:=decide_eq_true c6
       clear c6
       by_cases c7 : ((rd_T55 l0 x5_1).f0) > ((rd_T55 l0 a1).f0)
       ·rw [if_pos c7] at H
        have c7b0 : decide (((rd_T55 l0 a1).f0) < ((rd_T55 l0 x5_1).f0)) = true:=decide_eq_true c7
        clear c7
        have H':=a0_ H
        clear H
        have p1 : 0 ≤ (x5_1 : Int):=of_decide_eq_true (by first | (with_reducible assumption) | assumption)
        have q1 : x5_1 < (l0.length : Int):=of_decide_eq_true (by first | (with_reducible assumption) | assumption)
        obtain ⟨ad1,e1,hx1_0,hx1_1,hx1_2,hx1_3⟩:=at_T55 HR0.out x5_1 p1 q1
        cases e1
        replace p1:=eq_true p1
        replace q1:=eq_true q1
        have p2 : 0 ≤ (a1 : Int):=of_decide_eq_true (by first | (with_reducible assumption) | assumption)
        have q2 : a1 < (l0.length : Int):=of_decide_eq_true (by first | (with_reducible assumption) | assumption)
        obtain ⟨ad2,e2,hx2_0,hx2_1,hx2_2,hx2_3⟩:=at_T55 HR0.out a1 p2 q2
        obtain rfl : ad1 = ad2:=(by injection e2)
        replace p2:=eq_true p2
        replace q2:=eq_true q2
        go_wp2
        repeat (go_quiet (fail);try go_wp2)
        go_roundg k1
        case measure=>have:=HK1.out;omega
        case rel=>exact ⟨(wrap64 (x5_1 + 1)),(by first | rfl | (simp;done) | (simp [*];done)),H',⟨by have:=HK1.out;omega⟩,by repeat (first | exact Drawn0.refl _ | apply Drawn0.step)⟩
       ·rw [if_neg c7] at H
        have c7b0 : decide (((rd_T55 l0 a1).f0) < ((rd_T55 l0 x5_1).f0)) = false:=decide_eq_false c7
        clear c7
        obtain rfl:=Option.some.inj H
        have p1 : 0 ≤ (x5_1 : Int):=of_decide_eq_true (by first | (with_reducible assumption) | assumption)
        have q1 : x5_1 < (l0.length : Int):=of_decide_eq_true (by first | (with_reducible assumption) | assumption)
        obtain ⟨ad1,e1,hx1_0,hx1_1,hx1_2,hx1_3⟩:=at_T55 HR0.out x5_1 p1 q1
        cases e1
        replace p1:=eq_true p1
        replace q1:=eq_true q1
        have p2 : 0 ≤ (a1 : Int):=of_decide_eq_true (by first | (with_reducible assumption) | assumption)
        have q2 : a1 < (l0.length : Int):=of_decide_eq_true (by first | (with_reducible assumption) | assumption)
        obtain ⟨ad2,e2,hx2_0,hx2_1,hx2_2,hx2_3⟩:=at_T55 HR0.out a1 p2 q2
        obtain rfl : ad1 = ad2:=(by injection e2)
        replace p2:=eq_true p2
        replace q2:=eq_true q2
        go_wp2
        repeat (go_quiet (fail);try go_wp2)
        go_ret
        exact ⟨by first | rfl | (simp;done) | (simp [*];done),by repeat (first | exact Drawn0.refl _ | apply Drawn0.step)⟩
      ·rw [if_neg c6] at H
       exact absurd H (by simp)
     ·rw [if_neg c5] at H
      exact absurd H (by simp)
    ·rw [if_neg c4] at H
     exact absurd H (by simp)
   ·rw [if_neg c3] at H
    have c3b0 : decide (x5_1 < (l0.length : Int)) = false:=decide_eq_false c3
    clear c3
    obtain rfl:=Option.some.inj H
    go_wp2
    repeat (go_quiet (fail);try go_wp2)
    go_ret
    exact ⟨by first | rfl | (simp;done) | (simp [*];done),by repeat (first | exact Drawn0.refl _ | apply Drawn0.step)⟩
theorem impl_end_ev (g : List Prt) (i : Nat) (hi : i < g.length) (hl : g.length ≤ 9223372036854775807) : Ev (fun k=>impl_end.f k g (i : Int)) ((endG g i : Nat) : Int):=by
 have key : ∀ d j,j + d = g.length → Ev (fun k=>impl_end.l0 k g (i : Int) (j : Int)) ((j + ((g.drop j).takeWhile (fun p=>decide ((g.getD i z55).f0 < p.f0))).length : Nat) : Int):=by
  intro d
  induction d with
  | zero =>
   intro j hj
   rw [List.drop_eq_nil_of_le (by omega)]
   refine Ev.succ (Ev.congr (F:=fun _=>some ((j : Nat) : Int)) (Ev.const rfl) (fun k=>?_))
   simp only [impl_end.l0]
   rw [if_neg (by omega)]
  | succ d ih =>
   intro j hj
   have hlt : j < g.length:=by omega
   have hrd : rd_T55 g (j : Int) = g[j]:=by simp [rd_T55,hlt]
   have hri : rd_T55 g (i : Int) = g.getD i z55:=by simp [rd_T55]
   rw [List.drop_eq_getElem_cons hlt,List.takeWhile_cons]
   refine Ev.succ (Ev.congr (F:=fun k=>if (g.getD i z55).f0 < g[j].f0 then impl_end.l0 k g (i : Int) ((j + 1 : Nat) : Int) else some (j : Int)) ?_ (fun k=>?_))
   ·by_cases h : (g.getD i z55).f0 < g[j].f0
    ·refine Ev.pos h ?_
     rw [decide_eq_true h,if_pos rfl,List.length_cons]
     have:=ih (j + 1) (by omega)
     rw [show j + 1 + ((g.drop (j + 1)).takeWhile (fun p=>decide ((g.getD i z55).f0 < p.f0))).length = j + (((g.drop (j + 1)).takeWhile (fun p=>decide ((g.getD i z55).f0 < p.f0))).length + 1) by omega] at this
     exact this
    ·refine Ev.neg h ?_
     rw [decide_eq_false h,if_neg (by simp)]
     exact Ev.const rfl
   ·simp only [impl_end.l0]
    rw [if_pos (by omega),if_pos (by omega),if_pos (by omega),if_pos (by omega),hrd,hri,wrap_succ (i:=(j : Int)) (n:=g.length) (by omega) (by omega) (by omega)]
    rfl
 have:=key (g.length - (i + 1)) (i + 1) (by omega)
 refine Ev.congr this (fun k=>?_)
 unfold impl_end.f
 rw [wrap_succ (i:=(i : Int)) (n:=g.length) (by omega) (by omega) (by omega)]
 rfl
end Go.Proofs.Ytbglafibhopleaa.P
namespace Go.Proofs.Ytbglafibhopleaa.P
open Go.RowKit Go.Proofs.YtbglafibhopleaaW.PrintWords Go.Proofs.YtbglafibhopleaaW.PrintLast Go.Proofs.YtbglafibhopleaaW.PrintMore
attribute [local go_sem] max2_int min2_int max_two min_two max_three min_three max_four min_four
set_option linter.unusedVariables false
set_option linter.unusedSimpArgs false
def slices_Clip_sPart.f (l0 : List (List (S55))) : Option (List (List (S55))):=some l0
set_option maxHeartbeats 8000000 in
set_option maxRecDepth 100000 in
theorem slices_Clip_sPart.calls (P0_ : Nat → Prop) (u9000_ : Value) (l0 : List (List (S55))) (r : List (List (S55))) (w0 w : World) (hB : Below w0.heap.size w0 w) (ho0 : Kd.S (Kd.slice 55 k55) 28 w w0.heap.size P0_ u9000_ l0) (h : slices_Clip_sPart.f l0 = some r) :
  Calls Try.prog 58 #[u9000_] w fun e w'=>∃ v0_ : Value,e = .returned (v0_) ∧ Kd.S (Kd.slice 55 k55) 28 w' w0.heap.size (fun k_=>(P0_ k_ ∨ w.heap.size ≤ k_)) v0_ r ∧ Below w0.heap.size w0 w' ∧ Kept w w' (fun k_=>P0_ k_):=by
 have HO0:=a0_ (show Kd.S (Kd.slice 55 k55) 28 w w0.heap.size (fun k_=>(P0_ k_ ∨ w.heap.size ≤ k_)) u9000_ l0 from Kd.S_mono ho0 (fun k_ hk=>(.inl hk)))
 have HK:=a0_ (Kept.refl w (fun k_=>P0_ k_))
 have HW0:=a0_ hB.size
 have HB:=a0_ hB
 clear hB
 obtain rfl:=Option.some.inj h
 clear h
 have c2b0:=eq_true (show 0 ≤ (l0.length : Int) by omega)
 have c2b1 : decide (0 ≤ (l0.length : Int)) = true:=decide_eq_true (by omega)
 have c3b1 : decide ((l0.length : Int) ≤ (l0.length : Int)) = true:=decide_eq_true (by omega)
 obtain ⟨Ao4,co4,eo4⟩:=Kd.S_slice HO0.out
 subst eo4
 have q5 : l0.length ≤ co4:=(Kd.S_reads' HO0.out).2.1
 have hr5:=Kd.S_clip' HO0.out rfl
 clear HO0
 have HO3:=a0_ hr5
 clear hr5
 go_enter Try.func58,Try.ntmps58
 go_wp2
 go_ret
 exact ⟨_,rfl,HO3.out,HB.out,HK.out⟩
theorem slices_Clip_sPart_ev (l : List (List Prt)) : slices_Clip_sPart.f l = some l:=rfl
end Go.Proofs.Ytbglafibhopleaa.P
namespace Go.Proofs.Ytbglafibhopleaa.P
open Go.RowKit Go.Proofs.YtbglafibhopleaaW.PrintWords Go.Proofs.YtbglafibhopleaaW.PrintLast Go.Proofs.YtbglafibhopleaaW.PrintMore
attribute [local go_sem] max2_int min2_int max_two min_two max_three min_three max_four min_four
set_option linter.unusedVariables false
set_option linter.unusedSimpArgs false
def impl_kids.l0 : Nat → List (S55) → List (List (S55)) → Int → Option ((List (List (S55))))
 | 0,_,_,_=>none
 | k + 1,x0,x3,x4=>if x4 < (x0.length : Int) then ((impl_end.f k x0 x4).bind fun t4=>(if 0 ≤ x4 then (if x4 ≤ t4 then (if t4 ≤ (x0.length : Int) then ((impl_deeper.f k ((x0.take (t4 : Int).toNat).drop (x4 : Int).toNat) (-1)).bind fun t9=>(if x3.length < 5864062014805 then ((impl_end.f k x0 x4).bind fun t15=>(impl_kids.l0 k x0 (x3 ++ [t9]) t15)) else (none))) else (none)) else (none)) else (none))) else (some x3)
def impl_kids.f (k : Nat) (l0 : List (S55)) : Option ((List (List (S55)))):=impl_kids.l0 k l0 (([] : List (List (S55)))) 1
theorem impl_kids.mono_l : ∀ k,(∀ y0 y1 y2,LeO (impl_kids.l0 k y0 y1 y2) (impl_kids.l0 (k + 1) y0 y1 y2))
 | 0=>fun _ _ _ r h=>by simp [impl_kids.l0] at h
 | k + 1=>by
  have ih0:=impl_kids.mono_l k
  ·intro y0 y1 y2
   unfold impl_kids.l0
   repeat' first
   | (with_reducible exact ih0 _ _ _)
   | (with_reducible exact impl_deeper.mono _ _ _)
   | (with_reducible exact impl_end.mono _ _ _)
   | (with_reducible exact LeO.refl _)
   | (with_reducible exact LeO.none _)
   | (with_reducible refine LeO.ite ?_ ?_)
   | (with_reducible refine LeO.bind ?_ (fun _=>?_))
   | exact ih0 _ _ _
   | exact impl_deeper.mono _ _ _
   | exact impl_end.mono _ _ _
   | exact LeO.none _
   | refine LeO.ite ?_ ?_
   | refine LeO.bind ?_ (fun _=>?_)
theorem impl_kids.mono : ∀ a0 k,LeO (impl_kids.f k a0) (impl_kids.f (k + 1) a0):=by
 intro a0 k
 have ih0:=impl_kids.mono_l k
 unfold impl_kids.f
 repeat' first
   | (with_reducible exact ih0 _ _ _)
   | (with_reducible exact impl_deeper.mono _ _ _)
   | (with_reducible exact impl_end.mono _ _ _)
   | (with_reducible exact LeO.refl _)
   | (with_reducible exact LeO.none _)
   | (with_reducible refine LeO.ite ?_ ?_)
   | (with_reducible refine LeO.bind ?_ (fun _=>?_))
   | exact ih0 _ _ _
   | exact impl_deeper.mono _ _ _
   | exact impl_end.mono _ _ _
   | exact LeO.none _
   | refine LeO.ite ?_ ?_
   | refine LeO.bind ?_ (fun _=>?_)
set_option maxHeartbeats 8000000 in
set_option maxRecDepth 100000 in
theorem impl_kids.calls (k : Nat) (A0 : Option Addr) (c0 : Nat) (l0 : List (S55)) (r : List (List (S55))) (w : World) (hr0 : Kd.C k55 w A0 l0.length l0) (hc0 : l0.length ≤ c0) (h : impl_kids.f k l0 = some r) :
  Calls Try.prog 41 #[.slice A0 l0.length c0] w fun e w'=>∃ v0_ : Value,e = .returned (v0_) ∧ Kd.S (Kd.slice 55 k55) 28 w' w.heap.size (fun _=>True) v0_ r ∧ Below w.heap.size w w':=by
 have HR0:=a0_ hr0
 have HC0:=a0_ hc0
 clear hr0 hc0
 have HB:=a0_ (Below.refl w.heap.size w)
 have H : (impl_kids.l0 k l0 (([] : List (List (S55)))) 1) = some r:=h
 clear h
 obtain ⟨y1,hy1⟩ : ∃ y_ : List (List (S55)),y_ = (([] : List (List (S55)))):=⟨_,rfl⟩
 replace H : (impl_kids.l0 k l0 y1 1) = some r:=by first | (rw [hy1];with_reducible exact H) | (have H2_:=(Option.bind_some _ _).symm.trans H;rw [hy1];with_reducible exact H2_) | (have H2_:=(Option.bind_some _ _).symm.trans H;with_reducible exact H2_) | with_reducible exact H | (rw [hy1];exact H) | exact H
 have Ny1:=a0_ hy1
 clear hy1
 have H':=a0_ H
 clear H
 go_enter Try.func41,Try.ntmps41
 go_wp2_with (first | ((with_reducible refine gate_dst (N:=5) rfl ?_);refine Kd.S_lit (Kd.slice 55 k55) _ 28 ?hg (N:=5) ?hd (xs:=([] : List (List (S55)))) (inner:=[]) (ok:=fun _=>True) (okp:=fun _=>True) ?hr ?hp (fun _ hk=>hk) trivial (Below.refl _ _) (Nat.le_refl _) (by simp) ?_;(case hd=>rfl);(case hg=>rfl);(case hr=>first | (go_simp;done) | (go_simp;rfl));(case hp=>exact (Reps.none _ _));intro v2 w2 ho3 hb hg_ hnew_;clear hg_ hnew_;(first | rw [← Ny1.out] at ho3 | (simp only [Int.reduceToNat] at ho3;rw [← Ny1.out] at ho3));have HO3:=a0_ (Kd.S_lower ho3 (below_size hbw_));replace HB:=a0_ (below_step hbw_ hb);clear hb ho3))
 go_loopg [3,4] k (fun kq v3 v4 w'=>∃ (x3_1 : List (List (S55))) (x4_1 : Int),v4 = .int .i64 x4_1 ∧ Aside0 (impl_kids.l0 kq l0 x3_1 x4_1 = some r) ∧ Aside0 (kq ≤ k) ∧ Aside0 (Kd.S (Kd.slice 55 k55) 28 w' w.heap.size (fun _=>True) v3 x3_1) ∧ Aside0 (Below w.heap.size w w'))
 case atStart=>exact ⟨(y1),(1),(by first | rfl | (simp;done) | (simp [*];done)),H',⟨Nat.le_refl _⟩,⟨by (with_reducible repeat (first | apply Kd.S_alloc | apply Kd.S_drewN | apply Kd.S_drew));exact HO3.out⟩,⟨hbw_⟩⟩
 case round =>
  clear H'
  try clear p2
  obtain ⟨x3_1,x4_1,rfl,HA,HK1,HO_3,HB⟩:=hrel
  cases gk with
  | zero=>exact absurd HA.out (by simp [impl_kids.l0])
  | succ k1 =>
   have H:=HA.out
   clear HA
   simp only [impl_kids.l0] at H
   by_cases c4 : x4_1 < (l0.length : Int)
   ·rw [if_pos c4] at H
    have c4b0 : decide (x4_1 < (l0.length : Int)) = true:=decide_eq_true c4
    clear c4
    replace H:=Option.bind_eq_some_iff.mp H
    obtain ⟨t4,A50,H⟩:=H
    try dsimp only at H
    have A5:=a0_ A50
    clear A50
    by_cases c6 : 0 ≤ x4_1
    ·rw [if_pos c6] at H
     have c6b0:=eq_true c6
     have c6b1 : decide (0 ≤ x4_1) = true:=decide_eq_true c6
     clear c6
     by_cases c7 : x4_1 ≤ t4
     ·rw [if_pos c7] at H
      have c7b0:=eq_true c7
      have c7b1 : decide (x4_1 ≤ t4) = true:=decide_eq_true c7
      clear c7
      by_cases c8 : t4 ≤ (l0.length : Int)
      ·rw [if_pos c8] at H
       have c8b0:=eq_true c8
       have c8b1 : decide (t4 ≤ (l0.length : Int)) = true:=decide_eq_true c8
       clear c8
       obtain ⟨y5,hy5⟩ : ∃ y_ : List (S55),y_ = ((l0.take (t4 : Int).toNat).drop (x4_1 : Int).toNat):=⟨_,rfl⟩
       replace H : ((impl_deeper.f k1 y5 (-1)).bind fun t9=>(if x3_1.length < 5864062014805 then ((impl_end.f k1 l0 x4_1).bind fun t15=>(impl_kids.l0 k1 l0 (x3_1 ++ [t9]) t15)) else (none))) = some r:=by first | (rw [hy5];with_reducible exact H) | (have H2_:=(Option.bind_some _ _).symm.trans H;rw [hy5];with_reducible exact H2_) | (have H2_:=(Option.bind_some _ _).symm.trans H;with_reducible exact H2_) | with_reducible exact H | (rw [hy5];exact H) | exact H
       have Ny5:=a0_ hy5
       clear hy5
       replace H:=Option.bind_eq_some_iff.mp H
       obtain ⟨t9,A90,H⟩:=H
       try dsimp only at H
       have A9:=a0_ A90
       clear A90
       by_cases c10 : x3_1.length < 5864062014805
       ·rw [if_pos c10] at H
        have LMc10:=a0_ c10
        clear c10
        obtain ⟨y12,hy12⟩ : ∃ y_ : List (List (S55)),y_ = (x3_1 ++ [t9]):=⟨_,rfl⟩
        replace H : ((impl_end.f k1 l0 x4_1).bind fun t15=>(impl_kids.l0 k1 l0 y12 t15)) = some r:=by first | (rw [hy12];with_reducible exact H) | (have H2_:=(Option.bind_some _ _).symm.trans H;rw [hy12];with_reducible exact H2_) | (have H2_:=(Option.bind_some _ _).symm.trans H;with_reducible exact H2_) | with_reducible exact H | (rw [hy12];exact H) | exact H
        have Ny12:=a0_ hy12
        clear hy12
        replace H:=Option.bind_eq_some_iff.mp H
        obtain ⟨t15,A110,H⟩:=H
        replace H : (impl_kids.l0 k1 l0 y12 t15) = some r:=H
        have A11:=a0_ A110
        clear A110
        have H':=a0_ H
        clear H
        go_wp2_with (first | ((with_reducible refine gate_callee (f:=57) rfl ?_);refine goesL_ (some 18) rfl rfl Try.func57 (by kernel_rfl) rfl #[.slice A0 l0.length c0,.int .i64 x4_1] rfl lm_ ?_;(with_reducible refine (impl_end.calls k1 _ _ l0 x4_1 t4 _ ?side1 ?side2 A5.out).mono ?_);(case side1=>exact cc_ (Kd.C_below HR0.out HB.out));(case side2=>exact HC0.out);rintro e w' ⟨rfl,⟨nd,rfl⟩⟩;refine ⟨_,rfl,?_⟩;have q12 : (t4 : Int) ≤ ((l0.length : Int) : Int):=of_decide_eq_true (by first | (with_reducible assumption) | assumption);obtain ⟨i012,hi012,_,hsz12,_⟩:=info_parts info55;have hroom12 : l0.length ≤ c0:=HC0.out;have hC12 : Kd.C k55 _ A0 l0.length l0:=HR0.out;have ql12 : (x4_1 : Int) ≤ (t4 : Int):=of_decide_eq_true (by first | (with_reducible assumption) | assumption);have q012 : (0 : Int) ≤ (x4_1 : Int):=of_decide_eq_true (by first | (with_reducible assumption) | assumption);have hcut12:=cut_mid (P:=Try.prog) 28 55 .i64 .i64 Try.underlying28 hi012 4 hsz12 A0 l0.length c0 x4_1 t4 q012 ql12 q12 hroom12;have hr12:=Kd.C_mid (lo:=(x4_1 : Int).toNat) (hi:=(t4 : Int).toNat) (c:=c0) hC12 (by omega) (by omega) hroom12;obtain ⟨A12,hA12⟩ : ∃ AZ_,AZ_ = (if c0 = (x4_1 : Int).toNat then A0 else (A0 : Option Addr).map (·.add ((x4_1 : Int).toNat * 4))):=⟨_,rfl⟩;obtain ⟨c12,hc12⟩ : ∃ cZ_,cZ_ = c0 - (x4_1 : Int).toNat:=⟨_,rfl⟩;have hy12 : y5.length = (t4 : Int).toNat - (x4_1 : Int).toNat:=(by rw [Ny5.out,List.length_drop,List.length_take] <;> omega);rw [show ((l0).take (t4 : Int).toNat).drop (x4_1 : Int).toNat = y5 from Ny5.out.symm] at hr12;replace hr12 : Kd.C k55 _ A12 y5.length y5:=(by rw [hA12];exact hr12);rw [← hy12,← hA12,← hc12] at hcut12;have HR8:=a0_ hr12;have HC8:=a0_ (show y5.length ≤ c12 from by rw [hy12,hc12];exact Nat.sub_le_sub_right (Nat.le_trans (by omega) hroom12) _);clear hr12 hC12 hroom12 hi012 hsz12 hc12;have KY12:=a0_ hy12;have KA12:=a0_ hA12;clear hy12 hA12;replace q12:=eq_true q12) | ((with_reducible refine gate_callee (f:=56) rfl ?_);refine goesL_ (some 20) rfl rfl Try.func56 (by kernel_rfl) rfl #[.slice A12 y5.length c12,.int .i64 (-1)] rfl lm_ ?_;(with_reducible refine (impl_deeper.calls k1 _ _ y5 (-1) t9 _ ?side1 ?side2 A9.out).mono ?_);(case side1=>repeat (first | exact (Kd.C_below HR8.out hbw_) | (with_reducible refine Kd.C_alloc ?_ _) | (with_reducible refine Kd.C_drewN ?_ _) | (with_reducible refine Kd.C_drew ?_)));(case side2=>exact HC8.out);rintro e w13 ⟨v10,rfl,ho0,hb⟩;refine ⟨_,rfl,?_⟩;replace HO_3:=a0_ (Kd.S_elder' (by (with_reducible repeat (first | apply Kd.S_alloc | apply Kd.S_drewN | apply Kd.S_drew));exact HO_3.out) (Kd.R_base ho0) hb);have HO11:=a0_ (Kd.R_lower ho0 (below_size hbw_));replace HB:=a0_ (below_step hbw_ hb);(try clear hb);(try clear ho0);obtain ⟨Ao15,co15,eo15⟩:=Kd.R_slice HO11.out;subst eo15) | ((with_reducible refine gate_builtin (b:=.append) (xs:=#[.tmp 13,.tmp 21]) rfl ?_);at_builtin;refine Kd.S_append (Kd.slice 55 k55) (w0:=w) w.heap.size rfl (.tmp 13) (.tmp 21) 44 28 (.slice none 0 0) 24 rfl Try.underlying44 info28 rfl (by decide) (by omega) u3 x3_1 t9 [.slice Ao15 t9.length co15] (fun _=>True) (fun k_=>some k_ = (.slice Ao15 t9.length co15 : Value).ownBlock) rfl rfl ?aP (fun k_ hk_=>((Kd.R_mono (ok':=fun k_=>((fun _=>True)) k_ ∧ some k_ ≠ (u3 : Value).ownBlock) (Kd.R_apart' (HO11.out) (Kd.S_typed HO_3.out) (by decide)) (fun k_ hk=>⟨trivial,hk.2⟩))).1 k_ hk_.symm) ?aF ?aO ?aB ?aS ?aL ?_;(case aP=>exact Kd.M_row (Kd.R_mono (Kd.R_tight rfl (Kd.R_mono (ok':=fun k_=>((fun _=>True)) k_ ∧ some k_ ≠ (u3 : Value).ownBlock) (Kd.R_apart' (HO11.out) (Kd.S_typed HO_3.out) (by decide)) (fun k_ hk=>⟨trivial,hk.2⟩))) (fun _ h_=>h_)));(case aB=>exact hbw_);(case aF=>exact (fun _ _=>trivial));(case aO=>exact (by (with_reducible repeat (first | apply Kd.S_alloc | apply Kd.S_drewN | apply Kd.S_drew));exact Kd.S_mono HO_3.out (fun k_ hk=>⟨trivial,fun e_=>hk.2 e_⟩)));(case aS=>exact (below_size hbw_));(case aL=>have:=LMc10.out;omega);intro v13 w14 ho hb hg hat;rw [← Ny12.out] at ho;have HO14:=a0_ (ho);replace HB:=a0_ (hb);clear HO_3 HO11;clear ho hb hg hat) | ((with_reducible refine gate_callee (f:=57) rfl ?_);refine goesL_ (some 12) rfl rfl Try.func57 (by kernel_rfl) rfl #[.slice A0 l0.length c0,.int .i64 x4_1] rfl lm_ ?_;(with_reducible refine (impl_end.calls k1 _ _ l0 x4_1 t15 _ ?side1 ?side2 A11.out).mono ?_);(case side1=>exact cc_ (Kd.C_below HR0.out HB.out));(case side2=>exact HC0.out);rintro e w' ⟨rfl,⟨nd,rfl⟩⟩;refine ⟨_,rfl,?_⟩))
        go_roundg k1
        case measure=>have:=HK1.out;omega
        case rel=>exact ⟨(y12),(t15),(by first | rfl | (simp;done) | (simp [*];done)),H',⟨by have:=HK1.out;omega⟩,⟨by (with_reducible repeat (first | apply Kd.S_alloc | apply Kd.S_drewN | apply Kd.S_drew));exact HO14.out⟩,⟨hbw_⟩⟩
       ·rw [if_neg c10] at H
        exact absurd H (by simp)
      ·rw [if_neg c8] at H
       exact absurd H (by simp)
     ·rw [if_neg c7] at H
      exact absurd H (by simp)
    ·rw [if_neg c6] at H
     exact absurd H (by simp)
   ·rw [if_neg c4] at H
    have c4b0 : decide (x4_1 < (l0.length : Int)) = false:=decide_eq_false c4
    clear c4
    obtain rfl:=Option.some.inj H
    go_wp2_with (go_at_call 58;refine (slices_Clip_sPart.calls (fun _=>True) _ _ _ w _ HB.out HO_3.out rfl).mono ?_;rintro e w2 ⟨v2,rfl,ho2,hb2,hk2⟩)
    go_ret
    exact ⟨_,rfl,Kd.S_mono ho2 (fun _ _=>trivial),hb2⟩
theorem impl_kids_l0 (g : List Prt) (hl : g.length ≤ 1000) (hb : ∀ p ∈ g,-1000 ≤ p.f0 ∧ p.f0 ≤ 1000) : ∀ (n i : Nat) (out : List (List Prt)),g.length ≤ i + n → i ≤ g.length → out.length ≤ i → Ev (fun k=>impl_kids.l0 k g out (i : Int)) (out ++ (kidR n (g.drop i)).map (dpr (-1))):=by
 intro n
 induction n with
 | zero =>
  intro i out hn hi ho
  refine Ev.succ ?_
  simp only [impl_kids.l0]
  exact Ev.neg (by omega) (Ev.const (by simp [kidR]))
 | succ n ih =>
  intro i out hn hi ho
  refine Ev.succ ?_
  by_cases hlt : i < g.length
  ·obtain ⟨e1,e2⟩:=end_mid g i hlt
   have hE:=impl_end_ev g i hlt (by omega)
   have hle:=endG_le g i hlt
   have hD:=impl_deeper_ev (g[i] :: belw g[i] (g.drop (i + 1))) (-1) (by
    have:=(belw_sub g[i] (g.drop (i + 1))).length_le
    rw [List.length_drop] at this
    rw [List.length_cons]
    omega) (by omega) (fun p hp=>by
    have hm : p ∈ g:=by
     rcases List.mem_cons.1 hp with rfl | hp
     ·exact List.getElem_mem _
     ·exact List.mem_of_mem_drop ((belw_sub _ _).subset hp)
    have:=hb p hm
    omega)
   rw [← e1] at hD
   have hi2:=ih (endG g i) (out ++ [dpr (-1) ((g.take (endG g i)).drop i)]) (by omega) hle (by simp;omega)
   have ek : kidR (n + 1) (g.drop i) = (g.take (endG g i)).drop i :: kidR n (g.drop (endG g i)):=by
    rw [List.drop_eq_getElem_cons hlt,kidR,e1,e2,List.drop_drop]
   rw [ek,List.map_cons]
   rw [List.append_assoc,List.singleton_append] at hi2
   simp only [impl_kids.l0]
   refine Ev.pos (by omega) (Ev.bind hE (Ev.pos (by omega) (Ev.pos (by omega) (Ev.pos (by omega) ?_))))
   simp only [Int.toNat_natCast]
   exact Ev.bind hD (Ev.pos (by omega) (Ev.bind hE hi2))
  ·rw [List.drop_eq_nil_of_le (by omega)]
   simp only [impl_kids.l0]
   exact Ev.neg (by omega) (Ev.const (by simp [kidR]))
theorem impl_kids_ev (g : List Prt) (hl : g.length ≤ 1000) (h1 : 1 ≤ g.length) (hb : ∀ p ∈ g,-1000 ≤ p.f0 ∧ p.f0 ≤ 1000) : Ev (fun k=>impl_kids.f k g) (kidL g):=by
 have:=impl_kids_l0 g hl hb g.length 1 [] (by omega) h1 (by simp)
 exact this
end Go.Proofs.Ytbglafibhopleaa.P
namespace Go.Proofs.Ytbglafibhopleaa.P
open Go.RowKit Go.Proofs.YtbglafibhopleaaW.PrintWords Go.Proofs.YtbglafibhopleaaW.PrintLast Go.Proofs.YtbglafibhopleaaW.PrintMore
attribute [local go_sem] max2_int min2_int max_two min_two max_three min_three max_four min_four
set_option linter.unusedVariables false
set_option linter.unusedSimpArgs false
def impl_KidsOf.f (k : Nat) (l0_0 : List (S72)) (l1 : List (S55)) : Option ((List (List (S55)))):=(impl_ValidGroup.f k l0_0 l1).bind fun t2=>(if t2 = true then ((impl_kids.f k l1).bind fun t3=>(some t3)) else (some ([] : List (List (S55)))))
theorem impl_KidsOf.mono : ∀ a0 a1 k,LeO (impl_KidsOf.f k a0 a1) (impl_KidsOf.f (k + 1) a0 a1):=by
 intro a0 a1 k
 unfold impl_KidsOf.f
 repeat' first
   | (with_reducible exact impl_ValidGroup.mono _ _ _)
   | (with_reducible exact impl_kids.mono _ _)
   | (with_reducible exact LeO.refl _)
   | (with_reducible exact LeO.none _)
   | (with_reducible refine LeO.ite ?_ ?_)
   | (with_reducible refine LeO.bind ?_ (fun _=>?_))
   | exact impl_ValidGroup.mono _ _ _
   | exact impl_kids.mono _ _
   | exact LeO.none _
   | refine LeO.ite ?_ ?_
   | refine LeO.bind ?_ (fun _=>?_)
set_option maxHeartbeats 8000000 in
set_option maxRecDepth 100000 in
theorem impl_KidsOf.calls (k : Nat) (A0_0 : Option Addr) (c0_0 : Nat) (l0_0 : List (S72)) (A1 : Option Addr) (c1 : Nat) (l1 : List (S55)) (r : List (List (S55))) (w : World) (hr0_0 : Kd.C k72 w A0_0 l0_0.length l0_0) (hc0_0 : l0_0.length ≤ c0_0) (hr1 : Kd.C k55 w A1 l1.length l1) (hc1 : l1.length ≤ c1) (h : impl_KidsOf.f k l0_0 l1 = some r) :
  Calls Try.prog 24 #[.agg #[.slice A0_0 l0_0.length c0_0],.slice A1 l1.length c1] w fun e w'=>∃ v0_ : Value,e = .returned (v0_) ∧ Kd.S (Kd.slice 55 k55) 28 w' w.heap.size (fun _=>True) v0_ r ∧ Below w.heap.size w w':=by
 have hu32:=Try.underlying32
 have HR0_0:=a0_ hr0_0
 have HC0_0:=a0_ hc0_0
 clear hr0_0 hc0_0
 have HR1:=a0_ hr1
 have HC1:=a0_ hc1
 clear hr1 hc1
 have HB:=a0_ (Below.refl w.heap.size w)
 have H : ((impl_ValidGroup.f k l0_0 l1).bind fun t2=>(if t2 = true then ((impl_kids.f k l1).bind fun t3=>(some t3)) else (some ([] : List (List (S55)))))) = some r:=h
 clear h
 replace H:=Option.bind_eq_some_iff.mp H
 obtain ⟨t2,A30,H⟩:=H
 try dsimp only at H
 have A3:=a0_ A30
 clear A30
 by_cases c4 : t2 = true
 ·subst c4
  have H1 : ((impl_kids.f k l1).bind fun t3=>(some t3)) = some r:=by rw [if_pos rfl] at H;exact H
  clear H
  have H:=H1
  clear H1
  replace H:=Option.bind_eq_some_iff.mp H
  obtain ⟨t3,A50,H⟩:=H
  replace H : (some t3) = some r:=H
  have A5:=a0_ A50
  clear A50
  obtain rfl:=Option.some.inj H
  go_enter Try.func24,Try.ntmps24
  go_wp2_with (first | ((with_reducible refine gate_dst (N:=2) rfl ?_);refine box_event ?hg (N:=2) ?hd (cs:=#[.slice A0_0 l0_0.length c0_0]) (t:=32) ?hr ?_;(case hd=>rfl);(case hg=>rfl);(case hr=>first | (go_simp;done) | (go_simp;rfl));intro gb1 hg w6 hbox hb;have BK1:=a0_ (hbox);have GW1:=a0_ ((by rw [hg];exact (below_size hbw_) : w.heap.size ≤ gb1));have GE1:=a0_ ((by rw [hg];exact (below_size hbw_) : w.heap.size ≤ gb1));replace HB:=a0_ (below_step hbw_ hb);clear hb hbox hg;have hcz7_0 : w6.cell? ⟨gb1,0,none⟩ = some (.slice A0_0 l0_0.length c0_0):=(blk_cell BK1.out 0).trans rfl;have hfz7_0:=blk_frozen BK1.out 0) | ((with_reducible refine gate_callee (f:=31) rfl ?_);refine goesL_ (some 7) rfl rfl Try.func31 (by kernel_rfl) rfl #[.agg #[.slice A0_0 l0_0.length c0_0],.slice A1 l1.length c1] rfl lm_ ?_;(with_reducible refine (impl_ValidGroup.calls k _ _ l0_0 _ _ l1 true _ ?side1 ?side2 ?side3 ?side4 A3.out).mono ?_);(case side1=>exact cc_ (Kd.C_below HR0_0.out HB.out));(case side2=>exact HC0_0.out);(case side3=>exact cc_ (Kd.C_below HR1.out HB.out));(case side4=>exact HC1.out);rintro e w8 ⟨rfl,hb⟩;refine ⟨_,rfl,?_⟩;replace BK1:=kb_ BK1 hb;replace HB:=a0_ (below_step hbw_ hb);(try clear hb);(try clear hb2);(try clear hk);(try clear hi)) | ((with_reducible refine gate_callee (f:=41) rfl ?_);refine goesL_ (some 10) rfl rfl Try.func41 (by kernel_rfl) rfl #[.slice A1 l1.length c1] rfl lm_ ?_;(with_reducible refine (impl_kids.calls k _ _ l1 t3 _ ?side1 ?side2 A5.out).mono ?_);(case side1=>exact cc_ (Kd.C_below HR1.out HB.out));(case side2=>exact HC1.out);rintro e w9 ⟨v4,rfl,ho0,hb⟩;refine ⟨_,rfl,?_⟩;have HO5:=a0_ (Kd.S_lower ho0 (below_size hbw_));replace BK1:=kb_ BK1 hb;replace HB:=a0_ (below_step hbw_ hb);(try clear hb);(try clear ho0)))
  go_ret
  exact ⟨_,by first | rfl | (simp [errW_none,errW_some] <;> rfl) | (simp [*,errW_none,errW_some] <;> rfl),by (with_reducible repeat (first | apply Kd.S_alloc | apply Kd.S_drewN | apply Kd.S_drew));exact HO5.out,hbw_⟩
 ·replace c4:=Bool.eq_false_iff.mpr c4
  subst c4
  have H1 : (some ([] : List (List (S55)))) = some r:=by rw [if_neg (show ¬ (false = true) by decide)] at H;exact H
  clear H
  have H:=H1
  clear H1
  obtain rfl:=Option.some.inj H
  go_enter Try.func24,Try.ntmps24
  go_wp2_with (first | ((with_reducible refine gate_dst (N:=2) rfl ?_);refine box_event ?hg (N:=2) ?hd (cs:=#[.slice A0_0 l0_0.length c0_0]) (t:=32) ?hr ?_;(case hd=>rfl);(case hg=>rfl);(case hr=>first | (go_simp;done) | (go_simp;rfl));intro gb1 hg w10 hbox hb;have BK1:=a0_ (hbox);have GW1:=a0_ ((by rw [hg];exact (below_size hbw_) : w.heap.size ≤ gb1));have GE1:=a0_ ((by rw [hg];exact (below_size hbw_) : w.heap.size ≤ gb1));replace HB:=a0_ (below_step hbw_ hb);clear hb hbox hg;have hcz11_0 : w10.cell? ⟨gb1,0,none⟩ = some (.slice A0_0 l0_0.length c0_0):=(blk_cell BK1.out 0).trans rfl;have hfz11_0:=blk_frozen BK1.out 0) | ((with_reducible refine gate_callee (f:=31) rfl ?_);refine goesL_ (some 7) rfl rfl Try.func31 (by kernel_rfl) rfl #[.agg #[.slice A0_0 l0_0.length c0_0],.slice A1 l1.length c1] rfl lm_ ?_;(with_reducible refine (impl_ValidGroup.calls k _ _ l0_0 _ _ l1 false _ ?side1 ?side2 ?side3 ?side4 A3.out).mono ?_);(case side1=>exact cc_ (Kd.C_below HR0_0.out HB.out));(case side2=>exact HC0_0.out);(case side3=>exact cc_ (Kd.C_below HR1.out HB.out));(case side4=>exact HC1.out);rintro e w12 ⟨rfl,hb⟩;refine ⟨_,rfl,?_⟩;replace BK1:=kb_ BK1 hb;replace HB:=a0_ (below_step hbw_ hb);(try clear hb);(try clear hb2);(try clear hk);(try clear hi)))
  go_ret
  exact ⟨_,by first | rfl | (simp [errW_none,errW_some] <;> rfl) | (simp [*,errW_none,errW_some] <;> rfl),by first | exact Kd.S_nil _ _ _ _ _ | exact Kd.N_nil _ _ _ _ _ | exact Kd.V_nil _ _ _ _ _ | exact Kd.Q_nil _ _ _ _ _ | exact Kd.R_nil _ _ _ _ _,hbw_⟩
theorem impl_KidsOf_ev (t : List Cls) (g : List Prt) (ht : t.length ≤ 9223372036854775807) (hl : g.length ≤ 1048576) (hs : smT t = true) : Ev (fun k=>impl_KidsOf.f k t g) (kidP t g):=by
 refine Ev.bind (impl_ValidGroup_ev t g ht (by omega) hs) ?_
 unfold kidP
 cases hv : vG t g with
 | false=>exact Ev.neg (by simp) (Ev.const (by simp))
 | true =>
  obtain ⟨_,he,h16,_⟩:=vG_tre hv
  exact Ev.pos rfl (Ev.bind (impl_kids_ev g (by omega) (vG_tree hv).2.1 (fun p hp=>by have:=he p hp;omega)) (Ev.const (by simp)))
end Go.Proofs.Ytbglafibhopleaa.P
namespace Go.Proofs.Ytbglafibhopleaa.P
open Go.RowKit Go.Proofs.YtbglafibhopleaaW.PrintWords Go.Proofs.YtbglafibhopleaaW.PrintLast Go.Proofs.YtbglafibhopleaaW.PrintMore
attribute [local go_sem] max2_int min2_int max_two min_two max_three min_three max_four min_four
set_option linter.unusedVariables false
set_option linter.unusedSimpArgs false
def laws_heldPartS.l0 : Nat → List (S55) → Int → Int → Option (Int)
 | 0,_,_,_=>none
 | k + 1,x0,x1,x5=>if x5 < (x0.length : Int) then (if 0 ≤ x5 then (if ((rd_T55 x0 x5).f0) = x1 then (if (((rd_T55 x0 x5).f1) != ((Int.tmod (wrap64 (x1 + 1)) 3) == 0)) = true then (some (-1)) else (if ((rd_T55 x0 x5).f2) = (wrap64 ((wrap64 (x1 + 1)) + 1)) then (if ((rd_T55 x0 x5).f3) = (wrap64 ((wrap64 ((wrap64 (x1 + 1)) + 1)) + 1)) then (laws_heldPartS.l0 k x0 (wrap64 ((wrap64 ((wrap64 ((wrap64 (x1 + 1)) + 1)) + 1)) + 1)) (wrap64 (x5 + 1))) else (some (-1))) else (some (-1)))) else (some (-1))) else (none)) else (some x1)
def laws_heldPartS.f (k : Nat) (l0 : List (S55)) (a1 : Int) : Option (Int):=laws_heldPartS.l0 k l0 a1 0
theorem laws_heldPartS.mono_l : ∀ k,(∀ y0 y1 y2,LeO (laws_heldPartS.l0 k y0 y1 y2) (laws_heldPartS.l0 (k + 1) y0 y1 y2))
 | 0=>fun _ _ _ r h=>by simp [laws_heldPartS.l0] at h
 | k + 1=>by
  have ih0:=laws_heldPartS.mono_l k
  ·intro y0 y1 y2
   unfold laws_heldPartS.l0
   repeat' first
   | (with_reducible exact ih0 _ _ _)
   | (with_reducible exact LeO.refl _)
   | (with_reducible exact LeO.none _)
   | (with_reducible refine LeO.ite ?_ ?_)
   | (with_reducible refine LeO.bind ?_ (fun _=>?_))
   | exact ih0 _ _ _
   | exact LeO.none _
   | refine LeO.ite ?_ ?_
   | refine LeO.bind ?_ (fun _=>?_)
theorem laws_heldPartS.mono : ∀ a0 a1 k,LeO (laws_heldPartS.f k a0 a1) (laws_heldPartS.f (k + 1) a0 a1):=by
 intro a0 a1 k
 have ih0:=laws_heldPartS.mono_l k
 unfold laws_heldPartS.f
 repeat' first
   | (with_reducible exact ih0 _ _ _)
   | (with_reducible exact LeO.refl _)
   | (with_reducible exact LeO.none _)
   | (with_reducible refine LeO.ite ?_ ?_)
   | (with_reducible refine LeO.bind ?_ (fun _=>?_))
   | exact ih0 _ _ _
   | exact LeO.none _
   | refine LeO.ite ?_ ?_
   | refine LeO.bind ?_ (fun _=>?_)
set_option maxHeartbeats 8000000 in
set_option maxRecDepth 100000 in
theorem laws_heldPartS.calls (k : Nat) (A0 : Option Addr) (c0 : Nat) (l0 : List (S55)) (a1 : Int) (r : Int) (w : World) (hr0 : Kd.C k55 w A0 l0.length l0) (hc0 : l0.length ≤ c0) (h : laws_heldPartS.f k l0 a1 = some r) :
  Calls Try.prog 16 #[.slice A0 l0.length c0,.int .i64 a1] w fun e w'=>e = .returned (.int .i64 r) ∧ Drawn0 w w':=by
 have HR0:=a0_ hr0
 have HC0:=a0_ hc0
 clear hr0 hc0
 have H : (laws_heldPartS.l0 k l0 a1 0) = some r:=h
 clear h
 have H':=a0_ H
 clear H
 go_enter Try.func16,Try.ntmps16
 go_wp2
 go_loopg [1,5] k (fun kq v1 v5 w'=>∃ (x1_1 : Int) (x5_1 : Int),v1 = .int .i64 x1_1 ∧ v5 = .int .i64 x5_1 ∧ Aside0 (laws_heldPartS.l0 kq l0 x1_1 x5_1 = some r) ∧ Aside0 (kq ≤ k) ∧ Drawn0 w w')
 case atStart=>exact ⟨(a1),(0),(by first | rfl | (simp;done) | (simp [*];done)),(by first | rfl | (simp;done) | (simp [*];done)),H',⟨Nat.le_refl _⟩,by repeat (first | exact Drawn0.refl _ | apply Drawn0.step)⟩
 case round =>
  clear H'
  try clear c1
  try clear p2
  obtain ⟨x1_1,x5_1,rfl,rfl,HA,HK1,⟨m1,rfl⟩⟩:=hrel
  cases gk with
  | zero=>exact absurd HA.out (by simp [laws_heldPartS.l0])
  | succ k1 =>
   have H:=HA.out
   clear HA
   simp only [laws_heldPartS.l0] at H
   by_cases c3 : x5_1 < (l0.length : Int)
   ·rw [if_pos c3] at H
    have c3b0 : decide (x5_1 < (l0.length : Int)) = true:=decide_eq_true c3
    clear c3
    by_cases c4 : 0 ≤ x5_1
    ·rw [if_pos c4] at H
     have c4b0 : decide (0 ≤ x5_1) = true:=decide_eq_true c4
     clear c4
     by_cases c5 : ((rd_T55 l0 x5_1).f0) = x1_1
     ·rw [if_pos c5] at H
      have c5b0 : (((rd_T55 l0 x5_1).f0) == x1_1) = true:=beq_iff_eq.mpr c5
      have c5b1 : (((rd_T55 l0 x5_1).f0) != x1_1) = false:=bne_eq_false_iff_eq.mpr c5
      clear c5
      by_cases c6 : (((rd_T55 l0 x5_1).f1) != ((Int.tmod (wrap64 (x1_1 + 1)) 3) == 0)) = true
      ·rw [if_pos c6] at H
       have c6b0 : (((rd_T55 l0 x5_1).f1) != ((Int.tmod (wrap64 (x1_1 + 1)) 3) == 0)) = true:=c6
       (try (have c6b1 : decide (((rd_T55 l0 x5_1).f1) = ((Int.tmod (wrap64 (x1_1 + 1)) 3) == 0)) = false:=by simpa using c6))
       (try (have c6b2 : (((rd_T55 l0 x5_1).f1) == ((Int.tmod (wrap64 (x1_1 + 1)) 3) == 0)) = false:=by simpa using c6))
       (try (have c6b3 : ¬ (((rd_T55 l0 x5_1).f1) = ((Int.tmod (wrap64 (x1_1 + 1)) 3) == 0)):=by simpa using c6))
       clear c6
       obtain rfl:=Option.some.inj H
       have p1 : 0 ≤ (x5_1 : Int):=of_decide_eq_true (by first | (with_reducible assumption) | assumption)
       have q1 : x5_1 < (l0.length : Int):=of_decide_eq_true (by first | (with_reducible assumption) | assumption)
       obtain ⟨ad1,e1,hx1_0,hx1_1,hx1_2,hx1_3⟩:=at_T55 HR0.out x5_1 p1 q1
       cases e1
       replace p1:=eq_true p1
       replace q1:=eq_true q1
       have p2 : 0 ≤ (x5_1 : Int):=of_decide_eq_true (by first | (with_reducible assumption) | assumption)
       have q2 : x5_1 < (l0.length : Int):=of_decide_eq_true (by first | (with_reducible assumption) | assumption)
       obtain ⟨ad2,e2,hx2_0,hx2_1,hx2_2,hx2_3⟩:=at_T55 HR0.out x5_1 p2 q2
       obtain rfl : ad1 = ad2:=(by injection e2)
       replace p2:=eq_true p2
       replace q2:=eq_true q2
       go_wp2
       go_ret
       exact ⟨by first | rfl | (simp;done) | (simp [*];done),by repeat (first | exact Drawn0.refl _ | apply Drawn0.step)⟩
      ·rw [if_neg c6] at H
       have c6b0 : (((rd_T55 l0 x5_1).f1) != ((Int.tmod (wrap64 (x1_1 + 1)) 3) == 0)) = false:=by simpa using c6
       (try (have c6b1 : decide (((rd_T55 l0 x5_1).f1) = ((Int.tmod (wrap64 (x1_1 + 1)) 3) == 0)) = true:=by simpa using c6))
       (try (have c6b2 : (((rd_T55 l0 x5_1).f1) == ((Int.tmod (wrap64 (x1_1 + 1)) 3) == 0)) = true:=by simpa using c6))
       clear c6
       by_cases c7 : ((rd_T55 l0 x5_1).f2) = (wrap64 ((wrap64 (x1_1 + 1)) + 1))
       ·rw [if_pos c7] at H
        have c7b0 : (((rd_T55 l0 x5_1).f2) == (wrap64 ((wrap64 (x1_1 + 1)) + 1))) = true:=beq_iff_eq.mpr c7
        have c7b1 : (((rd_T55 l0 x5_1).f2) != (wrap64 ((wrap64 (x1_1 + 1)) + 1))) = false:=bne_eq_false_iff_eq.mpr c7
        clear c7
        by_cases c8 : ((rd_T55 l0 x5_1).f3) = (wrap64 ((wrap64 ((wrap64 (x1_1 + 1)) + 1)) + 1))
        ·rw [if_pos c8] at H
         have c8b0 : (((rd_T55 l0 x5_1).f3) == (wrap64 ((wrap64 ((wrap64 (x1_1 + 1)) + 1)) + 1))) = true:=beq_iff_eq.mpr c8
         have c8b1 : (((rd_T55 l0 x5_1).f3) != (wrap64 ((wrap64 ((wrap64 (x1_1 + 1)) + 1)) + 1))) = false:=bne_eq_false_iff_eq.mpr c8
         clear c8
         have H':=a0_ H
         clear H
         have p1 : 0 ≤ (x5_1 : Int):=of_decide_eq_true (by first | (with_reducible assumption) | assumption)
         have q1 : x5_1 < (l0.length : Int):=of_decide_eq_true (by first | (with_reducible assumption) | assumption)
         obtain ⟨ad1,e1,hx1_0,hx1_1,hx1_2,hx1_3⟩:=at_T55 HR0.out x5_1 p1 q1
         cases e1
         replace p1:=eq_true p1
         replace q1:=eq_true q1
         have p2 : 0 ≤ (x5_1 : Int):=of_decide_eq_true (by first | (with_reducible assumption) | assumption)
         have q2 : x5_1 < (l0.length : Int):=of_decide_eq_true (by first | (with_reducible assumption) | assumption)
         obtain ⟨ad2,e2,hx2_0,hx2_1,hx2_2,hx2_3⟩:=at_T55 HR0.out x5_1 p2 q2
         obtain rfl : ad1 = ad2:=(by injection e2)
         replace p2:=eq_true p2
         replace q2:=eq_true q2
         have p3 : 0 ≤ (x5_1 : Int):=of_decide_eq_true (by first | (with_reducible assumption) | assumption)
         have q3 : x5_1 < (l0.length : Int):=of_decide_eq_true (by first | (with_reducible assumption) | assumption)
         obtain ⟨ad3,e3,hx3_0,hx3_1,hx3_2,hx3_3⟩:=at_T55 HR0.out x5_1 p3 q3
         obtain rfl : ad1 = ad3:=(by injection e3)
         replace p3:=eq_true p3
         replace q3:=eq_true q3
         have p4 : 0 ≤ (x5_1 : Int):=of_decide_eq_true (by first | (with_reducible assumption) | assumption)
         have q4 : x5_1 < (l0.length : Int):=of_decide_eq_true (by first | (with_reducible assumption) | assumption)
         obtain ⟨ad4,e4,hx4_0,hx4_1,hx4_2,hx4_3⟩:=at_T55 HR0.out x5_1 p4 q4
         obtain rfl : ad1 = ad4:=(by injection e4)
         replace p4:=eq_true p4
         replace q4:=eq_true q4
         go_wp2
         go_roundg k1
         case measure=>have:=HK1.out;omega
         case rel=>exact ⟨(wrap64 ((wrap64 ((wrap64 ((wrap64 (x1_1 + 1)) + 1)) + 1)) + 1)),(wrap64 (x5_1 + 1)),(by first | rfl | (simp;done) | (simp [*];done)),(by first | rfl | (simp;done) | (simp [*];done)),H',⟨by have:=HK1.out;omega⟩,by repeat (first | exact Drawn0.refl _ | apply Drawn0.step)⟩
        ·rw [if_neg c8] at H
         have c8b0 : (((rd_T55 l0 x5_1).f3) == (wrap64 ((wrap64 ((wrap64 (x1_1 + 1)) + 1)) + 1))) = false:=beq_eq_false_iff_ne.mpr c8
         have c8b1 : (((rd_T55 l0 x5_1).f3) != (wrap64 ((wrap64 ((wrap64 (x1_1 + 1)) + 1)) + 1))) = true:=bne_iff_ne.mpr c8
         obtain rfl:=Option.some.inj H
         have p1 : 0 ≤ (x5_1 : Int):=of_decide_eq_true (by first | (with_reducible assumption) | assumption)
         have q1 : x5_1 < (l0.length : Int):=of_decide_eq_true (by first | (with_reducible assumption) | assumption)
         obtain ⟨ad1,e1,hx1_0,hx1_1,hx1_2,hx1_3⟩:=at_T55 HR0.out x5_1 p1 q1
         cases e1
         replace p1:=eq_true p1
         replace q1:=eq_true q1
         have p2 : 0 ≤ (x5_1 : Int):=of_decide_eq_true (by first | (with_reducible assumption) | assumption)
         have q2 : x5_1 < (l0.length : Int):=of_decide_eq_true (by first | (with_reducible assumption) | assumption)
         obtain ⟨ad2,e2,hx2_0,hx2_1,hx2_2,hx2_3⟩:=at_T55 HR0.out x5_1 p2 q2
         obtain rfl : ad1 = ad2:=(by injection e2)
         replace p2:=eq_true p2
         replace q2:=eq_true q2
         have p3 : 0 ≤ (x5_1 : Int):=of_decide_eq_true (by first | (with_reducible assumption) | assumption)
         have q3 : x5_1 < (l0.length : Int):=of_decide_eq_true (by first | (with_reducible assumption) | assumption)
         obtain ⟨ad3,e3,hx3_0,hx3_1,hx3_2,hx3_3⟩:=at_T55 HR0.out x5_1 p3 q3
         obtain rfl : ad1 = ad3:=(by injection e3)
         replace p3:=eq_true p3
         replace q3:=eq_true q3
         have p4 : 0 ≤ (x5_1 : Int):=of_decide_eq_true (by first | (with_reducible assumption) | assumption)
         have q4 : x5_1 < (l0.length : Int):=of_decide_eq_true (by first | (with_reducible assumption) | assumption)
         obtain ⟨ad4,e4,hx4_0,hx4_1,hx4_2,hx4_3⟩:=at_T55 HR0.out x5_1 p4 q4
         obtain rfl : ad1 = ad4:=(by injection e4)
         replace p4:=eq_true p4
         replace q4:=eq_true q4
         go_wp2
         go_ret
         exact ⟨by first | rfl | (simp;done) | (simp [*];done),by repeat (first | exact Drawn0.refl _ | apply Drawn0.step)⟩
       ·rw [if_neg c7] at H
        have c7b0 : (((rd_T55 l0 x5_1).f2) == (wrap64 ((wrap64 (x1_1 + 1)) + 1))) = false:=beq_eq_false_iff_ne.mpr c7
        have c7b1 : (((rd_T55 l0 x5_1).f2) != (wrap64 ((wrap64 (x1_1 + 1)) + 1))) = true:=bne_iff_ne.mpr c7
        obtain rfl:=Option.some.inj H
        have p1 : 0 ≤ (x5_1 : Int):=of_decide_eq_true (by first | (with_reducible assumption) | assumption)
        have q1 : x5_1 < (l0.length : Int):=of_decide_eq_true (by first | (with_reducible assumption) | assumption)
        obtain ⟨ad1,e1,hx1_0,hx1_1,hx1_2,hx1_3⟩:=at_T55 HR0.out x5_1 p1 q1
        cases e1
        replace p1:=eq_true p1
        replace q1:=eq_true q1
        have p2 : 0 ≤ (x5_1 : Int):=of_decide_eq_true (by first | (with_reducible assumption) | assumption)
        have q2 : x5_1 < (l0.length : Int):=of_decide_eq_true (by first | (with_reducible assumption) | assumption)
        obtain ⟨ad2,e2,hx2_0,hx2_1,hx2_2,hx2_3⟩:=at_T55 HR0.out x5_1 p2 q2
        obtain rfl : ad1 = ad2:=(by injection e2)
        replace p2:=eq_true p2
        replace q2:=eq_true q2
        have p3 : 0 ≤ (x5_1 : Int):=of_decide_eq_true (by first | (with_reducible assumption) | assumption)
        have q3 : x5_1 < (l0.length : Int):=of_decide_eq_true (by first | (with_reducible assumption) | assumption)
        obtain ⟨ad3,e3,hx3_0,hx3_1,hx3_2,hx3_3⟩:=at_T55 HR0.out x5_1 p3 q3
        obtain rfl : ad1 = ad3:=(by injection e3)
        replace p3:=eq_true p3
        replace q3:=eq_true q3
        go_wp2
        go_ret
        exact ⟨by first | rfl | (simp;done) | (simp [*];done),by repeat (first | exact Drawn0.refl _ | apply Drawn0.step)⟩
     ·rw [if_neg c5] at H
      have c5b0 : (((rd_T55 l0 x5_1).f0) == x1_1) = false:=beq_eq_false_iff_ne.mpr c5
      have c5b1 : (((rd_T55 l0 x5_1).f0) != x1_1) = true:=bne_iff_ne.mpr c5
      obtain rfl:=Option.some.inj H
      have p1 : 0 ≤ (x5_1 : Int):=of_decide_eq_true (by first | (with_reducible assumption) | assumption)
      have q1 : x5_1 < (l0.length : Int):=of_decide_eq_true (by first | (with_reducible assumption) | assumption)
      obtain ⟨ad1,e1,hx1_0,hx1_1,hx1_2,hx1_3⟩:=at_T55 HR0.out x5_1 p1 q1
      cases e1
      replace p1:=eq_true p1
      replace q1:=eq_true q1
      go_wp2
      go_ret
      exact ⟨by first | rfl | (simp;done) | (simp [*];done),by repeat (first | exact Drawn0.refl _ | apply Drawn0.step)⟩
    ·rw [if_neg c4] at H
     exact absurd H (by simp)
   ·rw [if_neg c3] at H
    have c3b0 : decide (x5_1 < (l0.length : Int)) = false:=decide_eq_false c3
    clear c3
    obtain rfl:=Option.some.inj H
    go_wp2
    go_ret
    exact ⟨by first | rfl | (simp;done) | (simp [*];done),by repeat (first | exact Drawn0.refl _ | apply Drawn0.step)⟩
theorem laws_heldPartS_ev (a : Int) (n : Nat) (h0 : 0 ≤ a) (hl : a + 4 * n ≤ 4611686018427387904) : Ev (fun k=>laws_heldPartS.f k (marksPart a n) a) (a + 4 * n):=by
 have h:=st_loop (fun k (s : Int) i=>laws_heldPartS.l0 k (marksPart a n) s i) n (fun i=>a + 4 * (i : Int)) (a + 4 * n) (by
  intro k i hi
  have hr : rd_T55 (marksPart a n) (i : Int) = mkPart (a + 4 * (i : Int)):=by simp [rd_T55,marksPart,hi]
  simp only [laws_heldPartS.l0,hr]
  generalize hb : a + 4 * (i : Int) = b
  have hb2 : a + 4 * ((i + 1 : Nat) : Int) = b + 1 + 1 + 1 + 1:=by omega
  rw [marksPart_len,if_pos (by omega),if_pos (by omega),wrap_succ (i:=(i : Int)) (n:=n) (by omega) (by omega) (by omega),wrap_in (i:=b + 1) (by omega) (by omega),wrap_in (i:=b + 1 + 1) (by omega) (by omega),wrap_in (i:=b + 1 + 1 + 1) (by omega) (by omega),wrap_in (i:=b + 1 + 1 + 1 + 1) (by omega) (by omega),hb2]
  simp [mkPart]) (by
  intro k
  simp only [laws_heldPartS.l0]
  rw [marksPart_len,if_neg (by omega)])
 refine Ev.of_mono (laws_heldPartS.mono (marksPart a n) a) (K:=n + 1) ?_
 unfold laws_heldPartS.f
 simpa using h
end Go.Proofs.Ytbglafibhopleaa.P
namespace Go.Proofs.Ytbglafibhopleaa.P
open Go.RowKit Go.Proofs.YtbglafibhopleaaW.PrintWords Go.Proofs.YtbglafibhopleaaW.PrintLast Go.Proofs.YtbglafibhopleaaW.PrintMore
attribute [local go_sem] max2_int min2_int max_two min_two max_three min_three max_four min_four
set_option linter.unusedVariables false
set_option linter.unusedSimpArgs false
def laws_heldPartSS.l0 : Nat → List (List (S55)) → Int → Int → Option (Int)
 | 0,_,_,_=>none
 | k + 1,x0,x1,x5=>if x5 < (x0.length : Int) then (if 0 ≤ x5 then ((laws_heldPartS.f k (rd_L9 x0 x5) x1).bind fun t2=>(if t2 < 0 then (some (-1)) else (laws_heldPartSS.l0 k x0 t2 (wrap64 (x5 + 1))))) else (none)) else (some x1)
def laws_heldPartSS.f (k : Nat) (l0 : List (List (S55))) (a1 : Int) : Option (Int):=laws_heldPartSS.l0 k l0 a1 0
theorem laws_heldPartSS.mono_l : ∀ k,(∀ y0 y1 y2,LeO (laws_heldPartSS.l0 k y0 y1 y2) (laws_heldPartSS.l0 (k + 1) y0 y1 y2))
 | 0=>fun _ _ _ r h=>by simp [laws_heldPartSS.l0] at h
 | k + 1=>by
  have ih0:=laws_heldPartSS.mono_l k
  ·intro y0 y1 y2
   unfold laws_heldPartSS.l0
   repeat' first
   | (with_reducible exact ih0 _ _ _)
   | (with_reducible exact laws_heldPartS.mono _ _ _)
   | (with_reducible exact LeO.refl _)
   | (with_reducible exact LeO.none _)
   | (with_reducible refine LeO.ite ?_ ?_)
   | (with_reducible refine LeO.bind ?_ (fun _=>?_))
   | exact ih0 _ _ _
   | exact laws_heldPartS.mono _ _ _
   | exact LeO.none _
   | refine LeO.ite ?_ ?_
   | refine LeO.bind ?_ (fun _=>?_)
theorem laws_heldPartSS.mono : ∀ a0 a1 k,LeO (laws_heldPartSS.f k a0 a1) (laws_heldPartSS.f (k + 1) a0 a1):=by
 intro a0 a1 k
 have ih0:=laws_heldPartSS.mono_l k
 unfold laws_heldPartSS.f
 repeat' first
   | (with_reducible exact ih0 _ _ _)
   | (with_reducible exact laws_heldPartS.mono _ _ _)
   | (with_reducible exact LeO.refl _)
   | (with_reducible exact LeO.none _)
   | (with_reducible refine LeO.ite ?_ ?_)
   | (with_reducible refine LeO.bind ?_ (fun _=>?_))
   | exact ih0 _ _ _
   | exact laws_heldPartS.mono _ _ _
   | exact LeO.none _
   | refine LeO.ite ?_ ?_
   | refine LeO.bind ?_ (fun _=>?_)
set_option maxHeartbeats 8000000 in
set_option maxRecDepth 100000 in
theorem laws_heldPartSS.calls (k : Nat) (A0 : Option Addr) (c0 : Nat) (l0 : List (List (S55))) (a1 : Int) (r : Int) (w : World) (hr0 : Kd.C (Kd.slice 55 k55) w A0 l0.length l0) (hc0 : l0.length ≤ c0) (h : laws_heldPartSS.f k l0 a1 = some r) :
  Calls Try.prog 25 #[.slice A0 l0.length c0,.int .i64 a1] w fun e w'=>e = .returned (.int .i64 r) ∧ Drawn0 w w':=by
 have HR0:=a0_ hr0
 have HC0:=a0_ hc0
 clear hr0 hc0
 have H : (laws_heldPartSS.l0 k l0 a1 0) = some r:=h
 clear h
 have H':=a0_ H
 clear H
 go_enter Try.func25,Try.ntmps25
 go_wp2
 go_loopg [1,5] k (fun kq v1 v5 w'=>∃ (x1_1 : Int) (x5_1 : Int),v1 = .int .i64 x1_1 ∧ v5 = .int .i64 x5_1 ∧ Aside0 (laws_heldPartSS.l0 kq l0 x1_1 x5_1 = some r) ∧ Aside0 (kq ≤ k) ∧ Drawn0 w w')
 case atStart=>exact ⟨(a1),(0),(by first | rfl | (simp;done) | (simp [*];done)),(by first | rfl | (simp;done) | (simp [*];done)),H',⟨Nat.le_refl _⟩,by repeat (first | exact Drawn0.refl _ | apply Drawn0.step)⟩
 case round =>
  clear H'
  try clear c2
  try clear p2
  obtain ⟨x1_1,x5_1,rfl,rfl,HA,HK1,⟨m1,rfl⟩⟩:=hrel
  cases gk with
  | zero=>exact absurd HA.out (by simp [laws_heldPartSS.l0])
  | succ k1 =>
   have H:=HA.out
   clear HA
   simp only [laws_heldPartSS.l0] at H
   by_cases c3 : x5_1 < (l0.length : Int)
   ·rw [if_pos c3] at H
    have c3b0 : decide (x5_1 < (l0.length : Int)) = true:=decide_eq_true c3
    clear c3
    by_cases c4 : 0 ≤ x5_1
    ·rw [if_pos c4] at H
     have c4b0 : decide (0 ≤ x5_1) = true:=decide_eq_true c4
     clear c4
     replace H:=Option.bind_eq_some_iff.mp H
     obtain ⟨t2,A50,H⟩:=H
     try dsimp only at H
     have A5:=a0_ A50
     clear A50
     by_cases c6 : t2 < 0
     ·rw [if_pos c6] at H
      have c6b0 : decide (t2 < 0) = true:=decide_eq_true c6
      clear c6
      obtain rfl:=Option.some.inj H
      have p1 : 0 ≤ (x5_1 : Int):=of_decide_eq_true (by first | (with_reducible assumption) | assumption)
      have q1 : x5_1 < (l0.length : Int):=of_decide_eq_true (by first | (with_reducible assumption) | assumption)
      obtain ⟨ad1,A1_0,c1_0,e1,hx1_0,hl1_0,hi1_0⟩:=at_L9 HR0.out x5_1 p1 q1
      cases e1
      have HR1_0:=a0_ hi1_0
      have HC1_0:=a0_ hl1_0
      clear hi1_0 hl1_0
      replace p1:=eq_true p1
      replace q1:=eq_true q1
      go_wp2_with (first | ((with_reducible refine gate_callee (f:=16) rfl ?_);refine goesL_ (some 17) rfl rfl Try.func16 (by kernel_rfl) rfl #[.slice A1_0 (rd_L9 l0 x5_1).length c1_0,.int .i64 x1_1] rfl lm_ ?_;(with_reducible refine (laws_heldPartS.calls k1 _ _ (rd_L9 l0 x5_1) x1_1 t2 _ ?side1 ?side2 A5.out).mono ?_);(case side1=>repeat (first | exact HR1_0.out | (with_reducible refine Kd.C_alloc ?_ _) | (with_reducible refine Kd.C_drewN ?_ _) | (with_reducible refine Kd.C_drew ?_)));(case side2=>exact HC1_0.out);rintro e w' ⟨rfl,⟨nd,rfl⟩⟩;refine ⟨_,rfl,?_⟩))
      go_ret
      exact ⟨by first | rfl | (simp;done) | (simp [*];done),by repeat (first | exact Drawn0.refl _ | apply Drawn0.step)⟩
     ·rw [if_neg c6] at H
      have c6b0 : decide (t2 < 0) = false:=decide_eq_false c6
      clear c6
      have H':=a0_ H
      clear H
      have p1 : 0 ≤ (x5_1 : Int):=of_decide_eq_true (by first | (with_reducible assumption) | assumption)
      have q1 : x5_1 < (l0.length : Int):=of_decide_eq_true (by first | (with_reducible assumption) | assumption)
      obtain ⟨ad1,A1_0,c1_0,e1,hx1_0,hl1_0,hi1_0⟩:=at_L9 HR0.out x5_1 p1 q1
      cases e1
      have HR1_0:=a0_ hi1_0
      have HC1_0:=a0_ hl1_0
      clear hi1_0 hl1_0
      replace p1:=eq_true p1
      replace q1:=eq_true q1
      go_wp2_with (first | ((with_reducible refine gate_callee (f:=16) rfl ?_);refine goesL_ (some 17) rfl rfl Try.func16 (by kernel_rfl) rfl #[.slice A1_0 (rd_L9 l0 x5_1).length c1_0,.int .i64 x1_1] rfl lm_ ?_;(with_reducible refine (laws_heldPartS.calls k1 _ _ (rd_L9 l0 x5_1) x1_1 t2 _ ?side1 ?side2 A5.out).mono ?_);(case side1=>repeat (first | exact HR1_0.out | (with_reducible refine Kd.C_alloc ?_ _) | (with_reducible refine Kd.C_drewN ?_ _) | (with_reducible refine Kd.C_drew ?_)));(case side2=>exact HC1_0.out);rintro e w' ⟨rfl,⟨nd,rfl⟩⟩;refine ⟨_,rfl,?_⟩))
      go_roundg k1
      case measure=>have:=HK1.out;omega
      case rel=>exact ⟨(t2),(wrap64 (x5_1 + 1)),(by first | rfl | (simp;done) | (simp [*];done)),(by first | rfl | (simp;done) | (simp [*];done)),H',⟨by have:=HK1.out;omega⟩,by repeat (first | exact Drawn0.refl _ | apply Drawn0.step)⟩
    ·rw [if_neg c4] at H
     exact absurd H (by simp)
   ·rw [if_neg c3] at H
    have c3b0 : decide (x5_1 < (l0.length : Int)) = false:=decide_eq_false c3
    clear c3
    obtain rfl:=Option.some.inj H
    go_wp2
    go_ret
    exact ⟨by first | rfl | (simp;done) | (simp [*];done),by repeat (first | exact Drawn0.refl _ | apply Drawn0.step)⟩
theorem laws_heldPartSS_l0 : ∀ (suf : List (List S55)) (pre : List (List S55)) (a : Int),0 ≤ a → a + 4 * (suf.flatten.length : Int) ≤ 4611686018427387904 → pre.length + suf.length ≤ 4611686018427387904 → Ev (fun k=>laws_heldPartSS.l0 k (pre ++ marksPS a suf) a (pre.length : Int)) (a + 4 * (suf.flatten.length : Int)):=by
 intro suf
 induction suf with
 | nil =>
  intro pre a h0 hl hn
  refine Ev.succ ?_
  simp only [laws_heldPartSS.l0]
  exact Ev.neg (by simp [marksPS]) (Ev.const (by simp))
 | cons x suf ih =>
  intro pre a h0 hl hn
  rw [List.flatten_cons,List.length_append] at hl ⊢
  rw [List.length_cons] at hn
  have hg : (pre ++ marksPS a (x :: suf)).getD ((pre.length : Int)).toNat [] = marksPart a x.length:=by
   rw [Int.toNat_natCast,List.getD_eq_getElem?_getD,List.getElem?_append_right (Nat.le_refl _),Nat.sub_self]
   rfl
  have hi:=ih (pre ++ [marksPart a x.length]) (a + 4 * (x.length : Int)) (by omega) (by omega) (by rw [List.length_append,List.length_singleton];omega)
  have hh:=laws_heldPartS_ev a x.length h0 (by omega)
  rw [← hg] at hh
  refine Ev.succ ?_
  simp only [laws_heldPartSS.l0]
  refine Ev.pos (by rw [List.length_append,marksPS_len,List.length_cons];omega) ?_
  refine Ev.pos (by omega) ?_
  refine Ev.bind hh ?_
  refine Ev.neg (by omega) ?_
  rw [wrap_in (by omega) (by omega)]
  rw [List.length_append,List.length_singleton,List.append_assoc] at hi
  rw [show a + 4 * ((x.length + suf.flatten.length : Nat) : Int) = a + 4 * (x.length : Int) + 4 * (suf.flatten.length : Int) by omega]
  exact hi
theorem laws_heldPartSS_ev (l : List (List S55)) (a : Int) (h0 : 0 ≤ a) (hl : a + 4 * (l.flatten.length : Int) ≤ 4611686018427387904) (hn : l.length ≤ 4611686018427387904) : Ev (fun k=>laws_heldPartSS.f k (marksPS a l) a) (a + 4 * (l.flatten.length : Int)):=by
 have:=laws_heldPartSS_l0 l [] a h0 hl (by simpa using hn)
 exact this
end Go.Proofs.Ytbglafibhopleaa.P
namespace Go.Proofs.Ytbglafibhopleaa.P
open Go.RowKit Go.Proofs.YtbglafibhopleaaW.PrintWords Go.Proofs.YtbglafibhopleaaW.PrintLast Go.Proofs.YtbglafibhopleaaW.PrintMore
attribute [local go_sem] max2_int min2_int max_two min_two max_three min_three max_four min_four
set_option linter.unusedVariables false
set_option linter.unusedSimpArgs false
theorem iv_R {α : Type} {d : Kd α} {e : Nat} {w W : World} {b : Nat} {v : Value} {xs : List α} {ok : Nat → Prop} (ho : d.R e W w.heap.size ok v xs) (hb : b ≤ w.heap.size) {lo hi : Nat} (hlo : lo = w.heap.size) (hhi : hi = W.heap.size) : d.R e W b (fun k=>lo ≤ k ∧ k < hi) v xs :=
 Kd.R_lower (Kd.R_mono (Kd.R_bound ho) (fun k hk=>⟨by rw [hlo];exact hk.2.1,by rw [hhi];exact hk.2.2.1⟩)) hb
theorem iv_S {α : Type} {d : Kd α} {e : Nat} {w W : World} {b : Nat} {v : Value} {xs : List α} {ok : Nat → Prop} (ho : Kd.S d e W w.heap.size ok v xs) (hb : b ≤ w.heap.size) {lo hi : Nat} (hlo : lo = w.heap.size) (hhi : hi = W.heap.size) : Kd.S d e W b (fun k=>lo ≤ k ∧ k < hi) v xs :=
 Kd.S_lower (Kd.S_mono (Kd.S_bound ho) (fun k hk=>⟨by rw [hlo];exact hk.2.1,by rw [hhi];exact hk.2.2.1⟩)) hb
def laws_FnExactKidsOf.f (k : Nat) (l0_0 : List (S67)) (l1 : List (S57)) : Option Bool:=if l0_0.all (fun x=>decide (x.f0.size ≤ 9223372036854775807)) = true then some true else none
set_option maxHeartbeats 8000000 in
set_option maxRecDepth 100000 in
theorem laws_FnExactKidsOf.calls (k : Nat) (A0_0 : Option Addr) (c0_0 : Nat) (l0_0 : List (S67)) (A1 : Option Addr) (c1 : Nat) (l1 : List (S57)) (r : Bool) (w : World) (hr0_0 : Kd.C k67 w A0_0 l0_0.length l0_0) (hc0_0 : l0_0.length ≤ c0_0) (hr1 : Kd.C k57 w A1 l1.length l1) (hc1 : l1.length ≤ c1) (h : laws_FnExactKidsOf.f k l0_0 l1 = some r) :
  Calls Try.prog 5 #[.agg #[.slice A0_0 l0_0.length c0_0],.slice A1 l1.length c1] w fun e w'=>e = .returned (.bool r) ∧ Below w.heap.size w w':=by
 have hgood : ∀ x ∈ l0_0,x.f0.size ≤ 9223372036854775807:=by
  apply Classical.byContradiction
  intro hn
  rw [laws_FnExactKidsOf.f,if_neg (fun h_=>hn (fun x hx=>of_decide_eq_true (List.all_eq_true.1 h_ x hx)))] at h
  cases h
 obtain rfl : r = true:=by
  rw [laws_FnExactKidsOf.f,if_pos (List.all_eq_true.2 (fun x hx=>decide_eq_true (hgood x hx)))] at h
  exact (Option.some.inj h).symm
 clear h
 obtain ⟨v0,hv0,hg0⟩:=laws_szTree_ev l0_0 1048576 (by omega) (by omega) hr0_0.2.1 hgood
 obtain ⟨q6,E6⟩:=Ev.out hv0
 replace E6:=a0_ E6
 have HR0:=a0_ hr0_0
 have HC0:=a0_ hc0_0
 have HR1:=a0_ hr1
 have HC1:=a0_ hc1
 have hl1m:=hr1.2.1
 clear hr0_0 hr1 hc0_0 hc1 hgood hv0
 have BT:=a0_ (heap_new1 w (.cells #[.slice A0_0 l0_0.length c0_0] 24))
 have HB:=a0_ (below1 w (.cells #[.slice A0_0 l0_0.length c0_0] 24))
 have HN:=a0_ (show w.heap.size + 1 ≤ (World.heap (World.alloc w (.cells #[.slice A0_0 l0_0.length c0_0] 24))).size by simp)
 have hcT : (World.alloc w (.cells #[.slice A0_0 l0_0.length c0_0] 24)).cell? ⟨w.heap.size,0,none⟩ = some (.slice A0_0 l0_0.length c0_0):=(blk_cell BT.out 0).trans rfl
 have hu1_:=Try.underlying24
 have hu2_:=Try.underlying32
 go_enter Try.func5,Try.ntmps5
 go_wp2_with (fail)
 clear hcT
 refine (laws_szTree.calls q6 A0_0 c0_0 l0_0 1048576 v0 _ (Kd.C_below HR0.out HB.out) HC0.out E6.out).mono ?_
 rintro e w1_ ⟨rfl,hb⟩
 replace BT:=a0_ (blk_keptB BT.out hb)
 replace HB:=a0_ (below_step HB.out hb)
 replace HN:=a0_ (Nat.le_trans HN.out hb.size)
 clear hb
 have hcT : w1_.cell? ⟨w.heap.size,0,none⟩ = some (.slice A0_0 l0_0.length c0_0):=(blk_cell BT.out 0).trans rfl
 by_cases hn0 : v0 < 0
 ·have hn0b:=eq_true hn0
  have hn0c : decide (v0 < 0) = true:=decide_eq_true hn0
  go_wp2
  go_ret
  exact ⟨rfl,HB.out⟩
 have hn0b:=eq_false hn0
 have hn0c : decide (v0 < 0) = false:=decide_eq_false hn0
 obtain ⟨hva0,hl0,hs⟩:=hg0 (by omega)
 obtain ⟨v1,hv1,hg1⟩:=laws_szPartS_ev l1 v0 (by omega) (by omega) hl1m
 obtain ⟨q7,E7⟩:=Ev.out hv1
 replace E7:=a0_ E7
 clear hv1
 go_wp2_with (fail)
 clear hcT
 refine (laws_szPartS.calls A1 c1 l1 v0 v1 _ (Kd.C_below HR1.out HB.out) HC1.out E7.out).mono ?_
 rintro e w2_ ⟨rfl,hd⟩
 have hb:=hd.below
 clear hd
 replace BT:=a0_ (blk_keptB BT.out hb)
 replace HB:=a0_ (below_step HB.out hb)
 replace HN:=a0_ (Nat.le_trans HN.out hb.size)
 clear hb
 have hcT : w2_.cell? ⟨w.heap.size,0,none⟩ = some (.slice A0_0 l0_0.length c0_0):=(blk_cell BT.out 0).trans rfl
 by_cases hn1 : v1 < 0
 ·have hn1b:=eq_true hn1
  have hn1c : decide (v1 < 0) = true:=decide_eq_true hn1
  go_wp2
  go_ret
  exact ⟨rfl,HB.out⟩
 have hn1b:=eq_false hn1
 have hn1c : decide (v1 < 0) = false:=decide_eq_false hn1
 obtain ⟨hva1,hl1⟩:=hg1 (by omega)
 have hT0:=laws_toTree_ev l0_0 (by omega)
 have hm0 : (l0_0.map toC).length ≤ 1048576:=by rw [List.length_map];omega
 have hsm:=smT_of hs
 have hT1:=laws_toPartS_ev l1 (by omega)
 have hm1 : (l1.map toPart).length ≤ 1048576:=by rw [List.length_map];omega
 have hS:=spec_KidsOf_ev (l0_0.map toC) (l1.map toPart) (by omega) hsm
 have hG:=impl_KidsOf_ev (l0_0.map toC) (l1.map toPart) (by omega) (by omega) hsm
 have hrl:=kidP_len (l0_0.map toC) (l1.map toPart)
 obtain ⟨rr,hrr⟩ : ∃ r_ : List (List Prt),r_ = kidP (l0_0.map toC) (l1.map toPart):=⟨_,rfl⟩
 rw [← hrr] at hS hG hrl
 clear hrr
 have hfl : rr.flatten.length ≤ 1048576 * 1048576:=by
  have h1_:=flat_le 1048576 rr (fun x hx=>Nat.le_trans (hrl.2 x hx) hm1)
  have h2_ : 1048576 * rr.length ≤ 1048576 * 1048576:=Nat.mul_le_mul_left _ (Nat.le_trans hrl.1 hm1)
  omega
 obtain ⟨tt,htt⟩ : ∃ t_ : List Cls,t_ = l0_0.map toC:=⟨_,rfl⟩
 obtain ⟨gg,hgg⟩ : ∃ t_ : List Prt,t_ = l1.map toPart:=⟨_,rfl⟩
 rw [← htt] at hT0 hm0 hsm hS hG
 rw [← hgg] at hT1 hm1 hS hG hrl
 clear htt hgg
 have hEa:=laws_eqPartS_ev gg (by omega)
 have hEr:=laws_eqPartSS_ev rr (by omega) (fun x hx=>by have:=mem_flat_le hx;omega)
 obtain ⟨tt2,hM0⟩:=laws_markTree_ev tt 1 (by omega) (by omega)
 have hM1:=laws_markPartS_ev gg (1 + 2 * tt.length) (by omega) (by omega)
 have hM9:=laws_markPartSS_ev rr 1 (by omega) (by omega) (by omega)
 have hH:=laws_heldPartSS_ev rr 1 (by omega) (by omega) (by omega)
 have hEt:=laws_eqTree_ev tt (by omega)
 obtain ⟨q9,E9⟩:=Ev.out hT0
 replace E9:=a0_ E9
 obtain ⟨q10,E10⟩:=Ev.out hT1
 replace E10:=a0_ E10
 obtain ⟨q23,E23⟩:=Ev.out hS
 replace E23:=a0_ E23
 obtain ⟨q12,E12⟩:=Ev.out hEa
 replace E12:=a0_ E12
 obtain ⟨q21,E21⟩:=Ev.out hEr
 replace E21:=a0_ E21
 obtain ⟨q13,E13⟩:=Ev.out hEt
 replace E13:=a0_ E13
 obtain ⟨q14,E14⟩:=Ev.out hM0
 replace E14:=a0_ E14
 obtain ⟨q15,E15⟩:=Ev.out hM1
 replace E15:=a0_ E15
 obtain ⟨q22,E22⟩:=Ev.out hM9
 replace E22:=a0_ E22
 obtain ⟨q25,E25⟩:=Ev.out hH
 replace E25:=a0_ E25
 obtain ⟨q24,E24⟩:=Ev.out hG
 replace E24:=a0_ E24
 obtain ⟨m1_,hm1_⟩ : ∃ m_ : Int,m_ = 1 + 2 * (tt.length : Int) + 4 * (gg.length : Int):=⟨_,rfl⟩
 obtain ⟨m9_,hm9_⟩ : ∃ m_ : Int,m_ = 1 + 4 * (rr.flatten.length : Int):=⟨_,rfl⟩
 obtain ⟨a1_,ha1_⟩ : ∃ m_ : Int,m_ = 1 + 2 * (tt.length : Int):=⟨_,rfl⟩
 obtain ⟨gg2,hgg2⟩ : ∃ m_,m_ = marksPart (1 + 2 * (tt.length : Int)) gg.length:=⟨_,rfl⟩
 obtain ⟨rr2,hrr2⟩ : ∃ m_,m_ = marksPS 1 rr:=⟨_,rfl⟩
 have p1_ : ¬ m1_ < 0:=by omega
 have p9_ : ¬ m9_ < 0:=by omega
 have p1b:=eq_false p1_
 have p9b:=eq_false p9_
 have p1c : decide (m1_ < 0) = false:=decide_eq_false p1_
 have p9c : decide (m9_ < 0) = false:=decide_eq_false p9_
 rw [← hm1_,← hgg2,← ha1_] at E15
 rw [← ha1_] at E14
 rw [← hm9_,← hrr2] at E22
 rw [← hm9_,← hrr2] at E25
 clear hT0 hT1 hS hG hEa hEr hEt hM0 hM1 hM9 hH hm1_ hm9_ ha1_ hgg2 hrr2 hm0 hm1 hsm hs hl0 hl1 hva0 hva1 hg0 hg1 hn0 hn1 p1_ p9_ hrl hfl hl1m
 go_wp2_with (fail)
 clear hcT
 refine (laws_toTree.calls q9 A0_0 c0_0 l0_0 tt _ (Kd.C_below HR0.out HB.out) HC0.out E9.out).mono ?_
 rintro e w3_ ⟨v_,rfl,ho,hb⟩
 obtain ⟨At1,ct1,e_⟩:=Kd.R_slice ho
 subst e_
 obtain ⟨lot1,hlo⟩ : ∃ n_,n_ = (World.heap w2_).size:=⟨_,rfl⟩
 obtain ⟨hit1,hhi⟩ : ∃ n_,n_ = (World.heap w3_).size:=⟨_,rfl⟩
 have Nt1:=a0_ (show w.heap.size + 1 ≤ lot1 ∧ lot1 ≤ hit1 by have h1_:=HN.out;have h2_:=hb.size;omega)
 have Ht1:=a0_ (iv_R ho (below_size HB.out) hlo hhi)
 replace BT:=a0_ (blk_keptB BT.out hb)
 replace HB:=a0_ (below_step HB.out hb)
 replace HN:=a0_ (Nat.le_of_eq hhi)
 clear ho hb hlo hhi
 have hcT : w3_.cell? ⟨w.heap.size,0,none⟩ = some (.slice A0_0 l0_0.length c0_0):=(blk_cell BT.out 0).trans rfl
 go_wp2_with (fail)
 clear hcT
 refine (laws_toPartS.calls q10 A1 c1 l1 gg _ (Kd.C_below HR1.out HB.out) HC1.out E10.out).mono ?_
 rintro e w4_ ⟨v_,rfl,ho,hb⟩
 obtain ⟨Ap1,cp1,e_⟩:=Kd.R_slice ho
 subst e_
 obtain ⟨lop1,hlo⟩ : ∃ n_,n_ = (World.heap w3_).size:=⟨_,rfl⟩
 obtain ⟨hip1,hhi⟩ : ∃ n_,n_ = (World.heap w4_).size:=⟨_,rfl⟩
 have Np1:=a0_ (show hit1 ≤ lop1 ∧ lop1 ≤ hip1 by have h1_:=HN.out;have h2_:=hb.size;omega)
 have Hp1:=a0_ (iv_R ho (below_size HB.out) hlo hhi)
 replace Ht1:=a0_ (Kd.R_below Ht1.out hb)
 replace BT:=a0_ (blk_keptB BT.out hb)
 replace HB:=a0_ (below_step HB.out hb)
 replace HN:=a0_ (Nat.le_of_eq hhi)
 clear ho hb hlo hhi
 have hcT : w4_.cell? ⟨w.heap.size,0,none⟩ = some (.slice A0_0 l0_0.length c0_0):=(blk_cell BT.out 0).trans rfl
 go_wp2_with (fail)
 clear hcT
 refine (spec_KidsOf.calls q23 At1 ct1 tt Ap1 cp1 gg rr _ (Kd.R_reads' Ht1.out).2.2 (Kd.R_reads' Ht1.out).2.1 (Kd.R_reads' Hp1.out).2.2 (Kd.R_reads' Hp1.out).2.1 E23.out).mono ?_
 rintro e w5_ ⟨v_,rfl,ho,hb⟩
 obtain ⟨Ar0,cr0,e_⟩:=Kd.S_slice ho
 subst e_
 obtain ⟨lor0,hlo⟩ : ∃ n_,n_ = (World.heap w4_).size:=⟨_,rfl⟩
 obtain ⟨hir0,hhi⟩ : ∃ n_,n_ = (World.heap w5_).size:=⟨_,rfl⟩
 have Nr0:=a0_ (show hip1 ≤ lor0 ∧ lor0 ≤ hir0 by have h1_:=HN.out;have h2_:=hb.size;omega)
 have Hr0:=a0_ (iv_S ho (below_size HB.out) hlo hhi)
 replace Ht1:=a0_ (Kd.R_below Ht1.out hb)
 replace Hp1:=a0_ (Kd.R_below Hp1.out hb)
 replace BT:=a0_ (blk_keptB BT.out hb)
 replace HB:=a0_ (below_step HB.out hb)
 replace HN:=a0_ (Nat.le_of_eq hhi)
 clear ho hb hlo hhi
 have hcT : w5_.cell? ⟨w.heap.size,0,none⟩ = some (.slice A0_0 l0_0.length c0_0):=(blk_cell BT.out 0).trans rfl
 clear Ht1 Hp1
 go_wp2_with (fail)
 clear hcT
 refine (laws_toTree.calls q9 A0_0 c0_0 l0_0 tt _ (Kd.C_below HR0.out HB.out) HC0.out E9.out).mono ?_
 rintro e w6_ ⟨v_,rfl,ho,hb⟩
 obtain ⟨Ax0,cx0,e_⟩:=Kd.R_slice ho
 subst e_
 obtain ⟨lox0,hlo⟩ : ∃ n_,n_ = (World.heap w5_).size:=⟨_,rfl⟩
 obtain ⟨hix0,hhi⟩ : ∃ n_,n_ = (World.heap w6_).size:=⟨_,rfl⟩
 have Nx0:=a0_ (show hir0 ≤ lox0 ∧ lox0 ≤ hix0 by have h1_:=HN.out;have h2_:=hb.size;omega)
 have Hx0:=a0_ (iv_R ho (below_size HB.out) hlo hhi)
 replace Hr0:=a0_ (Kd.S_below Hr0.out hb)
 replace BT:=a0_ (blk_keptB BT.out hb)
 replace HB:=a0_ (below_step HB.out hb)
 replace HN:=a0_ (Nat.le_of_eq hhi)
 clear ho hb hlo hhi
 have hcT : w6_.cell? ⟨w.heap.size,0,none⟩ = some (.slice A0_0 l0_0.length c0_0):=(blk_cell BT.out 0).trans rfl
 go_wp2_with (fail)
 clear hcT
 replace Hr0:=a0_ (Kd.S_alloc Hr0.out (.cells #[.slice Ax0 tt.length cx0] 32))
 replace Hx0:=a0_ (Kd.R_alloc Hx0.out (.cells #[.slice Ax0 tt.length cx0] 32))
 replace BT:=a0_ (blk_alloc BT.out (.cells #[.slice Ax0 tt.length cx0] 32))
 replace HB:=a0_ (below_alloc HB.out (.cells #[.slice Ax0 tt.length cx0] 32))
 have BX:=a0_ (heap_new1 w6_ (.cells #[.slice Ax0 tt.length cx0] 32))
 have NX:=a0_ (show hix0 ≤ (World.heap w6_).size from HN.out)
 replace HN:=a0_ (show (World.heap w6_).size + 1 ≤ (World.heap (World.alloc w6_ (.cells #[.slice Ax0 tt.length cx0] 32))).size by simp)
 generalize World.alloc w6_ (.cells #[.slice Ax0 tt.length cx0] 32) = w7_ at *
 generalize (World.heap w6_).size = gX at *
 have hcT : w7_.cell? ⟨w.heap.size,0,none⟩ = some (.slice A0_0 l0_0.length c0_0):=(blk_cell BT.out 0).trans rfl
 have hcX : w7_.cell? ⟨gX,0,none⟩ = some (.slice Ax0 tt.length cx0):=(blk_cell BX.out 0).trans rfl
 go_wp2_with (fail)
 clear hcT hcX
 refine (laws_toPartS.calls q10 A1 c1 l1 gg _ (Kd.C_below HR1.out HB.out) HC1.out E10.out).mono ?_
 rintro e w8_ ⟨v_,rfl,ho,hb⟩
 obtain ⟨Ax1,cx1,e_⟩:=Kd.R_slice ho
 subst e_
 obtain ⟨lox1,hlo⟩ : ∃ n_,n_ = (World.heap w7_).size:=⟨_,rfl⟩
 obtain ⟨hix1,hhi⟩ : ∃ n_,n_ = (World.heap w8_).size:=⟨_,rfl⟩
 have Nx1:=a0_ (show gX + 1 ≤ lox1 ∧ lox1 ≤ hix1 by have h1_:=HN.out;have h2_:=hb.size;omega)
 have Hx1:=a0_ (iv_R ho (below_size HB.out) hlo hhi)
 replace Hr0:=a0_ (Kd.S_below Hr0.out hb)
 replace Hx0:=a0_ (Kd.R_below Hx0.out hb)
 replace BT:=a0_ (blk_keptB BT.out hb)
 replace BX:=a0_ (blk_keptB BX.out hb)
 replace HB:=a0_ (below_step HB.out hb)
 replace HN:=a0_ (Nat.le_of_eq hhi)
 clear ho hb hlo hhi
 have hcT : w8_.cell? ⟨w.heap.size,0,none⟩ = some (.slice A0_0 l0_0.length c0_0):=(blk_cell BT.out 0).trans rfl
 have hcX : w8_.cell? ⟨gX,0,none⟩ = some (.slice Ax0 tt.length cx0):=(blk_cell BX.out 0).trans rfl
 go_wp2_with (fail)
 clear hcT hcX
 refine (impl_KidsOf.calls q24 Ax0 cx0 tt Ax1 cx1 gg rr _ (Kd.R_reads' Hx0.out).2.2 (Kd.R_reads' Hx0.out).2.1 (Kd.R_reads' Hx1.out).2.2 (Kd.R_reads' Hx1.out).2.1 E24.out).mono ?_
 rintro e w9_ ⟨v_,rfl,ho,hb⟩
 obtain ⟨Ag0,cg0,e_⟩:=Kd.S_slice ho
 subst e_
 obtain ⟨log0,hlo⟩ : ∃ n_,n_ = (World.heap w8_).size:=⟨_,rfl⟩
 obtain ⟨hig0,hhi⟩ : ∃ n_,n_ = (World.heap w9_).size:=⟨_,rfl⟩
 have Ng0:=a0_ (show hix1 ≤ log0 ∧ log0 ≤ hig0 by have h1_:=HN.out;have h2_:=hb.size;omega)
 have Hg0:=a0_ (iv_S ho (below_size HB.out) hlo hhi)
 replace Hr0:=a0_ (Kd.S_below Hr0.out hb)
 replace Hx0:=a0_ (Kd.R_below Hx0.out hb)
 replace Hx1:=a0_ (Kd.R_below Hx1.out hb)
 replace BT:=a0_ (blk_keptB BT.out hb)
 replace BX:=a0_ (blk_keptB BX.out hb)
 replace HB:=a0_ (below_step HB.out hb)
 replace HN:=a0_ (Nat.le_of_eq hhi)
 clear ho hb hlo hhi
 have hcT : w9_.cell? ⟨w.heap.size,0,none⟩ = some (.slice A0_0 l0_0.length c0_0):=(blk_cell BT.out 0).trans rfl
 have hcX : w9_.cell? ⟨gX,0,none⟩ = some (.slice Ax0 tt.length cx0):=(blk_cell BX.out 0).trans rfl
 go_wp2_with (fail)
 clear hcT hcX
 refine (laws_eqPartSS.calls q21 Ag0 cg0 rr Ar0 cr0 rr true _ (Kd.S_reads' Hg0.out).2.2 (Kd.S_reads' Hg0.out).2.1 (Kd.S_reads' Hr0.out).2.2 (Kd.S_reads' Hr0.out).2.1 E21.out).mono ?_
 rintro e w10_ ⟨rfl,hb⟩
 replace Hr0:=a0_ (Kd.S_below Hr0.out hb)
 replace Hx0:=a0_ (Kd.R_below Hx0.out hb)
 replace Hx1:=a0_ (Kd.R_below Hx1.out hb)
 replace Hg0:=a0_ (Kd.S_below Hg0.out hb)
 replace BT:=a0_ (blk_keptB BT.out hb)
 replace BX:=a0_ (blk_keptB BX.out hb)
 replace HB:=a0_ (below_step HB.out hb)
 replace HN:=a0_ (Nat.le_trans HN.out hb.size)
 clear hb
 have hcT : w10_.cell? ⟨w.heap.size,0,none⟩ = some (.slice A0_0 l0_0.length c0_0):=(blk_cell BT.out 0).trans rfl
 have hcX : w10_.cell? ⟨gX,0,none⟩ = some (.slice Ax0 tt.length cx0):=(blk_cell BX.out 0).trans rfl
 go_wp2_with (fail)
 clear hcT hcX
 replace Hr0:=a0_ (Kd.S_drew Hr0.out)
 replace Hx0:=a0_ (Kd.R_drew Hx0.out)
 replace Hx1:=a0_ (Kd.R_drew Hx1.out)
 replace Hg0:=a0_ (Kd.S_drew Hg0.out)
 replace BT:=a0_ (blk_drew BT.out)
 replace BX:=a0_ (blk_drew BX.out)
 replace HB:=a0_ (below_drew1 HB.out)
 refine start_ (n:=5) (S:=fun w'=>w'.cell? ⟨gX,0,none⟩ = some (.slice Ax0 tt.length cx0) ∧ w'.cell? ⟨w.heap.size,0,none⟩ = some (.slice A0_0 l0_0.length c0_0)) (ds:=[]) #[false,false,false,false,false] (by kernel_rfl) rfl rfl ⟨(blk_cell BX.out 0).trans rfl,(blk_cell BT.out 0).trans rfl⟩ (fun hHeld=>?_)
 replace HN:=a0_ (show hig0 ≤ (World.heap (World.drew w10_)).size from HN.out)
 generalize World.drew w10_ = w11_ at *
 refine take_ (i:=0) (N:=some 40) (v:=?_) (a':=?_) #[true,false,false,false,false] rfl rfl (by kernel_rfl) (fun _ _ _ h=>h) (Or.inl ⟨by rfl,?_⟩) hHeld ?_ ?_
 rotate_left
 ·rintro w' ⟨s0,s1⟩
  go_simp
  with_reducible rfl
 rotate_left
 ·simp only [Act.put,s1_,s2_,s3_,i64_w,i32_w]
  rfl
 refine take_ (i:=1) (N:=some 41) (v:=?_) (a':=?_) #[true,true,false,false,false] rfl rfl (by kernel_rfl) (fun _ _ _ h=>h) (Or.inl ⟨by rfl,?_⟩) hHeld ?_ ?_
 rotate_left
 ·rintro w' ⟨s0,s1⟩
  go_simp
  with_reducible rfl
 rotate_left
 ·simp only [Act.put,s1_,s2_,s3_,i64_w,i32_w]
  rfl
 refine one_ (i:=2) (N:=some 42) #[true,true,true,false,false] rfl rfl (by kernel_rfl) (by decide) (fun K hK=>?_)
 refine goes_ Try.func9 (by kernel_rfl) rfl #[.agg #[.slice A0_0 l0_0.length c0_0]] (by rfl) rfl rfl (by (try simp only [List.map_toArray,List.map_cons,List.map_nil]);(first | done | rfl)) ?_
 refine (laws_toTree.calls q9 A0_0 c0_0 l0_0 tt _ (Kd.C_below HR0.out HB.out) HC0.out E9.out).mono ?_
 rintro e w12_ ⟨v_,rfl,ho,hb⟩
 refine ⟨_,rfl,?_⟩
 obtain ⟨At2,ct2,e_⟩:=Kd.R_slice ho
 subst e_
 obtain ⟨lot2,hlo⟩ : ∃ n_,n_ = (World.heap w11_).size:=⟨_,rfl⟩
 obtain ⟨hit2,hhi⟩ : ∃ n_,n_ = (World.heap w12_).size:=⟨_,rfl⟩
 have Nt2:=a0_ (show hig0 ≤ lot2 ∧ lot2 ≤ hit2 by have h1_:=HN.out;have h2_:=hb.size;omega)
 have Ht2:=a0_ (iv_R ho (below_size HB.out) hlo hhi)
 replace Hr0:=a0_ (Kd.S_below Hr0.out hb)
 replace Hx0:=a0_ (Kd.R_below Hx0.out hb)
 replace Hx1:=a0_ (Kd.R_below Hx1.out hb)
 replace Hg0:=a0_ (Kd.S_below Hg0.out hb)
 replace BT:=a0_ (blk_keptB BT.out hb)
 replace BX:=a0_ (blk_keptB BX.out hb)
 replace HB:=a0_ (below_step HB.out hb)
 replace HN:=a0_ (Nat.le_of_eq hhi)
 clear ho hb hlo hhi
 refine hK.out _ _ ⟨(blk_cell BX.out 0).trans rfl,(blk_cell BT.out 0).trans rfl⟩ (fun hHeld=>?_)
 clear hK K
 refine norm_ (a':=?_) ?_ ?_
 rotate_left
 ·show Act.put _ (some 42) _ = _
  simp only [Act.put,s1_,s2_,s3_,i64_w,i32_w]
  rfl
 refine one_ (i:=3) (N:=some 43) #[true,true,true,true,false] rfl rfl (by kernel_rfl) (by decide) (fun K hK=>?_)
 refine goes_ Try.func13 (by kernel_rfl) rfl #[.agg #[.slice Ax0 tt.length cx0],.agg #[.slice At2 tt.length ct2]] (by rfl) rfl rfl (by (try simp only [List.map_toArray,List.map_cons,List.map_nil]);(first | done | rfl)) ?_
 refine (laws_eqTree.calls q13 Ax0 cx0 tt At2 ct2 tt true _ (Kd.R_reads' Hx0.out).2.2 (Kd.R_reads' Hx0.out).2.1 (Kd.R_reads' Ht2.out).2.2 (Kd.R_reads' Ht2.out).2.1 E13.out).mono ?_
 rintro e w13_ ⟨rfl,hb⟩
 refine ⟨_,rfl,?_⟩
 replace Hr0:=a0_ (Kd.S_below Hr0.out hb)
 replace Hx0:=a0_ (Kd.R_below Hx0.out hb)
 replace Hx1:=a0_ (Kd.R_below Hx1.out hb)
 replace Hg0:=a0_ (Kd.S_below Hg0.out hb)
 replace Ht2:=a0_ (Kd.R_below Ht2.out hb)
 replace BT:=a0_ (blk_keptB BT.out hb)
 replace BX:=a0_ (blk_keptB BX.out hb)
 replace HB:=a0_ (below_step HB.out hb)
 replace HN:=a0_ (Nat.le_trans HN.out hb.size)
 clear hb
 refine hK.out _ _ ⟨(blk_cell BX.out 0).trans rfl,(blk_cell BT.out 0).trans rfl⟩ (fun hHeld=>?_)
 clear hK K
 refine norm_ (a':=?_) ?_ ?_
 rotate_left
 ·show Act.put _ (some 43) _ = _
  simp only [Act.put,s1_,s2_,s3_,i64_w,i32_w]
  rfl
 refine pure_ (i:=4) (N:=some 44) (v:=?_) (a':=?_) #[true,true,true,true,true] rfl rfl (by kernel_rfl) (fun _ _ _ h=>h) (Or.inl ⟨by rfl,?_⟩) ?_ ?_
 rotate_left
 ·intro w'
  go_simp
  with_reducible rfl
 rotate_left
 ·simp only [Act.put,s1_,s2_,s3_,i64_w,i32_w]
  rfl
 refine done_ (by kernel_rfl) ?_
 have hcT : w13_.cell? ⟨w.heap.size,0,none⟩ = some (.slice A0_0 l0_0.length c0_0):=(blk_cell BT.out 0).trans rfl
 have hcX : w13_.cell? ⟨gX,0,none⟩ = some (.slice Ax0 tt.length cx0):=(blk_cell BX.out 0).trans rfl
 clear Ht2
 go_wp2_with (fail)
 clear hcT hcX
 refine (laws_toPartS.calls q10 A1 c1 l1 gg _ (Kd.C_below HR1.out HB.out) HC1.out E10.out).mono ?_
 rintro e w14_ ⟨v_,rfl,ho,hb⟩
 obtain ⟨Ap2,cp2,e_⟩:=Kd.R_slice ho
 subst e_
 obtain ⟨lop2,hlo⟩ : ∃ n_,n_ = (World.heap w13_).size:=⟨_,rfl⟩
 obtain ⟨hip2,hhi⟩ : ∃ n_,n_ = (World.heap w14_).size:=⟨_,rfl⟩
 have Np2:=a0_ (show hit2 ≤ lop2 ∧ lop2 ≤ hip2 by have h1_:=HN.out;have h2_:=hb.size;omega)
 have Hp2:=a0_ (iv_R ho (below_size HB.out) hlo hhi)
 replace Hr0:=a0_ (Kd.S_below Hr0.out hb)
 replace Hx0:=a0_ (Kd.R_below Hx0.out hb)
 replace Hx1:=a0_ (Kd.R_below Hx1.out hb)
 replace Hg0:=a0_ (Kd.S_below Hg0.out hb)
 replace BT:=a0_ (blk_keptB BT.out hb)
 replace BX:=a0_ (blk_keptB BX.out hb)
 replace HB:=a0_ (below_step HB.out hb)
 replace HN:=a0_ (Nat.le_of_eq hhi)
 clear ho hb hlo hhi
 have hcT : w14_.cell? ⟨w.heap.size,0,none⟩ = some (.slice A0_0 l0_0.length c0_0):=(blk_cell BT.out 0).trans rfl
 have hcX : w14_.cell? ⟨gX,0,none⟩ = some (.slice Ax0 tt.length cx0):=(blk_cell BX.out 0).trans rfl
 go_wp2_with (fail)
 clear hcT hcX
 refine (laws_eqPartS.calls q12 Ax1 cx1 gg Ap2 cp2 gg true _ (Kd.R_reads' Hx1.out).2.2 (Kd.R_reads' Hx1.out).2.1 (Kd.R_reads' Hp2.out).2.2 (Kd.R_reads' Hp2.out).2.1 E12.out).mono ?_
 rintro e w15_ ⟨rfl,hb⟩
 replace Hr0:=a0_ (Kd.S_below Hr0.out hb)
 replace Hx0:=a0_ (Kd.R_below Hx0.out hb)
 replace Hx1:=a0_ (Kd.R_below Hx1.out hb)
 replace Hg0:=a0_ (Kd.S_below Hg0.out hb)
 replace Hp2:=a0_ (Kd.R_below Hp2.out hb)
 replace BT:=a0_ (blk_keptB BT.out hb)
 replace BX:=a0_ (blk_keptB BX.out hb)
 replace HB:=a0_ (below_step HB.out hb)
 replace HN:=a0_ (Nat.le_trans HN.out hb.size)
 clear hb
 have hcT : w15_.cell? ⟨w.heap.size,0,none⟩ = some (.slice A0_0 l0_0.length c0_0):=(blk_cell BT.out 0).trans rfl
 have hcX : w15_.cell? ⟨gX,0,none⟩ = some (.slice Ax0 tt.length cx0):=(blk_cell BX.out 0).trans rfl
 clear Hp2
 go_wp2_with (fail)
 clear hcT hcX
 refine (laws_markTree.calls q14 (fun k_=>lox0 ≤ k_ ∧ k_ < hix0) (.slice Ax0 tt.length cx0) tt 1 a1_ tt2 w _ HB.out Hx0.out E14.out).mono ?_
 rintro e w16_ ⟨rfl,ho,hb,hk⟩
 replace Hr0:=a0_ (Kd.S_kept Hr0.out hk (fun k_ (h1_ : lor0 ≤ k_ ∧ k_ < hir0) (h2_ : lox0 ≤ k_ ∧ k_ < hix0)=>by have:=Nt1.out;have:=Np1.out;have:=Nr0.out;have:=Nx0.out;have:=NX.out;have:=Nx1.out;have:=Ng0.out;have:=Nt2.out;have:=Np2.out;omega))
 replace Hx1:=a0_ (Kd.R_kept Hx1.out hk (fun k_ (h1_ : lox1 ≤ k_ ∧ k_ < hix1) (h2_ : lox0 ≤ k_ ∧ k_ < hix0)=>by have:=Nt1.out;have:=Np1.out;have:=Nr0.out;have:=Nx0.out;have:=NX.out;have:=Nx1.out;have:=Ng0.out;have:=Nt2.out;have:=Np2.out;omega))
 replace Hg0:=a0_ (Kd.S_kept Hg0.out hk (fun k_ (h1_ : log0 ≤ k_ ∧ k_ < hig0) (h2_ : lox0 ≤ k_ ∧ k_ < hix0)=>by have:=Nt1.out;have:=Np1.out;have:=Nr0.out;have:=Nx0.out;have:=NX.out;have:=Nx1.out;have:=Ng0.out;have:=Nt2.out;have:=Np2.out;omega))
 replace BT:=a0_ (blk_kept BT.out hk (fun (h2_ : lox0 ≤ w.heap.size ∧ w.heap.size < hix0)=>by have:=Nt1.out;have:=Np1.out;have:=Nr0.out;have:=Nx0.out;have:=NX.out;have:=Nx1.out;have:=Ng0.out;have:=Nt2.out;have:=Np2.out;omega))
 replace BX:=a0_ (blk_kept BX.out hk (fun (h2_ : lox0 ≤ gX ∧ gX < hix0)=>by have:=Nt1.out;have:=Np1.out;have:=Nr0.out;have:=Nx0.out;have:=NX.out;have:=Nx1.out;have:=Ng0.out;have:=Nt2.out;have:=Np2.out;omega))
 replace HB:=a0_ hb
 replace HN:=a0_ (Nat.le_trans HN.out hk.1)
 clear Hx0
 clear ho hb hk
 have hcT : w16_.cell? ⟨w.heap.size,0,none⟩ = some (.slice A0_0 l0_0.length c0_0):=(blk_cell BT.out 0).trans rfl
 have hcX : w16_.cell? ⟨gX,0,none⟩ = some (.slice Ax0 tt.length cx0):=(blk_cell BX.out 0).trans rfl
 clear hcX BX
 go_wp2_with (fail)
 clear hcT
 refine (laws_markPartS.calls q15 (fun k_=>lox1 ≤ k_ ∧ k_ < hix1) (.slice Ax1 gg.length cx1) gg a1_ m1_ gg2 w _ HB.out Hx1.out E15.out).mono ?_
 rintro e w17_ ⟨rfl,ho,hb,hk⟩
 replace Hr0:=a0_ (Kd.S_kept Hr0.out hk (fun k_ (h1_ : lor0 ≤ k_ ∧ k_ < hir0) (h2_ : lox1 ≤ k_ ∧ k_ < hix1)=>by have:=Nt1.out;have:=Np1.out;have:=Nr0.out;have:=Nx0.out;have:=NX.out;have:=Nx1.out;have:=Ng0.out;have:=Nt2.out;have:=Np2.out;omega))
 replace Hg0:=a0_ (Kd.S_kept Hg0.out hk (fun k_ (h1_ : log0 ≤ k_ ∧ k_ < hig0) (h2_ : lox1 ≤ k_ ∧ k_ < hix1)=>by have:=Nt1.out;have:=Np1.out;have:=Nr0.out;have:=Nx0.out;have:=NX.out;have:=Nx1.out;have:=Ng0.out;have:=Nt2.out;have:=Np2.out;omega))
 replace BT:=a0_ (blk_kept BT.out hk (fun (h2_ : lox1 ≤ w.heap.size ∧ w.heap.size < hix1)=>by have:=Nt1.out;have:=Np1.out;have:=Nr0.out;have:=Nx0.out;have:=NX.out;have:=Nx1.out;have:=Ng0.out;have:=Nt2.out;have:=Np2.out;omega))
 replace HB:=a0_ hb
 replace HN:=a0_ (Nat.le_trans HN.out hk.1)
 clear Hx1
 clear ho hb hk
 have hcT : w17_.cell? ⟨w.heap.size,0,none⟩ = some (.slice A0_0 l0_0.length c0_0):=(blk_cell BT.out 0).trans rfl
 go_wp2_with (fail)
 clear hcT
 refine (laws_eqPartSS.calls q21 Ag0 cg0 rr Ar0 cr0 rr true _ (Kd.S_reads' Hg0.out).2.2 (Kd.S_reads' Hg0.out).2.1 (Kd.S_reads' Hr0.out).2.2 (Kd.S_reads' Hr0.out).2.1 E21.out).mono ?_
 rintro e w18_ ⟨rfl,hb⟩
 replace Hr0:=a0_ (Kd.S_below Hr0.out hb)
 replace Hg0:=a0_ (Kd.S_below Hg0.out hb)
 replace BT:=a0_ (blk_keptB BT.out hb)
 replace HB:=a0_ (below_step HB.out hb)
 replace HN:=a0_ (Nat.le_trans HN.out hb.size)
 clear hb
 have hcT : w18_.cell? ⟨w.heap.size,0,none⟩ = some (.slice A0_0 l0_0.length c0_0):=(blk_cell BT.out 0).trans rfl
 go_wp2_with (fail)
 clear hcT
 refine (laws_markPartSS.calls q22 (fun k_=>log0 ≤ k_ ∧ k_ < hig0) (.slice Ag0 rr.length cg0) rr 1 m9_ rr2 w _ HB.out Hg0.out E22.out).mono ?_
 rintro e w19_ ⟨rfl,ho,hb,hk⟩
 replace Hr0:=a0_ (Kd.S_kept Hr0.out hk (fun k_ (h1_ : lor0 ≤ k_ ∧ k_ < hir0) (h2_ : log0 ≤ k_ ∧ k_ < hig0)=>by have:=Nt1.out;have:=Np1.out;have:=Nr0.out;have:=Nx0.out;have:=NX.out;have:=Nx1.out;have:=Ng0.out;have:=Nt2.out;have:=Np2.out;omega))
 replace BT:=a0_ (blk_kept BT.out hk (fun (h2_ : log0 ≤ w.heap.size ∧ w.heap.size < hig0)=>by have:=Nt1.out;have:=Np1.out;have:=Nr0.out;have:=Nx0.out;have:=NX.out;have:=Nx1.out;have:=Ng0.out;have:=Nt2.out;have:=Np2.out;omega))
 replace HB:=a0_ hb
 replace HN:=a0_ (Nat.le_trans HN.out hk.1)
 replace Hg0:=a0_ (Kd.S_mono ho (fun _ _=>trivial) : Kd.S (Kd.slice 55 k55) 28 w19_ w.heap.size (fun _=>True) _ rr2)
 clear ho hb hk
 have hcT : w19_.cell? ⟨w.heap.size,0,none⟩ = some (.slice A0_0 l0_0.length c0_0):=(blk_cell BT.out 0).trans rfl
 have hl2_:=(Kd.S_reads' Hg0.out).1
 have hcg2_:=(Kd.S_reads' Hg0.out).2.1
 have HL2:=a0_ hl2_
 clear hl2_ hcg2_
 have hcall_ : Calls Try.prog 25 #[.slice Ag0 rr.length cg0,.int .i64 1] w19_ fun e w'=>e = .returned (.int .i64 m9_) ∧ Drawn0 w19_ w':=by rw [HL2.out];exact laws_heldPartSS.calls q25 Ag0 cg0 rr2 1 m9_ _ (Kd.S_reads' Hg0.out).2.2 (by rw [← HL2.out];exact (Kd.S_reads' Hg0.out).2.1) E25.out
 go_wp2_with (fail)
 clear hcT
 refine (hcall_).mono ?_
 rintro e w20_ ⟨rfl,hd⟩
 have hb:=hd.below
 clear hd
 replace Hr0:=a0_ (Kd.S_below Hr0.out hb)
 replace Hg0:=a0_ (Kd.S_below Hg0.out hb)
 replace BT:=a0_ (blk_keptB BT.out hb)
 replace HB:=a0_ (below_step HB.out hb)
 replace HN:=a0_ (Nat.le_trans HN.out hb.size)
 clear hb
 have hcT : w20_.cell? ⟨w.heap.size,0,none⟩ = some (.slice A0_0 l0_0.length c0_0):=(blk_cell BT.out 0).trans rfl
 clear hcall_
 go_wp2_with (fail)
 clear hcT
 refine (laws_toTree.calls q9 A0_0 c0_0 l0_0 tt _ (Kd.C_below HR0.out HB.out) HC0.out E9.out).mono ?_
 rintro e w21_ ⟨v_,rfl,ho,hb⟩
 obtain ⟨At3,ct3,e_⟩:=Kd.R_slice ho
 subst e_
 obtain ⟨lot3,hlo⟩ : ∃ n_,n_ = (World.heap w20_).size:=⟨_,rfl⟩
 obtain ⟨hit3,hhi⟩ : ∃ n_,n_ = (World.heap w21_).size:=⟨_,rfl⟩
 have Nt3:=a0_ (show hip2 ≤ lot3 ∧ lot3 ≤ hit3 by have h1_:=HN.out;have h2_:=hb.size;omega)
 have Ht3:=a0_ (iv_R ho (below_size HB.out) hlo hhi)
 replace Hr0:=a0_ (Kd.S_below Hr0.out hb)
 replace Hg0:=a0_ (Kd.S_below Hg0.out hb)
 replace BT:=a0_ (blk_keptB BT.out hb)
 replace HB:=a0_ (below_step HB.out hb)
 replace HN:=a0_ (Nat.le_of_eq hhi)
 clear ho hb hlo hhi
 have hcT : w21_.cell? ⟨w.heap.size,0,none⟩ = some (.slice A0_0 l0_0.length c0_0):=(blk_cell BT.out 0).trans rfl
 go_wp2_with (fail)
 clear hcT
 refine (laws_toPartS.calls q10 A1 c1 l1 gg _ (Kd.C_below HR1.out HB.out) HC1.out E10.out).mono ?_
 rintro e w22_ ⟨v_,rfl,ho,hb⟩
 obtain ⟨Ap3,cp3,e_⟩:=Kd.R_slice ho
 subst e_
 obtain ⟨lop3,hlo⟩ : ∃ n_,n_ = (World.heap w21_).size:=⟨_,rfl⟩
 obtain ⟨hip3,hhi⟩ : ∃ n_,n_ = (World.heap w22_).size:=⟨_,rfl⟩
 have Np3:=a0_ (show hit3 ≤ lop3 ∧ lop3 ≤ hip3 by have h1_:=HN.out;have h2_:=hb.size;omega)
 have Hp3:=a0_ (iv_R ho (below_size HB.out) hlo hhi)
 replace Hr0:=a0_ (Kd.S_below Hr0.out hb)
 replace Hg0:=a0_ (Kd.S_below Hg0.out hb)
 replace Ht3:=a0_ (Kd.R_below Ht3.out hb)
 replace BT:=a0_ (blk_keptB BT.out hb)
 replace HB:=a0_ (below_step HB.out hb)
 replace HN:=a0_ (Nat.le_of_eq hhi)
 clear ho hb hlo hhi
 have hcT : w22_.cell? ⟨w.heap.size,0,none⟩ = some (.slice A0_0 l0_0.length c0_0):=(blk_cell BT.out 0).trans rfl
 go_wp2_with (fail)
 clear hcT
 refine (impl_KidsOf.calls q24 At3 ct3 tt Ap3 cp3 gg rr _ (Kd.R_reads' Ht3.out).2.2 (Kd.R_reads' Ht3.out).2.1 (Kd.R_reads' Hp3.out).2.2 (Kd.R_reads' Hp3.out).2.1 E24.out).mono ?_
 rintro e w23_ ⟨v_,rfl,ho,hb⟩
 obtain ⟨Ah0,ch0,e_⟩:=Kd.S_slice ho
 subst e_
 obtain ⟨loh0,hlo⟩ : ∃ n_,n_ = (World.heap w22_).size:=⟨_,rfl⟩
 obtain ⟨hih0,hhi⟩ : ∃ n_,n_ = (World.heap w23_).size:=⟨_,rfl⟩
 have Nh0:=a0_ (show hip3 ≤ loh0 ∧ loh0 ≤ hih0 by have h1_:=HN.out;have h2_:=hb.size;omega)
 have Hh0:=a0_ (iv_S ho (below_size HB.out) hlo hhi)
 replace Hr0:=a0_ (Kd.S_below Hr0.out hb)
 replace Hg0:=a0_ (Kd.S_below Hg0.out hb)
 replace Ht3:=a0_ (Kd.R_below Ht3.out hb)
 replace Hp3:=a0_ (Kd.R_below Hp3.out hb)
 replace BT:=a0_ (blk_keptB BT.out hb)
 replace HB:=a0_ (below_step HB.out hb)
 replace HN:=a0_ (Nat.le_of_eq hhi)
 clear ho hb hlo hhi
 have hcT : w23_.cell? ⟨w.heap.size,0,none⟩ = some (.slice A0_0 l0_0.length c0_0):=(blk_cell BT.out 0).trans rfl
 clear Ht3 Hp3
 go_wp2_with (fail)
 clear hcT
 refine (laws_eqPartSS.calls q21 Ah0 ch0 rr Ar0 cr0 rr true _ (Kd.S_reads' Hh0.out).2.2 (Kd.S_reads' Hh0.out).2.1 (Kd.S_reads' Hr0.out).2.2 (Kd.S_reads' Hr0.out).2.1 E21.out).mono ?_
 rintro e w24_ ⟨rfl,hb⟩
 replace Hr0:=a0_ (Kd.S_below Hr0.out hb)
 replace Hg0:=a0_ (Kd.S_below Hg0.out hb)
 replace Hh0:=a0_ (Kd.S_below Hh0.out hb)
 replace BT:=a0_ (blk_keptB BT.out hb)
 replace HB:=a0_ (below_step HB.out hb)
 replace HN:=a0_ (Nat.le_trans HN.out hb.size)
 clear hb
 have hcT : w24_.cell? ⟨w.heap.size,0,none⟩ = some (.slice A0_0 l0_0.length c0_0):=(blk_cell BT.out 0).trans rfl
 have hcall_ : Calls Try.prog 25 #[.slice Ag0 rr.length cg0,.int .i64 1] w24_ fun e w'=>e = .returned (.int .i64 m9_) ∧ Drawn0 w24_ w':=by rw [HL2.out];exact laws_heldPartSS.calls q25 Ag0 cg0 rr2 1 m9_ _ (Kd.S_reads' Hg0.out).2.2 (by rw [← HL2.out];exact (Kd.S_reads' Hg0.out).2.1) E25.out
 go_wp2_with (fail)
 clear hcT
 refine (hcall_).mono ?_
 rintro e w25_ ⟨rfl,hd⟩
 have hb:=hd.below
 clear hd
 replace Hr0:=a0_ (Kd.S_below Hr0.out hb)
 replace Hg0:=a0_ (Kd.S_below Hg0.out hb)
 replace Hh0:=a0_ (Kd.S_below Hh0.out hb)
 replace BT:=a0_ (blk_keptB BT.out hb)
 replace HB:=a0_ (below_step HB.out hb)
 replace HN:=a0_ (Nat.le_trans HN.out hb.size)
 clear hb
 have hcT : w25_.cell? ⟨w.heap.size,0,none⟩ = some (.slice A0_0 l0_0.length c0_0):=(blk_cell BT.out 0).trans rfl
 clear hcall_
 go_wp2
 go_ret
 exact ⟨rfl,HB.out⟩
end Go.Proofs.Ytbglafibhopleaa.P
namespace Go.Proofs.Ytbglafibhopleaa.Pure
open Go.RowKit Go.Proofs.Ytbglafibhopleaa.P
set_option linter.unusedVariables false
theorem FnExactKidsOf (l0_0 : List S67) (l1 : List S57) (G0_0 : (l0_0.length ≤ maxLen ∧ ∀ x ∈ l0_0,(x.f0.size ≤ maxLen ∧ (Lit.int .i64 x.f1).wf = true))) (g1 : (l1.length ≤ maxLen ∧ ∀ x ∈ l1,((Lit.int .i64 x.f0).wf = true ∧ True ∧ (Lit.int .i64 x.f2).wf = true ∧ (Lit.int .i64 x.f3).wf = true))) : ∃ k,laws_FnExactKidsOf.f k l0_0 l1 = some true:=by
 have hmax : maxLen = 9223372036854775807:=by decide
 rw [hmax] at G0_0
 refine ⟨0,?_⟩
 rw [laws_FnExactKidsOf.f,if_pos (List.all_eq_true.2 (fun x hx=>decide_eq_true (G0_0.2 x hx).1))]
end Go.Proofs.Ytbglafibhopleaa.Pure
