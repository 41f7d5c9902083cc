/- Texts under the proof of FnKidsOf: helper words, the functions' contracts and the plain laws. No condition. -/
import Derived.Test.YtjdpaholpfpiiaaQFnKidsOfa
import Derived.Test.YtjdpaholpfpiiaaQFnKidsOfb
namespace Go.Proofs.Ytjdpaholpfpiiaa.P
open Go.RowKit Go.Proofs.YtjdpaholpfpiiaaW.PrintWords Go.Proofs.YtjdpaholpfpiiaaW.PrintLast Go.Proofs.YtjdpaholpfpiiaaW.PrintMore
attribute [local go_sem] max2_int min2_int max_two min_two max_three min_three max_four min_four
set_option linter.unusedVariables false
set_option linter.unusedSimpArgs false
mutual
def impl_partsOk.l0 : Nat → List (S35) → List (S35) → Int → Int → List (S70) → Option (Bool)
 | 0,_,_,_,_,_=>none
 | k + 1,x1,x8,x9,x10,x2000=>if x10 < x9 then (if 0 ≤ x10 then (if x10 < (x8.length : Int) then ((impl_codeOk.f ((rd_T35 x8 x10).f3)).bind fun t5=>(if t5 = true then ((impl_within.f ((rd_T35 x8 x10).f0) 0 5).bind fun t6=>(if t6 = true then (impl_partsOk.j1 k x1 x10 x8 x9 x10 ((((rd_T35 x8 x10).f0) == 0) != (x10 == 0)) x2000 ((rd_T35 x8 x10).f0) ((rd_T35 x8 x10).f1) ((rd_T35 x8 x10).f2) ((rd_T35 x8 x10).f3)) else (impl_partsOk.j1 k x1 x10 x8 x9 x10 true x2000 ((rd_T35 x8 x10).f0) ((rd_T35 x8 x10).f1) ((rd_T35 x8 x10).f2) ((rd_T35 x8 x10).f3)))) else (impl_partsOk.j1 k x1 x10 x8 x9 x10 true x2000 ((rd_T35 x8 x10).f0) ((rd_T35 x8 x10).f1) ((rd_T35 x8 x10).f2) ((rd_T35 x8 x10).f3)))) else (none)) else (none)) else ((impl_within.f (x1.length : Int) 1 16).bind fun t2=>(some t2))
def impl_partsOk.j1 : Nat → List (S35) → Int → List (S35) → Int → Int → Bool → List (S70) → Int → Bool → Int → Int → Option (Bool)
 | 0,_,_,_,_,_,_,_,_,_,_,_=>none
 | k + 1,x1,x5,x8,x9,x10,x32,x2000,x5000,x5001,x5002,x5003=>if x32 = true then (some false) else (if x5 > 0 then (if 0 ≤ (wrap64 (x5 - 1)) then (if (wrap64 (x5 - 1)) < (x1.length : Int) then (if x5000 > ((rd_T35 x1 (wrap64 (x5 - 1))).f0) then (if (rd_T35 x1 (wrap64 (x5 - 1))).f1 = true then (impl_partsOk.j2 k x1 x5 x8 x9 x10 (!(x5000 == (wrap64 (((rd_T35 x1 (wrap64 (x5 - 1))).f0) + 1)))) x2000 x5000 x5001 x5002 x5003) else (impl_partsOk.j2 k x1 x5 x8 x9 x10 (!false) x2000 x5000 x5001 x5002 x5003)) else (impl_partsOk.j2 k x1 x5 x8 x9 x10 false x2000 x5000 x5001 x5002 x5003)) else (none)) else (none)) else (impl_partsOk.j2 k x1 x5 x8 x9 x10 false x2000 x5000 x5001 x5002 x5003))
def impl_partsOk.j2 : Nat → List (S35) → Int → List (S35) → Int → Int → Bool → List (S70) → Int → Bool → Int → Int → Option (Bool)
 | 0,_,_,_,_,_,_,_,_,_,_,_=>none
 | k + 1,x1,x5,x8,x9,x10,x66,x2000,x5000,x5001,x5002,x5003=>if x66 = true then (some false) else (if (wrap64 (x5 + 1)) < (x1.length : Int) then (if 0 ≤ (wrap64 (x5 + 1)) then (if x5001 = true then (if x5002 = 0 then (if (((rd_T35 x1 (wrap64 (x5 + 1))).f0) > x5000) then (impl_partsOk.l0 k x1 x8 x9 (wrap64 (x10 + 1)) x2000) else (some false)) else (some false)) else ((impl_Tree_has.f x2000 x5002).bind fun t11=>(if t11 = true then (impl_partsOk.l0 k x1 x8 x9 (wrap64 (x10 + 1)) x2000) else (some false)))) else (none)) else (if x5001 = true then (if x5002 = 0 then (some false) else (some false)) else ((impl_Tree_has.f x2000 x5002).bind fun t12=>(if t12 = true then (impl_partsOk.l0 k x1 x8 x9 (wrap64 (x10 + 1)) x2000) else (some false)))))
end
def impl_partsOk.f (k : Nat) (l0_0 : List (S70)) (l1 : List (S35)) : Option (Bool):=impl_partsOk.l0 k l1 l1 (l1.length : Int) 0 l0_0
theorem impl_partsOk.mono_l : ∀ k,(∀ y0 y1 y2 y3 y4,LeO (impl_partsOk.l0 k y0 y1 y2 y3 y4) (impl_partsOk.l0 (k + 1) y0 y1 y2 y3 y4)) ∧ (∀ y0 y1 y2 y3 y4 y5 y6 y7 y8 y9 y10,LeO (impl_partsOk.j1 k y0 y1 y2 y3 y4 y5 y6 y7 y8 y9 y10) (impl_partsOk.j1 (k + 1) y0 y1 y2 y3 y4 y5 y6 y7 y8 y9 y10)) ∧ (∀ y0 y1 y2 y3 y4 y5 y6 y7 y8 y9 y10,LeO (impl_partsOk.j2 k y0 y1 y2 y3 y4 y5 y6 y7 y8 y9 y10) (impl_partsOk.j2 (k + 1) y0 y1 y2 y3 y4 y5 y6 y7 y8 y9 y10))
 | 0=>⟨fun _ _ _ _ _ r h=>by simp [impl_partsOk.l0] at h,fun _ _ _ _ _ _ _ _ _ _ _ r h=>by simp [impl_partsOk.j1] at h,fun _ _ _ _ _ _ _ _ _ _ _ r h=>by simp [impl_partsOk.j2] at h⟩
 | k + 1=>by
  obtain ⟨ih0,ih1,ih2⟩:=impl_partsOk.mono_l k
  refine ⟨?_,?_,?_⟩
  ·intro y0 y1 y2 y3 y4
   unfold impl_partsOk.l0
   repeat' first
   | (with_reducible exact ih0 _ _ _ _ _)
   | (with_reducible exact ih1 _ _ _ _ _ _ _ _ _ _ _)
   | (with_reducible exact ih2 _ _ _ _ _ _ _ _ _ _ _)
   | (with_reducible exact LeO.refl _)
   | (with_reducible exact LeO.none _)
   | (with_reducible refine LeO.ite ?_ ?_)
   | (with_reducible refine LeO.bind ?_ (fun _=>?_))
   | exact ih0 _ _ _ _ _
   | exact ih1 _ _ _ _ _ _ _ _ _ _ _
   | exact ih2 _ _ _ _ _ _ _ _ _ _ _
   | exact LeO.none _
   | refine LeO.ite ?_ ?_
   | refine LeO.bind ?_ (fun _=>?_)
  ·intro y0 y1 y2 y3 y4 y5 y6 y7 y8 y9 y10
   unfold impl_partsOk.j1
   repeat' first
   | (with_reducible exact ih0 _ _ _ _ _)
   | (with_reducible exact ih1 _ _ _ _ _ _ _ _ _ _ _)
   | (with_reducible exact ih2 _ _ _ _ _ _ _ _ _ _ _)
   | (with_reducible exact LeO.refl _)
   | (with_reducible exact LeO.none _)
   | (with_reducible refine LeO.ite ?_ ?_)
   | (with_reducible refine LeO.bind ?_ (fun _=>?_))
   | exact ih0 _ _ _ _ _
   | exact ih1 _ _ _ _ _ _ _ _ _ _ _
   | exact ih2 _ _ _ _ _ _ _ _ _ _ _
   | exact LeO.none _
   | refine LeO.ite ?_ ?_
   | refine LeO.bind ?_ (fun _=>?_)
  ·intro y0 y1 y2 y3 y4 y5 y6 y7 y8 y9 y10
   unfold impl_partsOk.j2
   repeat' first
   | (with_reducible exact ih0 _ _ _ _ _)
   | (with_reducible exact ih1 _ _ _ _ _ _ _ _ _ _ _)
   | (with_reducible exact ih2 _ _ _ _ _ _ _ _ _ _ _)
   | (with_reducible exact LeO.refl _)
   | (with_reducible exact LeO.none _)
   | (with_reducible refine LeO.ite ?_ ?_)
   | (with_reducible refine LeO.bind ?_ (fun _=>?_))
   | exact ih0 _ _ _ _ _
   | exact ih1 _ _ _ _ _ _ _ _ _ _ _
   | exact ih2 _ _ _ _ _ _ _ _ _ _ _
   | exact LeO.none _
   | refine LeO.ite ?_ ?_
   | refine LeO.bind ?_ (fun _=>?_)
theorem impl_partsOk.mono : ∀ a0 a1 k,LeO (impl_partsOk.f k a0 a1) (impl_partsOk.f (k + 1) a0 a1):=by
 intro a0 a1 k
 obtain ⟨ih0,ih1,ih2⟩:=impl_partsOk.mono_l k
 unfold impl_partsOk.f
 repeat' first
   | (with_reducible exact ih0 _ _ _ _ _)
   | (with_reducible exact ih1 _ _ _ _ _ _ _ _ _ _ _)
   | (with_reducible exact ih2 _ _ _ _ _ _ _ _ _ _ _)
   | (with_reducible exact LeO.refl _)
   | (with_reducible exact LeO.none _)
   | (with_reducible refine LeO.ite ?_ ?_)
   | (with_reducible refine LeO.bind ?_ (fun _=>?_))
   | exact ih0 _ _ _ _ _
   | exact ih1 _ _ _ _ _ _ _ _ _ _ _
   | exact ih2 _ _ _ _ _ _ _ _ _ _ _
   | exact LeO.none _
   | refine LeO.ite ?_ ?_
   | refine LeO.bind ?_ (fun _=>?_)
set_option maxHeartbeats 8000000 in
set_option maxRecDepth 100000 in
theorem impl_partsOk.calls (k : Nat) (A0_0 : Option Addr) (c0_0 : Nat) (l0_0 : List (S70)) (A1 : Option Addr) (c1 : Nat) (l1 : List (S35)) (r : Bool) (w : World) (hr0_0 : Kd.C k70 w A0_0 l0_0.length l0_0) (hc0_0 : l0_0.length ≤ c0_0) (hr1 : Kd.C k35 w A1 l1.length l1) (hc1 : l1.length ≤ c1) (h : impl_partsOk.f k l0_0 l1 = some r) :
  Calls Try.prog 36 #[.agg #[.slice A0_0 l0_0.length c0_0],.slice A1 l1.length c1] w fun e w'=>e = .returned (.bool r) ∧ Below w.heap.size w w':=by
 have hu25:=Try.underlying25
 have hu35:=Try.underlying35
 have HR0_0:=a0_ hr0_0
 have HC0_0:=a0_ hc0_0
 clear hr0_0 hc0_0
 have HR1:=a0_ hr1
 have HC1:=a0_ hc1
 clear hr1 hc1
 have HB:=a0_ (Below.refl w.heap.size w)
 have H : (impl_partsOk.l0 k l1 l1 (l1.length : Int) 0 l0_0) = some r:=h
 clear h
 have H':=a0_ H
 clear H
 go_enter Try.func36,Try.ntmps36
 go_wp2_with (first | ((with_reducible refine gate_dst (N:=2) rfl ?_);refine box_event ?hg (N:=2) ?hd (cs:=#[.slice A0_0 l0_0.length c0_0]) (t:=25) ?hr ?_;(case hd=>rfl);(case hg=>rfl);(case hr=>first | (go_simp;done) | (go_simp;rfl));intro gb1 hg w3 hbox hb;have BK1:=a0_ (hbox);have GW1:=a0_ ((by rw [hg];exact (below_size hb_) : w.heap.size ≤ gb1));have GE1:=a0_ ((by rw [hg];exact (below_size hb_) : w.heap.size ≤ gb1));replace HB:=a0_ (below_step hb_ hb);clear hb hbox hg))
 repeat (go_quiet (first | ((with_reducible refine gate_dst (N:=2) rfl ?_);refine box_event ?hg (N:=2) ?hd (cs:=#[.slice A0_0 l0_0.length c0_0]) (t:=25) ?hr ?_;(case hd=>rfl);(case hg=>rfl);(case hr=>first | (go_simp;done) | (go_simp;rfl));intro gb1 hg w3 hbox hb;have BK1:=a0_ (hbox);have GW1:=a0_ ((by rw [hg];exact (below_size hb_) : w.heap.size ≤ gb1));have GE1:=a0_ ((by rw [hg];exact (below_size hb_) : w.heap.size ≤ gb1));replace HB:=a0_ (below_step hb_ hb);clear hb hbox hg));try go_wp2_with (first | ((with_reducible refine gate_dst (N:=2) rfl ?_);refine box_event ?hg (N:=2) ?hd (cs:=#[.slice A0_0 l0_0.length c0_0]) (t:=25) ?hr ?_;(case hd=>rfl);(case hg=>rfl);(case hr=>first | (go_simp;done) | (go_simp;rfl));intro gb1 hg w3 hbox hb;have BK1:=a0_ (hbox);have GW1:=a0_ ((by rw [hg];exact (below_size hb_) : w.heap.size ≤ gb1));have GE1:=a0_ ((by rw [hg];exact (below_size hb_) : w.heap.size ≤ gb1));replace HB:=a0_ (below_step hb_ hb);clear hb hbox hg)))
 go_loopg [10] k (fun kq v10 w'=>∃ (x10_1 : Int),v10 = .int .i64 x10_1 ∧ Aside0 (impl_partsOk.l0 kq l1 l1 (l1.length : Int) x10_1 l0_0 = some r) ∧ Aside0 (kq ≤ k) ∧ Aside0 (w'.heap[gb1]? = some (.cells #[(.slice A0_0 l0_0.length c0_0)] 25 (0,0))) ∧ Aside0 (Below w.heap.size w w'))
 case atStart=>exact ⟨(0),(by first | rfl | (simp;done) | (simp [*];done)),H',⟨Nat.le_refl _⟩,⟨by (with_reducible repeat (first | refine blk_drewN ?_ _ | refine blk_drew ?_ | refine blk_alloc ?_ _));exact BK1.out⟩,⟨hb_⟩⟩
 case round =>
  clear H'
  try clear c1
  try clear p2
  try clear c3
  obtain ⟨x10_1,rfl,HA,HK1,BK1,HB⟩:=hrel
  cases gk with
  | zero=>exact absurd HA.out (by simp [impl_partsOk.l0])
  | succ k1 =>
   have H:=HA.out
   clear HA
   simp only [impl_partsOk.l0] at H
   by_cases c4 : x10_1 < (l1.length : Int)
   ·rw [if_pos c4] at H
    have c4b0 : decide (x10_1 < (l1.length : Int)) = true:=decide_eq_true c4
    clear c4
    by_cases c5 : 0 ≤ x10_1
    ·rw [if_pos c5] at H
     have c5b0 : decide (0 ≤ x10_1) = true:=decide_eq_true c5
     clear c5
     by_cases c6 : x10_1 < (l1.length : Int)
     ·rw [if_pos c6] at H
      have c6b0 : decide (x10_1 < (l1.length : Int)) = true:=decide_eq_true c6
      clear c6
      have HC7:=a0_ H
      clear H
      have p3 : 0 ≤ (x10_1 : Int):=of_decide_eq_true (by first | (with_reducible assumption) | assumption)
      have q3 : x10_1 < (l1.length : Int):=of_decide_eq_true (by first | (with_reducible assumption) | assumption)
      obtain ⟨ad3,e3,hx3_0,hx3_1,hx3_2,hx3_3⟩:=at_T35 HR1.out x10_1 p3 q3
      cases e3
      replace hx3_0:=(HB.out.cell (World.block_lt_of_cell? w _ hx3_0)).trans hx3_0
      replace hx3_1:=(HB.out.cell (World.block_lt_of_cell? w _ hx3_1)).trans hx3_1
      replace hx3_2:=(HB.out.cell (World.block_lt_of_cell? w _ hx3_2)).trans hx3_2
      replace hx3_3:=(HB.out.cell (World.block_lt_of_cell? w _ hx3_3)).trans hx3_3
      replace p3:=eq_true p3
      replace q3:=eq_true q3
      go_upto_region 4 with (first | ((with_reducible refine gate_dst (N:=6) rfl ?_);refine box_event ?hg (N:=6) ?hd (cs:=#[.int .i64 0,.bool false,.int .i64 0,.int .i64 0]) (t:=35) ?hr ?_;(case hd=>rfl);(case hg=>rfl);(case hr=>first | (go_simp;done) | (go_simp;rfl));intro gb4 hg w8 hbox hb;have n0_:=kb_ BK1 hb;have n1_:=a0_ (below_step hb_ hb);have n2_:=a0_ (hbox);have n3_:=a0_ ((by rw [hg];exact (below_size hb_) : w.heap.size ≤ gb4));have n4_:=a0_ ((by rw [hg];exact (below_size hb_) : w.heap.size ≤ gb4));have n5_:=a0_ ((by rw [hg];exact Nat.ne_of_lt (blk_lt (bb_ BK1.out)) : gb1 ≠ gb4));have n6_:=a0_ ((by rw [hg];exact Nat.ne_of_gt (blk_lt (bb_ BK1.out)) : gb4 ≠ gb1));clear BK1 HB;have BK1:=n0_;have HB:=n1_;have BK4:=n2_;have GW4:=n3_;have GE4:=n4_;have NB1_4:=n5_;have NB4_1:=n6_;clear n0_ n1_ n2_ n3_ n4_ n5_ n6_;clear hb hbox hg;have hnb9:=NB4_1.out;have hnc9:=NB1_4.out;have hcz10_0 : w8.cell? ⟨gb4,0,none⟩ = some (.int .i64 0):=(blk_cell BK4.out 0).trans rfl;have hcz10_1 : w8.cell? ⟨gb4,1,none⟩ = some (.bool false):=(blk_cell BK4.out 1).trans rfl;have hcz10_2 : w8.cell? ⟨gb4,2,none⟩ = some (.int .i64 0):=(blk_cell BK4.out 2).trans rfl;have hcz10_3 : w8.cell? ⟨gb4,3,none⟩ = some (.int .i64 0):=(blk_cell BK4.out 3).trans rfl;have hfz10_0:=blk_frozen BK4.out 0;have hfz10_1:=blk_frozen BK4.out 1;have hfz10_2:=blk_frozen BK4.out 2;have hfz10_3:=blk_frozen BK4.out 3))
      repeat (go_quiet (first | ((with_reducible refine gate_dst (N:=6) rfl ?_);refine box_event ?hg (N:=6) ?hd (cs:=#[.int .i64 0,.bool false,.int .i64 0,.int .i64 0]) (t:=35) ?hr ?_;(case hd=>rfl);(case hg=>rfl);(case hr=>first | (go_simp;done) | (go_simp;rfl));intro gb4 hg w8 hbox hb;have n0_:=kb_ BK1 hb;have n1_:=a0_ (below_step hb_ hb);have n2_:=a0_ (hbox);have n3_:=a0_ ((by rw [hg];exact (below_size hb_) : w.heap.size ≤ gb4));have n4_:=a0_ ((by rw [hg];exact (below_size hb_) : w.heap.size ≤ gb4));have n5_:=a0_ ((by rw [hg];exact Nat.ne_of_lt (blk_lt (bb_ BK1.out)) : gb1 ≠ gb4));have n6_:=a0_ ((by rw [hg];exact Nat.ne_of_gt (blk_lt (bb_ BK1.out)) : gb4 ≠ gb1));clear BK1 HB;have BK1:=n0_;have HB:=n1_;have BK4:=n2_;have GW4:=n3_;have GE4:=n4_;have NB1_4:=n5_;have NB4_1:=n6_;clear n0_ n1_ n2_ n3_ n4_ n5_ n6_;clear hb hbox hg;have hnb9:=NB4_1.out;have hnc9:=NB1_4.out;have hcz10_0 : w8.cell? ⟨gb4,0,none⟩ = some (.int .i64 0):=(blk_cell BK4.out 0).trans rfl;have hcz10_1 : w8.cell? ⟨gb4,1,none⟩ = some (.bool false):=(blk_cell BK4.out 1).trans rfl;have hcz10_2 : w8.cell? ⟨gb4,2,none⟩ = some (.int .i64 0):=(blk_cell BK4.out 2).trans rfl;have hcz10_3 : w8.cell? ⟨gb4,3,none⟩ = some (.int .i64 0):=(blk_cell BK4.out 3).trans rfl;have hfz10_0:=blk_frozen BK4.out 0;have hfz10_1:=blk_frozen BK4.out 1;have hfz10_2:=blk_frozen BK4.out 2;have hfz10_3:=blk_frozen BK4.out 3));go_upto_region 4 with (first | ((with_reducible refine gate_dst (N:=6) rfl ?_);refine box_event ?hg (N:=6) ?hd (cs:=#[.int .i64 0,.bool false,.int .i64 0,.int .i64 0]) (t:=35) ?hr ?_;(case hd=>rfl);(case hg=>rfl);(case hr=>first | (go_simp;done) | (go_simp;rfl));intro gb4 hg w8 hbox hb;have n0_:=kb_ BK1 hb;have n1_:=a0_ (below_step hb_ hb);have n2_:=a0_ (hbox);have n3_:=a0_ ((by rw [hg];exact (below_size hb_) : w.heap.size ≤ gb4));have n4_:=a0_ ((by rw [hg];exact (below_size hb_) : w.heap.size ≤ gb4));have n5_:=a0_ ((by rw [hg];exact Nat.ne_of_lt (blk_lt (bb_ BK1.out)) : gb1 ≠ gb4));have n6_:=a0_ ((by rw [hg];exact Nat.ne_of_gt (blk_lt (bb_ BK1.out)) : gb4 ≠ gb1));clear BK1 HB;have BK1:=n0_;have HB:=n1_;have BK4:=n2_;have GW4:=n3_;have GE4:=n4_;have NB1_4:=n5_;have NB4_1:=n6_;clear n0_ n1_ n2_ n3_ n4_ n5_ n6_;clear hb hbox hg;have hnb9:=NB4_1.out;have hnc9:=NB1_4.out;have hcz10_0 : w8.cell? ⟨gb4,0,none⟩ = some (.int .i64 0):=(blk_cell BK4.out 0).trans rfl;have hcz10_1 : w8.cell? ⟨gb4,1,none⟩ = some (.bool false):=(blk_cell BK4.out 1).trans rfl;have hcz10_2 : w8.cell? ⟨gb4,2,none⟩ = some (.int .i64 0):=(blk_cell BK4.out 2).trans rfl;have hcz10_3 : w8.cell? ⟨gb4,3,none⟩ = some (.int .i64 0):=(blk_cell BK4.out 3).trans rfl;have hfz10_0:=blk_frozen BK4.out 0;have hfz10_1:=blk_frozen BK4.out 1;have hfz10_2:=blk_frozen BK4.out 2;have hfz10_3:=blk_frozen BK4.out 3)))
      (try simp only [Act.put,s1_,s2_,s3_])
      go_cut [32] (fun v32 wc=>∃ (kq : Nat) (x32_6 : Bool),v32 = .bool x32_6 ∧ Aside0 (impl_partsOk.j1 kq l1 x10_1 l1 (l1.length : Int) x10_1 x32_6 l0_0 ((rd_T35 l1 x10_1).f0) ((rd_T35 l1 x10_1).f1) ((rd_T35 l1 x10_1).f2) ((rd_T35 l1 x10_1).f3) = some r) ∧ Aside0 (kq ≤ k1) ∧ Aside0 (wc.heap[gb1]? = some (.cells #[(.slice A0_0 l0_0.length c0_0)] 25 (0,0))) ∧ Aside0 (wc.heap[gb4]? = some (.cells #[.int .i64 ((rd_T35 l1 x10_1).f0),.bool ((rd_T35 l1 x10_1).f1),.int .i64 ((rd_T35 l1 x10_1).f2),.int .i64 ((rd_T35 l1 x10_1).f3)] 35 (0,0))) ∧ Aside0 (Below w.heap.size w wc))
      case first =>
       have H:=HC7.out
       clear HC7
       replace H:=Option.bind_eq_some_iff.mp H
       obtain ⟨t5,A110,H⟩:=H
       try dsimp only at H
       have A11:=a0_ A110
       clear A110
       by_cases c12 : t5 = true
       ·subst c12
        have H1 : ((impl_within.f ((rd_T35 l1 x10_1).f0) 0 5).bind fun t6=>(if t6 = true then (impl_partsOk.j1 k1 l1 x10_1 l1 (l1.length : Int) x10_1 ((((rd_T35 l1 x10_1).f0) == 0) != (x10_1 == 0)) l0_0 ((rd_T35 l1 x10_1).f0) ((rd_T35 l1 x10_1).f1) ((rd_T35 l1 x10_1).f2) ((rd_T35 l1 x10_1).f3)) else (impl_partsOk.j1 k1 l1 x10_1 l1 (l1.length : Int) x10_1 true l0_0 ((rd_T35 l1 x10_1).f0) ((rd_T35 l1 x10_1).f1) ((rd_T35 l1 x10_1).f2) ((rd_T35 l1 x10_1).f3)))) = some r:=by rw [if_pos rfl] at H;exact H
        clear H
        have H:=H1
        clear H1
        replace H:=Option.bind_eq_some_iff.mp H
        obtain ⟨t6,A130,H⟩:=H
        try dsimp only at H
        have A13:=a0_ A130
        clear A130
        by_cases c14 : t6 = true
        ·subst c14
         have H1 : (impl_partsOk.j1 k1 l1 x10_1 l1 (l1.length : Int) x10_1 ((((rd_T35 l1 x10_1).f0) == 0) != (x10_1 == 0)) l0_0 ((rd_T35 l1 x10_1).f0) ((rd_T35 l1 x10_1).f1) ((rd_T35 l1 x10_1).f2) ((rd_T35 l1 x10_1).f3)) = some r:=by rw [if_pos rfl] at H;exact H
         clear H
         have H:=H1
         clear H1
         have H':=a0_ H
         clear H
         have hnb15:=NB4_1.out
         have hnc15:=NB1_4.out
         have hcz16_0 : w8.cell? ⟨gb4,0,none⟩ = some (.int .i64 0):=(blk_cell BK4.out 0).trans rfl
         have hcz16_1 : w8.cell? ⟨gb4,1,none⟩ = some (.bool false):=(blk_cell BK4.out 1).trans rfl
         have hcz16_2 : w8.cell? ⟨gb4,2,none⟩ = some (.int .i64 0):=(blk_cell BK4.out 2).trans rfl
         have hcz16_3 : w8.cell? ⟨gb4,3,none⟩ = some (.int .i64 0):=(blk_cell BK4.out 3).trans rfl
         have hfz16_0:=blk_frozen BK4.out 0
         have hfz16_1:=blk_frozen BK4.out 1
         have hfz16_2:=blk_frozen BK4.out 2
         have hfz16_3:=blk_frozen BK4.out 3
         go_wp2_with (first | (go_at_call 51;(with_reducible refine (impl_codeOk.calls ((rd_T35 l1 x10_1).f3) true _ A11.out).mono ?_);rintro e w' ⟨rfl,⟨nd,rfl⟩⟩;(try first | exact ⟨rfl,_,World.drewN_drewN _ _ _⟩ | exact ⟨rfl,_,Eq.trans (World.drewN_drewN _ _ _) (congrArg (World.drewN _) (Nat.add_assoc _ _ _))⟩)) | (go_at_call 50;(with_reducible refine (impl_within.calls ((rd_T35 l1 x10_1).f0) 0 5 true _ A13.out).mono ?_);rintro e w' ⟨rfl,⟨nd,rfl⟩⟩;(try first | exact ⟨rfl,_,World.drewN_drewN _ _ _⟩ | exact ⟨rfl,_,Eq.trans (World.drewN_drewN _ _ _) (congrArg (World.drewN _) (Nat.add_assoc _ _ _))⟩)))
         repeat (go_quiet (first | (go_at_call 51;(with_reducible refine (impl_codeOk.calls ((rd_T35 l1 x10_1).f3) true _ A11.out).mono ?_);rintro e w' ⟨rfl,⟨nd,rfl⟩⟩;(try first | exact ⟨rfl,_,World.drewN_drewN _ _ _⟩ | exact ⟨rfl,_,Eq.trans (World.drewN_drewN _ _ _) (congrArg (World.drewN _) (Nat.add_assoc _ _ _))⟩)) | (go_at_call 50;(with_reducible refine (impl_within.calls ((rd_T35 l1 x10_1).f0) 0 5 true _ A13.out).mono ?_);rintro e w' ⟨rfl,⟨nd,rfl⟩⟩;(try first | exact ⟨rfl,_,World.drewN_drewN _ _ _⟩ | exact ⟨rfl,_,Eq.trans (World.drewN_drewN _ _ _) (congrArg (World.drewN _) (Nat.add_assoc _ _ _))⟩)));try go_wp2_with (first | (go_at_call 51;(with_reducible refine (impl_codeOk.calls ((rd_T35 l1 x10_1).f3) true _ A11.out).mono ?_);rintro e w' ⟨rfl,⟨nd,rfl⟩⟩;(try first | exact ⟨rfl,_,World.drewN_drewN _ _ _⟩ | exact ⟨rfl,_,Eq.trans (World.drewN_drewN _ _ _) (congrArg (World.drewN _) (Nat.add_assoc _ _ _))⟩)) | (go_at_call 50;(with_reducible refine (impl_within.calls ((rd_T35 l1 x10_1).f0) 0 5 true _ A13.out).mono ?_);rintro e w' ⟨rfl,⟨nd,rfl⟩⟩;(try first | exact ⟨rfl,_,World.drewN_drewN _ _ _⟩ | exact ⟨rfl,_,Eq.trans (World.drewN_drewN _ _ _) (congrArg (World.drewN _) (Nat.add_assoc _ _ _))⟩))))
         go_meet
         case rel=>exact ⟨_,(((((rd_T35 l1 x10_1).f0) == 0) != (x10_1 == 0))),(by first | rfl | (simp;done) | (simp [*];done)),H',⟨by have:=HK1.out;first | omega | exact Nat.le_refl _⟩,⟨by (with_reducible repeat (first | refine blk_drewN ?_ _ | refine blk_drew ?_ | refine blk_alloc ?_ _));refine blk_far ?_ NB1_4.out _;(with_reducible repeat (first | refine blk_drewN ?_ _ | refine blk_drew ?_ | refine blk_alloc ?_ _));refine blk_far ?_ NB1_4.out _;(with_reducible repeat (first | refine blk_drewN ?_ _ | refine blk_drew ?_ | refine blk_alloc ?_ _));refine blk_far ?_ NB1_4.out _;(with_reducible repeat (first | refine blk_drewN ?_ _ | refine blk_drew ?_ | refine blk_alloc ?_ _));refine blk_far ?_ NB1_4.out _;(with_reducible repeat (first | refine blk_drewN ?_ _ | refine blk_drew ?_ | refine blk_alloc ?_ _));exact BK1.out⟩,⟨by (with_reducible repeat (first | refine blk_drewN ?_ _ | refine blk_drew ?_ | refine blk_alloc ?_ _));refine blk_put (cs:=#[.int .i64 ((rd_T35 l1 x10_1).f0),.bool ((rd_T35 l1 x10_1).f1),.int .i64 ((rd_T35 l1 x10_1).f2),.int .i64 0]) ?_ 3 _ rfl;(with_reducible repeat (first | refine blk_drewN ?_ _ | refine blk_drew ?_ | refine blk_alloc ?_ _));refine blk_put (cs:=#[.int .i64 ((rd_T35 l1 x10_1).f0),.bool ((rd_T35 l1 x10_1).f1),.int .i64 0,.int .i64 0]) ?_ 2 _ rfl;(with_reducible repeat (first | refine blk_drewN ?_ _ | refine blk_drew ?_ | refine blk_alloc ?_ _));refine blk_put (cs:=#[.int .i64 ((rd_T35 l1 x10_1).f0),.bool false,.int .i64 0,.int .i64 0]) ?_ 1 _ rfl;(with_reducible repeat (first | refine blk_drewN ?_ _ | refine blk_drew ?_ | refine blk_alloc ?_ _));refine blk_put (cs:=#[.int .i64 0,.bool false,.int .i64 0,.int .i64 0]) ?_ 0 _ rfl;(with_reducible repeat (first | refine blk_drewN ?_ _ | refine blk_drew ?_ | refine blk_alloc ?_ _));exact BK4.out⟩,⟨hb_⟩⟩
        ·replace c14:=Bool.eq_false_iff.mpr c14
         subst c14
         have H1 : (impl_partsOk.j1 k1 l1 x10_1 l1 (l1.length : Int) x10_1 true l0_0 ((rd_T35 l1 x10_1).f0) ((rd_T35 l1 x10_1).f1) ((rd_T35 l1 x10_1).f2) ((rd_T35 l1 x10_1).f3)) = some r:=by rw [if_neg (show ¬ (false = true) by decide)] at H;exact H
         clear H
         have H:=H1
         clear H1
         have H':=a0_ H
         clear H
         have hnb17:=NB4_1.out
         have hnc17:=NB1_4.out
         have hcz18_0 : w8.cell? ⟨gb4,0,none⟩ = some (.int .i64 0):=(blk_cell BK4.out 0).trans rfl
         have hcz18_1 : w8.cell? ⟨gb4,1,none⟩ = some (.bool false):=(blk_cell BK4.out 1).trans rfl
         have hcz18_2 : w8.cell? ⟨gb4,2,none⟩ = some (.int .i64 0):=(blk_cell BK4.out 2).trans rfl
         have hcz18_3 : w8.cell? ⟨gb4,3,none⟩ = some (.int .i64 0):=(blk_cell BK4.out 3).trans rfl
         have hfz18_0:=blk_frozen BK4.out 0
         have hfz18_1:=blk_frozen BK4.out 1
         have hfz18_2:=blk_frozen BK4.out 2
         have hfz18_3:=blk_frozen BK4.out 3
         go_wp2_with (first | (go_at_call 51;(with_reducible refine (impl_codeOk.calls ((rd_T35 l1 x10_1).f3) true _ A11.out).mono ?_);rintro e w' ⟨rfl,⟨nd,rfl⟩⟩;(try first | exact ⟨rfl,_,World.drewN_drewN _ _ _⟩ | exact ⟨rfl,_,Eq.trans (World.drewN_drewN _ _ _) (congrArg (World.drewN _) (Nat.add_assoc _ _ _))⟩)) | (go_at_call 50;(with_reducible refine (impl_within.calls ((rd_T35 l1 x10_1).f0) 0 5 false _ A13.out).mono ?_);rintro e w' ⟨rfl,⟨nd,rfl⟩⟩;(try first | exact ⟨rfl,_,World.drewN_drewN _ _ _⟩ | exact ⟨rfl,_,Eq.trans (World.drewN_drewN _ _ _) (congrArg (World.drewN _) (Nat.add_assoc _ _ _))⟩)))
         repeat (go_quiet (first | (go_at_call 51;(with_reducible refine (impl_codeOk.calls ((rd_T35 l1 x10_1).f3) true _ A11.out).mono ?_);rintro e w' ⟨rfl,⟨nd,rfl⟩⟩;(try first | exact ⟨rfl,_,World.drewN_drewN _ _ _⟩ | exact ⟨rfl,_,Eq.trans (World.drewN_drewN _ _ _) (congrArg (World.drewN _) (Nat.add_assoc _ _ _))⟩)) | (go_at_call 50;(with_reducible refine (impl_within.calls ((rd_T35 l1 x10_1).f0) 0 5 false _ A13.out).mono ?_);rintro e w' ⟨rfl,⟨nd,rfl⟩⟩;(try first | exact ⟨rfl,_,World.drewN_drewN _ _ _⟩ | exact ⟨rfl,_,Eq.trans (World.drewN_drewN _ _ _) (congrArg (World.drewN _) (Nat.add_assoc _ _ _))⟩)));try go_wp2_with (first | (go_at_call 51;(with_reducible refine (impl_codeOk.calls ((rd_T35 l1 x10_1).f3) true _ A11.out).mono ?_);rintro e w' ⟨rfl,⟨nd,rfl⟩⟩;(try first | exact ⟨rfl,_,World.drewN_drewN _ _ _⟩ | exact ⟨rfl,_,Eq.trans (World.drewN_drewN _ _ _) (congrArg (World.drewN _) (Nat.add_assoc _ _ _))⟩)) | (go_at_call 50;(with_reducible refine (impl_within.calls ((rd_T35 l1 x10_1).f0) 0 5 false _ A13.out).mono ?_);rintro e w' ⟨rfl,⟨nd,rfl⟩⟩;(try first | exact ⟨rfl,_,World.drewN_drewN _ _ _⟩ | exact ⟨rfl,_,Eq.trans (World.drewN_drewN _ _ _) (congrArg (World.drewN _) (Nat.add_assoc _ _ _))⟩))))
         go_meet
         case rel=>exact ⟨_,(true),(by first | rfl | (simp;done) | (simp [*];done)),H',⟨by have:=HK1.out;first | omega | exact Nat.le_refl _⟩,⟨by (with_reducible repeat (first | refine blk_drewN ?_ _ | refine blk_drew ?_ | refine blk_alloc ?_ _));refine blk_far ?_ NB1_4.out _;(with_reducible repeat (first | refine blk_drewN ?_ _ | refine blk_drew ?_ | refine blk_alloc ?_ _));refine blk_far ?_ NB1_4.out _;(with_reducible repeat (first | refine blk_drewN ?_ _ | refine blk_drew ?_ | refine blk_alloc ?_ _));refine blk_far ?_ NB1_4.out _;(with_reducible repeat (first | refine blk_drewN ?_ _ | refine blk_drew ?_ | refine blk_alloc ?_ _));refine blk_far ?_ NB1_4.out _;(with_reducible repeat (first | refine blk_drewN ?_ _ | refine blk_drew ?_ | refine blk_alloc ?_ _));exact BK1.out⟩,⟨by (with_reducible repeat (first | refine blk_drewN ?_ _ | refine blk_drew ?_ | refine blk_alloc ?_ _));refine blk_put (cs:=#[.int .i64 ((rd_T35 l1 x10_1).f0),.bool ((rd_T35 l1 x10_1).f1),.int .i64 ((rd_T35 l1 x10_1).f2),.int .i64 0]) ?_ 3 _ rfl;(with_reducible repeat (first | refine blk_drewN ?_ _ | refine blk_drew ?_ | refine blk_alloc ?_ _));refine blk_put (cs:=#[.int .i64 ((rd_T35 l1 x10_1).f0),.bool ((rd_T35 l1 x10_1).f1),.int .i64 0,.int .i64 0]) ?_ 2 _ rfl;(with_reducible repeat (first | refine blk_drewN ?_ _ | refine blk_drew ?_ | refine blk_alloc ?_ _));refine blk_put (cs:=#[.int .i64 ((rd_T35 l1 x10_1).f0),.bool false,.int .i64 0,.int .i64 0]) ?_ 1 _ rfl;(with_reducible repeat (first | refine blk_drewN ?_ _ | refine blk_drew ?_ | refine blk_alloc ?_ _));refine blk_put (cs:=#[.int .i64 0,.bool false,.int .i64 0,.int .i64 0]) ?_ 0 _ rfl;(with_reducible repeat (first | refine blk_drewN ?_ _ | refine blk_drew ?_ | refine blk_alloc ?_ _));exact BK4.out⟩,⟨hb_⟩⟩
       ·replace c12:=Bool.eq_false_iff.mpr c12
        subst c12
        have H1 : (impl_partsOk.j1 k1 l1 x10_1 l1 (l1.length : Int) x10_1 true l0_0 ((rd_T35 l1 x10_1).f0) ((rd_T35 l1 x10_1).f1) ((rd_T35 l1 x10_1).f2) ((rd_T35 l1 x10_1).f3)) = some r:=by rw [if_neg (show ¬ (false = true) by decide)] at H;exact H
        clear H
        have H:=H1
        clear H1
        have H':=a0_ H
        clear H
        have hnb19:=NB4_1.out
        have hnc19:=NB1_4.out
        have hcz20_0 : w8.cell? ⟨gb4,0,none⟩ = some (.int .i64 0):=(blk_cell BK4.out 0).trans rfl
        have hcz20_1 : w8.cell? ⟨gb4,1,none⟩ = some (.bool false):=(blk_cell BK4.out 1).trans rfl
        have hcz20_2 : w8.cell? ⟨gb4,2,none⟩ = some (.int .i64 0):=(blk_cell BK4.out 2).trans rfl
        have hcz20_3 : w8.cell? ⟨gb4,3,none⟩ = some (.int .i64 0):=(blk_cell BK4.out 3).trans rfl
        have hfz20_0:=blk_frozen BK4.out 0
        have hfz20_1:=blk_frozen BK4.out 1
        have hfz20_2:=blk_frozen BK4.out 2
        have hfz20_3:=blk_frozen BK4.out 3
        go_wp2_with (first | (go_at_call 51;(with_reducible refine (impl_codeOk.calls ((rd_T35 l1 x10_1).f3) false _ A11.out).mono ?_);rintro e w' ⟨rfl,⟨nd,rfl⟩⟩;(try first | exact ⟨rfl,_,World.drewN_drewN _ _ _⟩ | exact ⟨rfl,_,Eq.trans (World.drewN_drewN _ _ _) (congrArg (World.drewN _) (Nat.add_assoc _ _ _))⟩)))
        repeat (go_quiet (first | (go_at_call 51;(with_reducible refine (impl_codeOk.calls ((rd_T35 l1 x10_1).f3) false _ A11.out).mono ?_);rintro e w' ⟨rfl,⟨nd,rfl⟩⟩;(try first | exact ⟨rfl,_,World.drewN_drewN _ _ _⟩ | exact ⟨rfl,_,Eq.trans (World.drewN_drewN _ _ _) (congrArg (World.drewN _) (Nat.add_assoc _ _ _))⟩)));try go_wp2_with (first | (go_at_call 51;(with_reducible refine (impl_codeOk.calls ((rd_T35 l1 x10_1).f3) false _ A11.out).mono ?_);rintro e w' ⟨rfl,⟨nd,rfl⟩⟩;(try first | exact ⟨rfl,_,World.drewN_drewN _ _ _⟩ | exact ⟨rfl,_,Eq.trans (World.drewN_drewN _ _ _) (congrArg (World.drewN _) (Nat.add_assoc _ _ _))⟩))))
        go_meet
        case rel=>exact ⟨_,(true),(by first | rfl | (simp;done) | (simp [*];done)),H',⟨by have:=HK1.out;first | omega | exact Nat.le_refl _⟩,⟨by (with_reducible repeat (first | refine blk_drewN ?_ _ | refine blk_drew ?_ | refine blk_alloc ?_ _));refine blk_far ?_ NB1_4.out _;(with_reducible repeat (first | refine blk_drewN ?_ _ | refine blk_drew ?_ | refine blk_alloc ?_ _));refine blk_far ?_ NB1_4.out _;(with_reducible repeat (first | refine blk_drewN ?_ _ | refine blk_drew ?_ | refine blk_alloc ?_ _));refine blk_far ?_ NB1_4.out _;(with_reducible repeat (first | refine blk_drewN ?_ _ | refine blk_drew ?_ | refine blk_alloc ?_ _));refine blk_far ?_ NB1_4.out _;(with_reducible repeat (first | refine blk_drewN ?_ _ | refine blk_drew ?_ | refine blk_alloc ?_ _));exact BK1.out⟩,⟨by (with_reducible repeat (first | refine blk_drewN ?_ _ | refine blk_drew ?_ | refine blk_alloc ?_ _));refine blk_put (cs:=#[.int .i64 ((rd_T35 l1 x10_1).f0),.bool ((rd_T35 l1 x10_1).f1),.int .i64 ((rd_T35 l1 x10_1).f2),.int .i64 0]) ?_ 3 _ rfl;(with_reducible repeat (first | refine blk_drewN ?_ _ | refine blk_drew ?_ | refine blk_alloc ?_ _));refine blk_put (cs:=#[.int .i64 ((rd_T35 l1 x10_1).f0),.bool ((rd_T35 l1 x10_1).f1),.int .i64 0,.int .i64 0]) ?_ 2 _ rfl;(with_reducible repeat (first | refine blk_drewN ?_ _ | refine blk_drew ?_ | refine blk_alloc ?_ _));refine blk_put (cs:=#[.int .i64 ((rd_T35 l1 x10_1).f0),.bool false,.int .i64 0,.int .i64 0]) ?_ 1 _ rfl;(with_reducible repeat (first | refine blk_drewN ?_ _ | refine blk_drew ?_ | refine blk_alloc ?_ _));refine blk_put (cs:=#[.int .i64 0,.bool false,.int .i64 0,.int .i64 0]) ?_ 0 _ rfl;(with_reducible repeat (first | refine blk_drewN ?_ _ | refine blk_drew ?_ | refine blk_alloc ?_ _));exact BK4.out⟩,⟨hb_⟩⟩
      case rest =>
       clear HC7
       try clear c1
       try clear p2
       try clear c3
       try clear p3
       try clear q3
       try clear hx3
       try clear c4
       try clear c4b0
       try clear c5
       try clear c5b0
       try clear c6
       try clear c6b0
       try clear c9
       try clear c12
       try clear c14
       try clear c15
       try clear c17
       try clear c19
       try clear hcz10_0
       try clear hcz10_1
       try clear hcz10_2
       try clear hcz10_3
       try clear hcz16_0
       try clear hcz16_1
       try clear hcz16_2
       try clear hcz16_3
       try clear hcz18_0
       try clear hcz18_1
       try clear hcz18_2
       try clear hcz18_3
       try clear hcz20_0
       try clear hcz20_1
       try clear hcz20_2
       try clear hcz20_3
       try clear hfz10_0
       try clear hfz10_1
       try clear hfz10_2
       try clear hfz10_3
       try clear hfz16_0
       try clear hfz16_1
       try clear hfz16_2
       try clear hfz16_3
       try clear hfz18_0
       try clear hfz18_1
       try clear hfz18_2
       try clear hfz18_3
       try clear hfz20_0
       try clear hfz20_1
       try clear hfz20_2
       try clear hfz20_3
       try clear hx3_0
       try clear hx3_1
       try clear hx3_2
       try clear hx3_3
       try clear p2
       try clear p3
       try clear q3
       obtain ⟨kq,x32_6,rfl,HA,HJ6,BK1,BK4,HB⟩:=hcut
       cases kq with
       | zero=>exact absurd HA.out (by simp [impl_partsOk.j1])
       | succ kj6 =>
        have H:=HA.out
        clear HA
        simp only [impl_partsOk.j1] at H
        by_cases c21 : x32_6 = true
        ·subst c21
         have H1 : (some false) = some r:=by rw [if_pos rfl] at H;exact H
         clear H
         have H:=H1
         clear H1
         obtain rfl:=Option.some.inj H
         go_wp2
         repeat (go_quiet (fail);try go_wp2)
         go_ret
         exact ⟨by first | rfl | (simp [errW_none,errW_some] <;> rfl) | (simp [*,errW_none,errW_some] <;> rfl),hb_⟩
        ·replace c21:=Bool.eq_false_iff.mpr c21
         subst c21
         have H1 : (if x10_1 > 0 then (if 0 ≤ (wrap64 (x10_1 - 1)) then (if (wrap64 (x10_1 - 1)) < (l1.length : Int) then (if ((rd_T35 l1 x10_1).f0) > ((rd_T35 l1 (wrap64 (x10_1 - 1))).f0) then (if (rd_T35 l1 (wrap64 (x10_1 - 1))).f1 = true then (impl_partsOk.j2 kj6 l1 x10_1 l1 (l1.length : Int) x10_1 (!(((rd_T35 l1 x10_1).f0) == (wrap64 (((rd_T35 l1 (wrap64 (x10_1 - 1))).f0) + 1)))) l0_0 ((rd_T35 l1 x10_1).f0) ((rd_T35 l1 x10_1).f1) ((rd_T35 l1 x10_1).f2) ((rd_T35 l1 x10_1).f3)) else (impl_partsOk.j2 kj6 l1 x10_1 l1 (l1.length : Int) x10_1 (!false) l0_0 ((rd_T35 l1 x10_1).f0) ((rd_T35 l1 x10_1).f1) ((rd_T35 l1 x10_1).f2) ((rd_T35 l1 x10_1).f3))) else (impl_partsOk.j2 kj6 l1 x10_1 l1 (l1.length : Int) x10_1 false l0_0 ((rd_T35 l1 x10_1).f0) ((rd_T35 l1 x10_1).f1) ((rd_T35 l1 x10_1).f2) ((rd_T35 l1 x10_1).f3))) else (none)) else (none)) else (impl_partsOk.j2 kj6 l1 x10_1 l1 (l1.length : Int) x10_1 false l0_0 ((rd_T35 l1 x10_1).f0) ((rd_T35 l1 x10_1).f1) ((rd_T35 l1 x10_1).f2) ((rd_T35 l1 x10_1).f3))) = some r:=by rw [if_neg (show ¬ (false = true) by decide)] at H;exact H
         clear H
         have H:=H1
         clear H1
         have HC22:=a0_ H
         clear H
         go_upto_region 6 with (fail)
         repeat (go_quiet (fail);go_upto_region 6 with (fail))
         go_cut [66] (fun v66 wc=>∃ (kq : Nat) (x66_21 : Bool),v66 = .bool x66_21 ∧ Aside0 (impl_partsOk.j2 kq l1 x10_1 l1 (l1.length : Int) x10_1 x66_21 l0_0 ((rd_T35 l1 x10_1).f0) ((rd_T35 l1 x10_1).f1) ((rd_T35 l1 x10_1).f2) ((rd_T35 l1 x10_1).f3) = some r) ∧ Aside0 (kq ≤ kj6) ∧ Aside0 (wc.heap[gb1]? = some (.cells #[(.slice A0_0 l0_0.length c0_0)] 25 (0,0))) ∧ Aside0 (wc.heap[gb4]? = some (.cells #[.int .i64 ((rd_T35 l1 x10_1).f0),.bool ((rd_T35 l1 x10_1).f1),.int .i64 ((rd_T35 l1 x10_1).f2),.int .i64 ((rd_T35 l1 x10_1).f3)] 35 (0,0))) ∧ Aside0 (Below w.heap.size w wc))
         case first =>
          have H:=HC22.out
          clear HC22
          by_cases c23 : x10_1 > 0
          ·rw [if_pos c23] at H
           have c23b0 : decide (0 < x10_1) = true:=decide_eq_true c23
           clear c23
           (first | rw [c23b0] | (simp only [i64_w,i32_w];rw [c23b0]) | skip)
           obtain ⟨ji24,hji24⟩ : ∃ j_ : Int,(wrap64 (x10_1 - 1)) = j_:=⟨_,rfl⟩
           replace H : (if 0 ≤ (ji24) then (if (ji24) < (l1.length : Int) then (if ((rd_T35 l1 x10_1).f0) > ((rd_T35 l1 (ji24)).f0) then (if (rd_T35 l1 (ji24)).f1 = true then (impl_partsOk.j2 kj6 l1 x10_1 l1 (l1.length : Int) x10_1 (!(((rd_T35 l1 x10_1).f0) == (wrap64 (((rd_T35 l1 (ji24)).f0) + 1)))) l0_0 ((rd_T35 l1 x10_1).f0) ((rd_T35 l1 x10_1).f1) ((rd_T35 l1 x10_1).f2) ((rd_T35 l1 x10_1).f3)) else (impl_partsOk.j2 kj6 l1 x10_1 l1 (l1.length : Int) x10_1 (!false) l0_0 ((rd_T35 l1 x10_1).f0) ((rd_T35 l1 x10_1).f1) ((rd_T35 l1 x10_1).f2) ((rd_T35 l1 x10_1).f3))) else (impl_partsOk.j2 kj6 l1 x10_1 l1 (l1.length : Int) x10_1 false l0_0 ((rd_T35 l1 x10_1).f0) ((rd_T35 l1 x10_1).f1) ((rd_T35 l1 x10_1).f2) ((rd_T35 l1 x10_1).f3))) else (none)) else (none)) = some r:=by first | (rw [hji24] at H;exact H) | (simp only [hji24] at H ⊢;exact H)
           have hji24w : (IntKind.i64.wrap (x10_1 - 1)) = ji24:=(i64_w _).trans hji24
           by_cases c25 : 0 ≤ (ji24)
           ·rw [if_pos c25] at H
            have c25b0 : decide (0 ≤ (ji24)) = true:=decide_eq_true c25
            clear c25
            by_cases c26 : (ji24) < (l1.length : Int)
            ·rw [if_pos c26] at H
             have c26b0 : decide ((ji24) < (l1.length : Int)) = true:=decide_eq_true c26
             clear c26
             by_cases c27 : ((rd_T35 l1 x10_1).f0) > ((rd_T35 l1 (ji24)).f0)
             ·rw [if_pos c27] at H
              have c27b0 : decide (((rd_T35 l1 (ji24)).f0) < ((rd_T35 l1 x10_1).f0)) = true:=decide_eq_true c27
              clear c27
              obtain ⟨bq28,hbq28⟩ : ∃ b_ : Bool,b_ = ((rd_T35 l1 (ji24)).f1):=⟨_,rfl⟩
              replace H : (if bq28 = true then (impl_partsOk.j2 kj6 l1 x10_1 l1 (l1.length : Int) x10_1 (!(((rd_T35 l1 x10_1).f0) == (wrap64 (((rd_T35 l1 (ji24)).f0) + 1)))) l0_0 ((rd_T35 l1 x10_1).f0) ((rd_T35 l1 x10_1).f1) ((rd_T35 l1 x10_1).f2) ((rd_T35 l1 x10_1).f3)) else (impl_partsOk.j2 kj6 l1 x10_1 l1 (l1.length : Int) x10_1 (!false) l0_0 ((rd_T35 l1 x10_1).f0) ((rd_T35 l1 x10_1).f1) ((rd_T35 l1 x10_1).f2) ((rd_T35 l1 x10_1).f3))) = some r:=by rw [← hbq28] at H;exact H
              have Nbq28:=a0_ hbq28
              clear hbq28
              by_cases c29 : bq28 = true
              ·subst c29
               have H1 : (impl_partsOk.j2 kj6 l1 x10_1 l1 (l1.length : Int) x10_1 (!(((rd_T35 l1 x10_1).f0) == (wrap64 (((rd_T35 l1 (ji24)).f0) + 1)))) l0_0 ((rd_T35 l1 x10_1).f0) ((rd_T35 l1 x10_1).f1) ((rd_T35 l1 x10_1).f2) ((rd_T35 l1 x10_1).f3)) = some r:=by rw [if_pos rfl] at H;exact H
               clear H
               have H:=H1
               clear H1
               have H':=a0_ H
               clear H
               have hnb30:=NB4_1.out
               have hnc30:=NB1_4.out
               have hcz31_0 : wc.cell? ⟨gb4,0,none⟩ = some (.int .i64 ((rd_T35 l1 x10_1).f0)):=(blk_cell BK4.out 0).trans rfl
               have hcz31_1 : wc.cell? ⟨gb4,1,none⟩ = some (.bool ((rd_T35 l1 x10_1).f1)):=(blk_cell BK4.out 1).trans rfl
               have hcz31_2 : wc.cell? ⟨gb4,2,none⟩ = some (.int .i64 ((rd_T35 l1 x10_1).f2)):=(blk_cell BK4.out 2).trans rfl
               have hcz31_3 : wc.cell? ⟨gb4,3,none⟩ = some (.int .i64 ((rd_T35 l1 x10_1).f3)):=(blk_cell BK4.out 3).trans rfl
               have hfz31_0:=blk_frozen BK4.out 0
               have hfz31_1:=blk_frozen BK4.out 1
               have hfz31_2:=blk_frozen BK4.out 2
               have hfz31_3:=blk_frozen BK4.out 3
               have p7 : 0 ≤ ((ji24) : Int):=of_decide_eq_true (by first | (with_reducible assumption) | assumption)
               have q7 : (ji24) < (l1.length : Int):=of_decide_eq_true (by first | (with_reducible assumption) | assumption)
               obtain ⟨ad7,e7,hx7_0,hx7_1,hx7_2,hx7_3⟩:=at_T35 HR1.out (ji24) p7 q7
               (try rw [← Nbq28.out] at hx7_1)
               obtain rfl : ad3 = ad7:=(by injection e7)
               replace hx7_0:=(HB.out.cell (World.block_lt_of_cell? w _ hx7_0)).trans hx7_0
               replace hx7_1:=(HB.out.cell (World.block_lt_of_cell? w _ hx7_1)).trans hx7_1
               replace hx7_2:=(HB.out.cell (World.block_lt_of_cell? w _ hx7_2)).trans hx7_2
               replace hx7_3:=(HB.out.cell (World.block_lt_of_cell? w _ hx7_3)).trans hx7_3
               replace p7:=eq_true p7
               replace q7:=eq_true q7
               have p8 : 0 ≤ ((ji24) : Int):=of_decide_eq_true (by first | (with_reducible assumption) | assumption)
               have q8 : (ji24) < (l1.length : Int):=of_decide_eq_true (by first | (with_reducible assumption) | assumption)
               obtain ⟨ad8,e8,hx8_0,hx8_1,hx8_2,hx8_3⟩:=at_T35 HR1.out (ji24) p8 q8
               (try rw [← Nbq28.out] at hx8_1)
               obtain rfl : ad3 = ad8:=(by injection e8)
               replace hx8_0:=(HB.out.cell (World.block_lt_of_cell? w _ hx8_0)).trans hx8_0
               replace hx8_1:=(HB.out.cell (World.block_lt_of_cell? w _ hx8_1)).trans hx8_1
               replace hx8_2:=(HB.out.cell (World.block_lt_of_cell? w _ hx8_2)).trans hx8_2
               replace hx8_3:=(HB.out.cell (World.block_lt_of_cell? w _ hx8_3)).trans hx8_3
               replace p8:=eq_true p8
               replace q8:=eq_true q8
               have p9 : 0 ≤ ((ji24) : Int):=of_decide_eq_true (by first | (with_reducible assumption) | assumption)
               have q9 : (ji24) < (l1.length : Int):=of_decide_eq_true (by first | (with_reducible assumption) | assumption)
               obtain ⟨ad9,e9,hx9_0,hx9_1,hx9_2,hx9_3⟩:=at_T35 HR1.out (ji24) p9 q9
               (try rw [← Nbq28.out] at hx9_1)
               obtain rfl : ad3 = ad9:=(by injection e9)
               replace hx9_0:=(HB.out.cell (World.block_lt_of_cell? w _ hx9_0)).trans hx9_0
               replace hx9_1:=(HB.out.cell (World.block_lt_of_cell? w _ hx9_1)).trans hx9_1
               replace hx9_2:=(HB.out.cell (World.block_lt_of_cell? w _ hx9_2)).trans hx9_2
               replace hx9_3:=(HB.out.cell (World.block_lt_of_cell? w _ hx9_3)).trans hx9_3
               replace p9:=eq_true p9
               replace q9:=eq_true q9
               go_wp2
               repeat (go_quiet (fail);try go_wp2)
               go_meet
               case rel=>exact ⟨_,(!(((rd_T35 l1 x10_1).f0) == (wrap64 (((rd_T35 l1 (ji24)).f0) + 1)))),(by first | rfl | (simp;done) | (simp only [← hji24] <;> (first | rfl | simp)) | (simp [*];done)),H',⟨by have:=HK1.out;have:=HJ6.out;first | omega | exact Nat.le_refl _⟩,⟨by (with_reducible repeat (first | refine blk_drewN ?_ _ | refine blk_drew ?_ | refine blk_alloc ?_ _));exact BK1.out⟩,⟨by (with_reducible repeat (first | refine blk_drewN ?_ _ | refine blk_drew ?_ | refine blk_alloc ?_ _));exact BK4.out⟩,⟨hb_⟩⟩
              ·replace c29:=Bool.eq_false_iff.mpr c29
               subst c29
               have H1 : (impl_partsOk.j2 kj6 l1 x10_1 l1 (l1.length : Int) x10_1 (!false) l0_0 ((rd_T35 l1 x10_1).f0) ((rd_T35 l1 x10_1).f1) ((rd_T35 l1 x10_1).f2) ((rd_T35 l1 x10_1).f3)) = some r:=by rw [if_neg (show ¬ (false = true) by decide)] at H;exact H
               clear H
               have H:=H1
               clear H1
               have H':=a0_ H
               clear H
               have hnb32:=NB4_1.out
               have hnc32:=NB1_4.out
               have hcz33_0 : wc.cell? ⟨gb4,0,none⟩ = some (.int .i64 ((rd_T35 l1 x10_1).f0)):=(blk_cell BK4.out 0).trans rfl
               have hcz33_1 : wc.cell? ⟨gb4,1,none⟩ = some (.bool ((rd_T35 l1 x10_1).f1)):=(blk_cell BK4.out 1).trans rfl
               have hcz33_2 : wc.cell? ⟨gb4,2,none⟩ = some (.int .i64 ((rd_T35 l1 x10_1).f2)):=(blk_cell BK4.out 2).trans rfl
               have hcz33_3 : wc.cell? ⟨gb4,3,none⟩ = some (.int .i64 ((rd_T35 l1 x10_1).f3)):=(blk_cell BK4.out 3).trans rfl
               have hfz33_0:=blk_frozen BK4.out 0
               have hfz33_1:=blk_frozen BK4.out 1
               have hfz33_2:=blk_frozen BK4.out 2
               have hfz33_3:=blk_frozen BK4.out 3
               have p7 : 0 ≤ ((ji24) : Int):=of_decide_eq_true (by first | (with_reducible assumption) | assumption)
               have q7 : (ji24) < (l1.length : Int):=of_decide_eq_true (by first | (with_reducible assumption) | assumption)
               obtain ⟨ad7,e7,hx7_0,hx7_1,hx7_2,hx7_3⟩:=at_T35 HR1.out (ji24) p7 q7
               (try rw [← Nbq28.out] at hx7_1)
               obtain rfl : ad3 = ad7:=(by injection e7)
               replace hx7_0:=(HB.out.cell (World.block_lt_of_cell? w _ hx7_0)).trans hx7_0
               replace hx7_1:=(HB.out.cell (World.block_lt_of_cell? w _ hx7_1)).trans hx7_1
               replace hx7_2:=(HB.out.cell (World.block_lt_of_cell? w _ hx7_2)).trans hx7_2
               replace hx7_3:=(HB.out.cell (World.block_lt_of_cell? w _ hx7_3)).trans hx7_3
               replace p7:=eq_true p7
               replace q7:=eq_true q7
               have p8 : 0 ≤ ((ji24) : Int):=of_decide_eq_true (by first | (with_reducible assumption) | assumption)
               have q8 : (ji24) < (l1.length : Int):=of_decide_eq_true (by first | (with_reducible assumption) | assumption)
               obtain ⟨ad8,e8,hx8_0,hx8_1,hx8_2,hx8_3⟩:=at_T35 HR1.out (ji24) p8 q8
               (try rw [← Nbq28.out] at hx8_1)
               obtain rfl : ad3 = ad8:=(by injection e8)
               replace hx8_0:=(HB.out.cell (World.block_lt_of_cell? w _ hx8_0)).trans hx8_0
               replace hx8_1:=(HB.out.cell (World.block_lt_of_cell? w _ hx8_1)).trans hx8_1
               replace hx8_2:=(HB.out.cell (World.block_lt_of_cell? w _ hx8_2)).trans hx8_2
               replace hx8_3:=(HB.out.cell (World.block_lt_of_cell? w _ hx8_3)).trans hx8_3
               replace p8:=eq_true p8
               replace q8:=eq_true q8
               go_wp2
               repeat (go_quiet (fail);try go_wp2)
               go_meet
               case rel=>exact ⟨_,(!false),(by first | rfl | (simp;done) | (simp [*];done)),H',⟨by have:=HK1.out;have:=HJ6.out;first | omega | exact Nat.le_refl _⟩,⟨by (with_reducible repeat (first | refine blk_drewN ?_ _ | refine blk_drew ?_ | refine blk_alloc ?_ _));exact BK1.out⟩,⟨by (with_reducible repeat (first | refine blk_drewN ?_ _ | refine blk_drew ?_ | refine blk_alloc ?_ _));exact BK4.out⟩,⟨hb_⟩⟩
             ·rw [if_neg c27] at H
              have c27b0 : decide (((rd_T35 l1 (ji24)).f0) < ((rd_T35 l1 x10_1).f0)) = false:=decide_eq_false c27
              clear c27
              have H':=a0_ H
              clear H
              have hnb34:=NB4_1.out
              have hnc34:=NB1_4.out
              have hcz35_0 : wc.cell? ⟨gb4,0,none⟩ = some (.int .i64 ((rd_T35 l1 x10_1).f0)):=(blk_cell BK4.out 0).trans rfl
              have hcz35_1 : wc.cell? ⟨gb4,1,none⟩ = some (.bool ((rd_T35 l1 x10_1).f1)):=(blk_cell BK4.out 1).trans rfl
              have hcz35_2 : wc.cell? ⟨gb4,2,none⟩ = some (.int .i64 ((rd_T35 l1 x10_1).f2)):=(blk_cell BK4.out 2).trans rfl
              have hcz35_3 : wc.cell? ⟨gb4,3,none⟩ = some (.int .i64 ((rd_T35 l1 x10_1).f3)):=(blk_cell BK4.out 3).trans rfl
              have hfz35_0:=blk_frozen BK4.out 0
              have hfz35_1:=blk_frozen BK4.out 1
              have hfz35_2:=blk_frozen BK4.out 2
              have hfz35_3:=blk_frozen BK4.out 3
              have p7 : 0 ≤ ((ji24) : Int):=of_decide_eq_true (by first | (with_reducible assumption) | assumption)
              have q7 : (ji24) < (l1.length : Int):=of_decide_eq_true (by first | (with_reducible assumption) | assumption)
              obtain ⟨ad7,e7,hx7_0,hx7_1,hx7_2,hx7_3⟩:=at_T35 HR1.out (ji24) p7 q7
              obtain rfl : ad3 = ad7:=(by injection e7)
              replace hx7_0:=(HB.out.cell (World.block_lt_of_cell? w _ hx7_0)).trans hx7_0
              replace hx7_1:=(HB.out.cell (World.block_lt_of_cell? w _ hx7_1)).trans hx7_1
              replace hx7_2:=(HB.out.cell (World.block_lt_of_cell? w _ hx7_2)).trans hx7_2
              replace hx7_3:=(HB.out.cell (World.block_lt_of_cell? w _ hx7_3)).trans hx7_3
              replace p7:=eq_true p7
              replace q7:=eq_true q7
              go_wp2
              repeat (go_quiet (fail);try go_wp2)
              go_meet
              case rel=>exact ⟨_,(false),(by first | rfl | (simp;done) | (simp [*];done)),H',⟨by have:=HK1.out;have:=HJ6.out;first | omega | exact Nat.le_refl _⟩,⟨by (with_reducible repeat (first | refine blk_drewN ?_ _ | refine blk_drew ?_ | refine blk_alloc ?_ _));exact BK1.out⟩,⟨by (with_reducible repeat (first | refine blk_drewN ?_ _ | refine blk_drew ?_ | refine blk_alloc ?_ _));exact BK4.out⟩,⟨hb_⟩⟩
            ·rw [if_neg c26] at H
             exact absurd H (by simp)
           ·rw [if_neg c25] at H
            exact absurd H (by simp)
          ·rw [if_neg c23] at H
           have c23b0 : decide (0 < x10_1) = false:=decide_eq_false c23
           clear c23
           (first | rw [c23b0] | (simp only [i64_w,i32_w];rw [c23b0]) | skip)
           have H':=a0_ H
           clear H
           go_wp2
           repeat (go_quiet (fail);try go_wp2)
           go_meet
           case rel=>exact ⟨_,(false),(by first | rfl | (simp;done) | (simp [*];done)),H',⟨by have:=HK1.out;have:=HJ6.out;first | omega | exact Nat.le_refl _⟩,⟨by (with_reducible repeat (first | refine blk_drewN ?_ _ | refine blk_drew ?_ | refine blk_alloc ?_ _));exact BK1.out⟩,⟨by (with_reducible repeat (first | refine blk_drewN ?_ _ | refine blk_drew ?_ | refine blk_alloc ?_ _));exact BK4.out⟩,⟨hb_⟩⟩
         case rest =>
          clear HC22
          try clear c1
          try clear c2
          try clear p2
          try clear q2
          try clear c3
          try clear p3
          try clear q3
          try clear hx3
          try clear c4
          try clear c4b0
          try clear c5
          try clear c5b0
          try clear c6
          try clear c6b0
          try clear p6
          try clear p7
          try clear q7
          try clear hx7
          try clear p8
          try clear q8
          try clear hx8
          try clear c9
          try clear p9
          try clear q9
          try clear hx9
          try clear c12
          try clear c14
          try clear c15
          try clear c17
          try clear c19
          try clear c21
          try clear c23
          try clear c23b0
          try clear c25
          try clear c25b0
          try clear c26
          try clear c26b0
          try clear c27
          try clear c27b0
          try clear q28
          try clear c29
          try clear c30
          try clear c32
          try clear c34
          try clear hcz10_0
          try clear hcz10_1
          try clear hcz10_2
          try clear hcz10_3
          try clear hcz16_0
          try clear hcz16_1
          try clear hcz16_2
          try clear hcz16_3
          try clear hcz18_0
          try clear hcz18_1
          try clear hcz18_2
          try clear hcz18_3
          try clear hcz20_0
          try clear hcz20_1
          try clear hcz20_2
          try clear hcz20_3
          try clear hcz31_0
          try clear hcz31_1
          try clear hcz31_2
          try clear hcz31_3
          try clear hcz33_0
          try clear hcz33_1
          try clear hcz33_2
          try clear hcz33_3
          try clear hcz35_0
          try clear hcz35_1
          try clear hcz35_2
          try clear hcz35_3
          try clear hfz10_0
          try clear hfz10_1
          try clear hfz10_2
          try clear hfz10_3
          try clear hfz16_0
          try clear hfz16_1
          try clear hfz16_2
          try clear hfz16_3
          try clear hfz18_0
          try clear hfz18_1
          try clear hfz18_2
          try clear hfz18_3
          try clear hfz20_0
          try clear hfz20_1
          try clear hfz20_2
          try clear hfz20_3
          try clear hfz31_0
          try clear hfz31_1
          try clear hfz31_2
          try clear hfz31_3
          try clear hfz33_0
          try clear hfz33_1
          try clear hfz33_2
          try clear hfz33_3
          try clear hfz35_0
          try clear hfz35_1
          try clear hfz35_2
          try clear hfz35_3
          try clear hx3_0
          try clear hx3_1
          try clear hx3_2
          try clear hx3_3
          try clear hx7_0
          try clear hx7_1
          try clear hx7_2
          try clear hx7_3
          try clear hx8_0
          try clear hx8_1
          try clear hx8_2
          try clear hx8_3
          try clear hx9_0
          try clear hx9_1
          try clear hx9_2
          try clear hx9_3
          try clear p2
          try clear p3
          try clear p7
          try clear p8
          try clear p9
          try clear q3
          try clear q7
          try clear q8
          try clear q9
          obtain ⟨kq,x66_21,rfl,HA,HJ21,BK1,BK4,HB⟩:=hcut
          cases kq with
          | zero=>exact absurd HA.out (by simp [impl_partsOk.j2])
          | succ kj21 =>
           have H:=HA.out
           clear HA
           simp only [impl_partsOk.j2] at H
           by_cases c36 : x66_21 = true
           ·subst c36
            have H1 : (some false) = some r:=by rw [if_pos rfl] at H;exact H
            clear H
            have H:=H1
            clear H1
            obtain rfl:=Option.some.inj H
            go_wp2
            repeat (go_quiet (fail);try go_wp2)
            go_ret
            exact ⟨by first | rfl | (simp [errW_none,errW_some] <;> rfl) | (simp [*,errW_none,errW_some] <;> rfl),hb_⟩
           ·replace c36:=Bool.eq_false_iff.mpr c36
            subst c36
            have H1 : (if (wrap64 (x10_1 + 1)) < (l1.length : Int) then (if 0 ≤ (wrap64 (x10_1 + 1)) then (if ((rd_T35 l1 x10_1).f1) = true then (if ((rd_T35 l1 x10_1).f2) = 0 then (if (((rd_T35 l1 (wrap64 (x10_1 + 1))).f0) > ((rd_T35 l1 x10_1).f0)) then (impl_partsOk.l0 kj21 l1 l1 (l1.length : Int) (wrap64 (x10_1 + 1)) l0_0) else (some false)) else (some false)) else ((impl_Tree_has.f l0_0 ((rd_T35 l1 x10_1).f2)).bind fun t11=>(if t11 = true then (impl_partsOk.l0 kj21 l1 l1 (l1.length : Int) (wrap64 (x10_1 + 1)) l0_0) else (some false)))) else (none)) else (if ((rd_T35 l1 x10_1).f1) = true then (if ((rd_T35 l1 x10_1).f2) = 0 then (some false) else (some false)) else ((impl_Tree_has.f l0_0 ((rd_T35 l1 x10_1).f2)).bind fun t12=>(if t12 = true then (impl_partsOk.l0 kj21 l1 l1 (l1.length : Int) (wrap64 (x10_1 + 1)) l0_0) else (some false))))) = some r:=by rw [if_neg (show ¬ (false = true) by decide)] at H;exact H
            clear H
            have H:=H1
            clear H1
            by_cases c37 : (wrap64 (x10_1 + 1)) < (l1.length : Int)
            ·rw [if_pos c37] at H
             have c37b0 : decide ((wrap64 (x10_1 + 1)) < (l1.length : Int)) = true:=decide_eq_true c37
             clear c37
             obtain ⟨ji38,hji38⟩ : ∃ j_ : Int,(wrap64 (x10_1 + 1)) = j_:=⟨_,rfl⟩
             replace H : (if 0 ≤ (ji38) then (if ((rd_T35 l1 x10_1).f1) = true then (if ((rd_T35 l1 x10_1).f2) = 0 then (if (((rd_T35 l1 (ji38)).f0) > ((rd_T35 l1 x10_1).f0)) then (impl_partsOk.l0 kj21 l1 l1 (l1.length : Int) ji38 l0_0) else (some false)) else (some false)) else ((impl_Tree_has.f l0_0 ((rd_T35 l1 x10_1).f2)).bind fun t11=>(if t11 = true then (impl_partsOk.l0 kj21 l1 l1 (l1.length : Int) ji38 l0_0) else (some false)))) else (none)) = some r:=by first | (rw [hji38] at H;exact H) | (simp only [hji38] at H ⊢;exact H)
             (try rw [hji38] at c37b0)
             have hji38w : (IntKind.i64.wrap (x10_1 + 1)) = ji38:=(i64_w _).trans hji38
             by_cases c39 : 0 ≤ (ji38)
             ·rw [if_pos c39] at H
              have c39b0 : decide (0 ≤ (ji38)) = true:=decide_eq_true c39
              clear c39
              by_cases c40 : ((rd_T35 l1 x10_1).f1) = true
              ·rw [if_pos c40] at H
               have c40b0 : ((rd_T35 l1 x10_1).f1) = true:=c40
               clear c40
               by_cases c41 : ((rd_T35 l1 x10_1).f2) = 0
               ·rw [if_pos c41] at H
                have c41b0 : (((rd_T35 l1 x10_1).f2) == 0) = true:=beq_iff_eq.mpr c41
                have c41b1 : (((rd_T35 l1 x10_1).f2) != 0) = false:=bne_eq_false_iff_eq.mpr c41
                clear c41
                by_cases c42 : (((rd_T35 l1 (ji38)).f0) > ((rd_T35 l1 x10_1).f0))
                ·rw [if_pos c42] at H
                 have c42b0 : decide (((rd_T35 l1 x10_1).f0) < ((rd_T35 l1 (ji38)).f0)) = true:=decide_eq_true c42
                 clear c42
                 have H':=a0_ H
                 clear H
                 have p10 : 0 ≤ ((ji38) : Int):=of_decide_eq_true (by first | (with_reducible assumption) | assumption)
                 have q10 : (ji38) < (l1.length : Int):=of_decide_eq_true (by first | (with_reducible assumption) | assumption)
                 obtain ⟨ad10,e10,hx10_0,hx10_1,hx10_2,hx10_3⟩:=at_T35 HR1.out (ji38) p10 q10
                 obtain rfl : ad3 = ad10:=(by injection e10)
                 replace hx10_0:=(HB.out.cell (World.block_lt_of_cell? w _ hx10_0)).trans hx10_0
                 replace hx10_1:=(HB.out.cell (World.block_lt_of_cell? w _ hx10_1)).trans hx10_1
                 replace hx10_2:=(HB.out.cell (World.block_lt_of_cell? w _ hx10_2)).trans hx10_2
                 replace hx10_3:=(HB.out.cell (World.block_lt_of_cell? w _ hx10_3)).trans hx10_3
                 replace p10:=eq_true p10
                 replace q10:=eq_true q10
                 have hnb43:=NB4_1.out
                 have hnc43:=NB1_4.out
                 have hcz44_0 : wc.cell? ⟨gb4,0,none⟩ = some (.int .i64 ((rd_T35 l1 x10_1).f0)):=(blk_cell BK4.out 0).trans rfl
                 have hcz44_1 : wc.cell? ⟨gb4,1,none⟩ = some (.bool ((rd_T35 l1 x10_1).f1)):=(blk_cell BK4.out 1).trans rfl
                 have hcz44_2 : wc.cell? ⟨gb4,2,none⟩ = some (.int .i64 ((rd_T35 l1 x10_1).f2)):=(blk_cell BK4.out 2).trans rfl
                 have hcz44_3 : wc.cell? ⟨gb4,3,none⟩ = some (.int .i64 ((rd_T35 l1 x10_1).f3)):=(blk_cell BK4.out 3).trans rfl
                 have hfz44_0:=blk_frozen BK4.out 0
                 have hfz44_1:=blk_frozen BK4.out 1
                 have hfz44_2:=blk_frozen BK4.out 2
                 have hfz44_3:=blk_frozen BK4.out 3
                 go_wp2
                 repeat (go_quiet (fail);try go_wp2)
                 go_roundg kj21
                 case measure=>have:=HK1.out;have:=HJ6.out;have:=HJ21.out;omega
                 case rel=>exact ⟨(ji38),(by first | rfl | (simp;done) | (simp only [← hji38] <;> (first | rfl | simp)) | (simp [*];done)),H',⟨by have:=HK1.out;have:=HJ6.out;have:=HJ21.out;omega⟩,⟨by (with_reducible repeat (first | refine blk_drewN ?_ _ | refine blk_drew ?_ | refine blk_alloc ?_ _));exact BK1.out⟩,⟨hb_⟩⟩
                ·rw [if_neg c42] at H
                 have c42b0 : decide (((rd_T35 l1 x10_1).f0) < ((rd_T35 l1 (ji38)).f0)) = false:=decide_eq_false c42
                 clear c42
                 obtain rfl:=Option.some.inj H
                 have p10 : 0 ≤ ((ji38) : Int):=of_decide_eq_true (by first | (with_reducible assumption) | assumption)
                 have q10 : (ji38) < (l1.length : Int):=of_decide_eq_true (by first | (with_reducible assumption) | assumption)
                 obtain ⟨ad10,e10,hx10_0,hx10_1,hx10_2,hx10_3⟩:=at_T35 HR1.out (ji38) p10 q10
                 obtain rfl : ad3 = ad10:=(by injection e10)
                 replace hx10_0:=(HB.out.cell (World.block_lt_of_cell? w _ hx10_0)).trans hx10_0
                 replace hx10_1:=(HB.out.cell (World.block_lt_of_cell? w _ hx10_1)).trans hx10_1
                 replace hx10_2:=(HB.out.cell (World.block_lt_of_cell? w _ hx10_2)).trans hx10_2
                 replace hx10_3:=(HB.out.cell (World.block_lt_of_cell? w _ hx10_3)).trans hx10_3
                 replace p10:=eq_true p10
                 replace q10:=eq_true q10
                 have hnb45:=NB4_1.out
                 have hnc45:=NB1_4.out
                 have hcz46_0 : wc.cell? ⟨gb4,0,none⟩ = some (.int .i64 ((rd_T35 l1 x10_1).f0)):=(blk_cell BK4.out 0).trans rfl
                 have hcz46_1 : wc.cell? ⟨gb4,1,none⟩ = some (.bool ((rd_T35 l1 x10_1).f1)):=(blk_cell BK4.out 1).trans rfl
                 have hcz46_2 : wc.cell? ⟨gb4,2,none⟩ = some (.int .i64 ((rd_T35 l1 x10_1).f2)):=(blk_cell BK4.out 2).trans rfl
                 have hcz46_3 : wc.cell? ⟨gb4,3,none⟩ = some (.int .i64 ((rd_T35 l1 x10_1).f3)):=(blk_cell BK4.out 3).trans rfl
                 have hfz46_0:=blk_frozen BK4.out 0
                 have hfz46_1:=blk_frozen BK4.out 1
                 have hfz46_2:=blk_frozen BK4.out 2
                 have hfz46_3:=blk_frozen BK4.out 3
                 go_wp2
                 repeat (go_quiet (fail);try go_wp2)
                 go_ret
                 exact ⟨by first | rfl | (simp [errW_none,errW_some] <;> rfl) | (simp only [← hji38];first | rfl | (simp [errW_none,errW_some] <;> rfl)) | (simp [*,errW_none,errW_some] <;> rfl),hb_⟩
               ·rw [if_neg c41] at H
                have c41b0 : (((rd_T35 l1 x10_1).f2) == 0) = false:=beq_eq_false_iff_ne.mpr c41
                have c41b1 : (((rd_T35 l1 x10_1).f2) != 0) = true:=bne_iff_ne.mpr c41
                obtain rfl:=Option.some.inj H
                have p10 : 0 ≤ ((ji38) : Int):=of_decide_eq_true (by first | (with_reducible assumption) | assumption)
                have q10 : (ji38) < (l1.length : Int):=of_decide_eq_true (by first | (with_reducible assumption) | assumption)
                obtain ⟨ad10,e10,hx10_0,hx10_1,hx10_2,hx10_3⟩:=at_T35 HR1.out (ji38) p10 q10
                obtain rfl : ad3 = ad10:=(by injection e10)
                replace hx10_0:=(HB.out.cell (World.block_lt_of_cell? w _ hx10_0)).trans hx10_0
                replace hx10_1:=(HB.out.cell (World.block_lt_of_cell? w _ hx10_1)).trans hx10_1
                replace hx10_2:=(HB.out.cell (World.block_lt_of_cell? w _ hx10_2)).trans hx10_2
                replace hx10_3:=(HB.out.cell (World.block_lt_of_cell? w _ hx10_3)).trans hx10_3
                replace p10:=eq_true p10
                replace q10:=eq_true q10
                have hnb47:=NB4_1.out
                have hnc47:=NB1_4.out
                have hcz48_0 : wc.cell? ⟨gb4,0,none⟩ = some (.int .i64 ((rd_T35 l1 x10_1).f0)):=(blk_cell BK4.out 0).trans rfl
                have hcz48_1 : wc.cell? ⟨gb4,1,none⟩ = some (.bool ((rd_T35 l1 x10_1).f1)):=(blk_cell BK4.out 1).trans rfl
                have hcz48_2 : wc.cell? ⟨gb4,2,none⟩ = some (.int .i64 ((rd_T35 l1 x10_1).f2)):=(blk_cell BK4.out 2).trans rfl
                have hcz48_3 : wc.cell? ⟨gb4,3,none⟩ = some (.int .i64 ((rd_T35 l1 x10_1).f3)):=(blk_cell BK4.out 3).trans rfl
                have hfz48_0:=blk_frozen BK4.out 0
                have hfz48_1:=blk_frozen BK4.out 1
                have hfz48_2:=blk_frozen BK4.out 2
                have hfz48_3:=blk_frozen BK4.out 3
                go_wp2
                repeat (go_quiet (fail);try go_wp2)
                go_ret
                exact ⟨by first | rfl | (simp [errW_none,errW_some] <;> rfl) | (simp only [← hji38];first | rfl | (simp [errW_none,errW_some] <;> rfl)) | (simp [*,errW_none,errW_some] <;> rfl),hb_⟩
              ·rw [if_neg c40] at H
               have c40b0 : ((rd_T35 l1 x10_1).f1) = false:=by simpa using c40
               clear c40
               replace H:=Option.bind_eq_some_iff.mp H
               obtain ⟨t11,A490,H⟩:=H
               try dsimp only at H
               have A49:=a0_ A490
               clear A490
               by_cases c50 : t11 = true
               ·subst c50
                have H1 : (impl_partsOk.l0 kj21 l1 l1 (l1.length : Int) ji38 l0_0) = some r:=by rw [if_pos rfl] at H;exact H
                clear H
                have H:=H1
                clear H1
                have H':=a0_ H
                clear H
                have p10 : 0 ≤ ((ji38) : Int):=of_decide_eq_true (by first | (with_reducible assumption) | assumption)
                have q10 : (ji38) < (l1.length : Int):=of_decide_eq_true (by first | (with_reducible assumption) | assumption)
                obtain ⟨ad10,e10,hx10_0,hx10_1,hx10_2,hx10_3⟩:=at_T35 HR1.out (ji38) p10 q10
                obtain rfl : ad3 = ad10:=(by injection e10)
                replace hx10_0:=(HB.out.cell (World.block_lt_of_cell? w _ hx10_0)).trans hx10_0
                replace hx10_1:=(HB.out.cell (World.block_lt_of_cell? w _ hx10_1)).trans hx10_1
                replace hx10_2:=(HB.out.cell (World.block_lt_of_cell? w _ hx10_2)).trans hx10_2
                replace hx10_3:=(HB.out.cell (World.block_lt_of_cell? w _ hx10_3)).trans hx10_3
                replace p10:=eq_true p10
                replace q10:=eq_true q10
                have hnb51:=NB4_1.out
                have hnc51:=NB1_4.out
                have hcz52_0 : wc.cell? ⟨gb4,0,none⟩ = some (.int .i64 ((rd_T35 l1 x10_1).f0)):=(blk_cell BK4.out 0).trans rfl
                have hcz52_1 : wc.cell? ⟨gb4,1,none⟩ = some (.bool ((rd_T35 l1 x10_1).f1)):=(blk_cell BK4.out 1).trans rfl
                have hcz52_2 : wc.cell? ⟨gb4,2,none⟩ = some (.int .i64 ((rd_T35 l1 x10_1).f2)):=(blk_cell BK4.out 2).trans rfl
                have hcz52_3 : wc.cell? ⟨gb4,3,none⟩ = some (.int .i64 ((rd_T35 l1 x10_1).f3)):=(blk_cell BK4.out 3).trans rfl
                have hfz52_0:=blk_frozen BK4.out 0
                have hfz52_1:=blk_frozen BK4.out 1
                have hfz52_2:=blk_frozen BK4.out 2
                have hfz52_3:=blk_frozen BK4.out 3
                have hcz53_0 : wc.cell? ⟨gb1,0,none⟩ = some (.slice A0_0 l0_0.length c0_0):=(blk_cell BK1.out 0).trans rfl
                have hfz53_0:=blk_frozen BK1.out 0
                go_wp2_with (first | (go_at_call 52;(with_reducible refine (impl_Tree_has.calls _ _ l0_0 ((rd_T35 l1 x10_1).f2) true _ ?side1 ?side2 A49.out).mono ?_);(case side1=>exact cc_ (Kd.C_below HR0_0.out HB.out));(case side2=>exact HC0_0.out);rintro e w54 ⟨rfl,hb⟩;replace BK1:=kb_ BK1 hb;replace BK4:=kb_ BK4 hb;replace HB:=a0_ (below_step hb_ hb);(try clear hb);(try clear hb2);(try clear hk);(try clear hi)))
                repeat (go_quiet (first | (go_at_call 52;(with_reducible refine (impl_Tree_has.calls _ _ l0_0 ((rd_T35 l1 x10_1).f2) true _ ?side1 ?side2 A49.out).mono ?_);(case side1=>exact cc_ (Kd.C_below HR0_0.out HB.out));(case side2=>exact HC0_0.out);rintro e w54 ⟨rfl,hb⟩;replace BK1:=kb_ BK1 hb;replace BK4:=kb_ BK4 hb;replace HB:=a0_ (below_step hb_ hb);(try clear hb);(try clear hb2);(try clear hk);(try clear hi)));try go_wp2_with (first | (go_at_call 52;(with_reducible refine (impl_Tree_has.calls _ _ l0_0 ((rd_T35 l1 x10_1).f2) true _ ?side1 ?side2 A49.out).mono ?_);(case side1=>exact cc_ (Kd.C_below HR0_0.out HB.out));(case side2=>exact HC0_0.out);rintro e w54 ⟨rfl,hb⟩;replace BK1:=kb_ BK1 hb;replace BK4:=kb_ BK4 hb;replace HB:=a0_ (below_step hb_ hb);(try clear hb);(try clear hb2);(try clear hk);(try clear hi))))
                go_roundg kj21
                case measure=>have:=HK1.out;have:=HJ6.out;have:=HJ21.out;omega
                case rel=>exact ⟨(ji38),(by first | rfl | (simp;done) | (simp only [← hji38] <;> (first | rfl | simp)) | (simp [*];done)),H',⟨by have:=HK1.out;have:=HJ6.out;have:=HJ21.out;omega⟩,⟨by (with_reducible repeat (first | refine blk_drewN ?_ _ | refine blk_drew ?_ | refine blk_alloc ?_ _));exact BK1.out⟩,⟨hb_⟩⟩
               ·replace c50:=Bool.eq_false_iff.mpr c50
                subst c50
                have H1 : (some false) = some r:=by rw [if_neg (show ¬ (false = true) by decide)] at H;exact H
                clear H
                have H:=H1
                clear H1
                obtain rfl:=Option.some.inj H
                have p10 : 0 ≤ ((ji38) : Int):=of_decide_eq_true (by first | (with_reducible assumption) | assumption)
                have q10 : (ji38) < (l1.length : Int):=of_decide_eq_true (by first | (with_reducible assumption) | assumption)
                obtain ⟨ad10,e10,hx10_0,hx10_1,hx10_2,hx10_3⟩:=at_T35 HR1.out (ji38) p10 q10
                obtain rfl : ad3 = ad10:=(by injection e10)
                replace hx10_0:=(HB.out.cell (World.block_lt_of_cell? w _ hx10_0)).trans hx10_0
                replace hx10_1:=(HB.out.cell (World.block_lt_of_cell? w _ hx10_1)).trans hx10_1
                replace hx10_2:=(HB.out.cell (World.block_lt_of_cell? w _ hx10_2)).trans hx10_2
                replace hx10_3:=(HB.out.cell (World.block_lt_of_cell? w _ hx10_3)).trans hx10_3
                replace p10:=eq_true p10
                replace q10:=eq_true q10
                have hnb55:=NB4_1.out
                have hnc55:=NB1_4.out
                have hcz56_0 : wc.cell? ⟨gb4,0,none⟩ = some (.int .i64 ((rd_T35 l1 x10_1).f0)):=(blk_cell BK4.out 0).trans rfl
                have hcz56_1 : wc.cell? ⟨gb4,1,none⟩ = some (.bool ((rd_T35 l1 x10_1).f1)):=(blk_cell BK4.out 1).trans rfl
                have hcz56_2 : wc.cell? ⟨gb4,2,none⟩ = some (.int .i64 ((rd_T35 l1 x10_1).f2)):=(blk_cell BK4.out 2).trans rfl
                have hcz56_3 : wc.cell? ⟨gb4,3,none⟩ = some (.int .i64 ((rd_T35 l1 x10_1).f3)):=(blk_cell BK4.out 3).trans rfl
                have hfz56_0:=blk_frozen BK4.out 0
                have hfz56_1:=blk_frozen BK4.out 1
                have hfz56_2:=blk_frozen BK4.out 2
                have hfz56_3:=blk_frozen BK4.out 3
                have hcz57_0 : wc.cell? ⟨gb1,0,none⟩ = some (.slice A0_0 l0_0.length c0_0):=(blk_cell BK1.out 0).trans rfl
                have hfz57_0:=blk_frozen BK1.out 0
                go_wp2_with (first | (go_at_call 52;(with_reducible refine (impl_Tree_has.calls _ _ l0_0 ((rd_T35 l1 x10_1).f2) false _ ?side1 ?side2 A49.out).mono ?_);(case side1=>exact cc_ (Kd.C_below HR0_0.out HB.out));(case side2=>exact HC0_0.out);rintro e w58 ⟨rfl,hb⟩;replace BK1:=kb_ BK1 hb;replace BK4:=kb_ BK4 hb;replace HB:=a0_ (below_step hb_ hb);(try clear hb);(try clear hb2);(try clear hk);(try clear hi)))
                repeat (go_quiet (first | (go_at_call 52;(with_reducible refine (impl_Tree_has.calls _ _ l0_0 ((rd_T35 l1 x10_1).f2) false _ ?side1 ?side2 A49.out).mono ?_);(case side1=>exact cc_ (Kd.C_below HR0_0.out HB.out));(case side2=>exact HC0_0.out);rintro e w58 ⟨rfl,hb⟩;replace BK1:=kb_ BK1 hb;replace BK4:=kb_ BK4 hb;replace HB:=a0_ (below_step hb_ hb);(try clear hb);(try clear hb2);(try clear hk);(try clear hi)));try go_wp2_with (first | (go_at_call 52;(with_reducible refine (impl_Tree_has.calls _ _ l0_0 ((rd_T35 l1 x10_1).f2) false _ ?side1 ?side2 A49.out).mono ?_);(case side1=>exact cc_ (Kd.C_below HR0_0.out HB.out));(case side2=>exact HC0_0.out);rintro e w58 ⟨rfl,hb⟩;replace BK1:=kb_ BK1 hb;replace BK4:=kb_ BK4 hb;replace HB:=a0_ (below_step hb_ hb);(try clear hb);(try clear hb2);(try clear hk);(try clear hi))))
                go_ret
                exact ⟨by first | rfl | (simp [errW_none,errW_some] <;> rfl) | (simp only [← hji38];first | rfl | (simp [errW_none,errW_some] <;> rfl)) | (simp [*,errW_none,errW_some] <;> rfl),hb_⟩
             ·rw [if_neg c39] at H
              exact absurd H (by simp)
            ·rw [if_neg c37] at H
             have c37b0 : decide ((wrap64 (x10_1 + 1)) < (l1.length : Int)) = false:=decide_eq_false c37
             clear c37
             by_cases c59 : ((rd_T35 l1 x10_1).f1) = true
             ·rw [if_pos c59] at H
              have c59b0 : ((rd_T35 l1 x10_1).f1) = true:=c59
              clear c59
              by_cases c60 : ((rd_T35 l1 x10_1).f2) = 0
              ·rw [if_pos c60] at H
               have c60b0 : (((rd_T35 l1 x10_1).f2) == 0) = true:=beq_iff_eq.mpr c60
               have c60b1 : (((rd_T35 l1 x10_1).f2) != 0) = false:=bne_eq_false_iff_eq.mpr c60
               clear c60
               obtain rfl:=Option.some.inj H
               have hnb61:=NB4_1.out
               have hnc61:=NB1_4.out
               have hcz62_0 : wc.cell? ⟨gb4,0,none⟩ = some (.int .i64 ((rd_T35 l1 x10_1).f0)):=(blk_cell BK4.out 0).trans rfl
               have hcz62_1 : wc.cell? ⟨gb4,1,none⟩ = some (.bool ((rd_T35 l1 x10_1).f1)):=(blk_cell BK4.out 1).trans rfl
               have hcz62_2 : wc.cell? ⟨gb4,2,none⟩ = some (.int .i64 ((rd_T35 l1 x10_1).f2)):=(blk_cell BK4.out 2).trans rfl
               have hcz62_3 : wc.cell? ⟨gb4,3,none⟩ = some (.int .i64 ((rd_T35 l1 x10_1).f3)):=(blk_cell BK4.out 3).trans rfl
               have hfz62_0:=blk_frozen BK4.out 0
               have hfz62_1:=blk_frozen BK4.out 1
               have hfz62_2:=blk_frozen BK4.out 2
               have hfz62_3:=blk_frozen BK4.out 3
               go_wp2
               repeat (go_quiet (fail);try go_wp2)
               go_ret
               exact ⟨by first | rfl | (simp [errW_none,errW_some] <;> rfl) | (simp [*,errW_none,errW_some] <;> rfl),hb_⟩
              ·rw [if_neg c60] at H
               have c60b0 : (((rd_T35 l1 x10_1).f2) == 0) = false:=beq_eq_false_iff_ne.mpr c60
               have c60b1 : (((rd_T35 l1 x10_1).f2) != 0) = true:=bne_iff_ne.mpr c60
               obtain rfl:=Option.some.inj H
               have hnb63:=NB4_1.out
               have hnc63:=NB1_4.out
               have hcz64_0 : wc.cell? ⟨gb4,0,none⟩ = some (.int .i64 ((rd_T35 l1 x10_1).f0)):=(blk_cell BK4.out 0).trans rfl
               have hcz64_1 : wc.cell? ⟨gb4,1,none⟩ = some (.bool ((rd_T35 l1 x10_1).f1)):=(blk_cell BK4.out 1).trans rfl
               have hcz64_2 : wc.cell? ⟨gb4,2,none⟩ = some (.int .i64 ((rd_T35 l1 x10_1).f2)):=(blk_cell BK4.out 2).trans rfl
               have hcz64_3 : wc.cell? ⟨gb4,3,none⟩ = some (.int .i64 ((rd_T35 l1 x10_1).f3)):=(blk_cell BK4.out 3).trans rfl
               have hfz64_0:=blk_frozen BK4.out 0
               have hfz64_1:=blk_frozen BK4.out 1
               have hfz64_2:=blk_frozen BK4.out 2
               have hfz64_3:=blk_frozen BK4.out 3
               go_wp2
               repeat (go_quiet (fail);try go_wp2)
               go_ret
               exact ⟨by first | rfl | (simp [errW_none,errW_some] <;> rfl) | (simp [*,errW_none,errW_some] <;> rfl),hb_⟩
             ·rw [if_neg c59] at H
              have c59b0 : ((rd_T35 l1 x10_1).f1) = false:=by simpa using c59
              clear c59
              replace H:=Option.bind_eq_some_iff.mp H
              obtain ⟨t12,A650,H⟩:=H
              try dsimp only at H
              have A65:=a0_ A650
              clear A650
              by_cases c66 : t12 = true
              ·subst c66
               have H1 : (impl_partsOk.l0 kj21 l1 l1 (l1.length : Int) (wrap64 (x10_1 + 1)) l0_0) = some r:=by rw [if_pos rfl] at H;exact H
               clear H
               have H:=H1
               clear H1
               have H':=a0_ H
               clear H
               have hnb67:=NB4_1.out
               have hnc67:=NB1_4.out
               have hcz68_0 : wc.cell? ⟨gb4,0,none⟩ = some (.int .i64 ((rd_T35 l1 x10_1).f0)):=(blk_cell BK4.out 0).trans rfl
               have hcz68_1 : wc.cell? ⟨gb4,1,none⟩ = some (.bool ((rd_T35 l1 x10_1).f1)):=(blk_cell BK4.out 1).trans rfl
               have hcz68_2 : wc.cell? ⟨gb4,2,none⟩ = some (.int .i64 ((rd_T35 l1 x10_1).f2)):=(blk_cell BK4.out 2).trans rfl
               have hcz68_3 : wc.cell? ⟨gb4,3,none⟩ = some (.int .i64 ((rd_T35 l1 x10_1).f3)):=(blk_cell BK4.out 3).trans rfl
               have hfz68_0:=blk_frozen BK4.out 0
               have hfz68_1:=blk_frozen BK4.out 1
               have hfz68_2:=blk_frozen BK4.out 2
               have hfz68_3:=blk_frozen BK4.out 3
               have hcz69_0 : wc.cell? ⟨gb1,0,none⟩ = some (.slice A0_0 l0_0.length c0_0):=(blk_cell BK1.out 0).trans rfl
               have hfz69_0:=blk_frozen BK1.out 0
               go_wp2_with (first | (go_at_call 52;(with_reducible refine (impl_Tree_has.calls _ _ l0_0 ((rd_T35 l1 x10_1).f2) true _ ?side1 ?side2 A65.out).mono ?_);(case side1=>exact cc_ (Kd.C_below HR0_0.out HB.out));(case side2=>exact HC0_0.out);rintro e w70 ⟨rfl,hb⟩;replace BK1:=kb_ BK1 hb;replace BK4:=kb_ BK4 hb;replace HB:=a0_ (below_step hb_ hb);(try clear hb);(try clear hb2);(try clear hk);(try clear hi)))
               repeat (go_quiet (first | (go_at_call 52;(with_reducible refine (impl_Tree_has.calls _ _ l0_0 ((rd_T35 l1 x10_1).f2) true _ ?side1 ?side2 A65.out).mono ?_);(case side1=>exact cc_ (Kd.C_below HR0_0.out HB.out));(case side2=>exact HC0_0.out);rintro e w70 ⟨rfl,hb⟩;replace BK1:=kb_ BK1 hb;replace BK4:=kb_ BK4 hb;replace HB:=a0_ (below_step hb_ hb);(try clear hb);(try clear hb2);(try clear hk);(try clear hi)));try go_wp2_with (first | (go_at_call 52;(with_reducible refine (impl_Tree_has.calls _ _ l0_0 ((rd_T35 l1 x10_1).f2) true _ ?side1 ?side2 A65.out).mono ?_);(case side1=>exact cc_ (Kd.C_below HR0_0.out HB.out));(case side2=>exact HC0_0.out);rintro e w70 ⟨rfl,hb⟩;replace BK1:=kb_ BK1 hb;replace BK4:=kb_ BK4 hb;replace HB:=a0_ (below_step hb_ hb);(try clear hb);(try clear hb2);(try clear hk);(try clear hi))))
               go_roundg kj21
               case measure=>have:=HK1.out;have:=HJ6.out;have:=HJ21.out;omega
               case rel=>exact ⟨(wrap64 (x10_1 + 1)),(by first | rfl | (simp;done) | (simp [*];done)),H',⟨by have:=HK1.out;have:=HJ6.out;have:=HJ21.out;omega⟩,⟨by (with_reducible repeat (first | refine blk_drewN ?_ _ | refine blk_drew ?_ | refine blk_alloc ?_ _));exact BK1.out⟩,⟨hb_⟩⟩
              ·replace c66:=Bool.eq_false_iff.mpr c66
               subst c66
               have H1 : (some false) = some r:=by rw [if_neg (show ¬ (false = true) by decide)] at H;exact H
               clear H
               have H:=H1
               clear H1
               obtain rfl:=Option.some.inj H
               have hnb71:=NB4_1.out
               have hnc71:=NB1_4.out
               have hcz72_0 : wc.cell? ⟨gb4,0,none⟩ = some (.int .i64 ((rd_T35 l1 x10_1).f0)):=(blk_cell BK4.out 0).trans rfl
               have hcz72_1 : wc.cell? ⟨gb4,1,none⟩ = some (.bool ((rd_T35 l1 x10_1).f1)):=(blk_cell BK4.out 1).trans rfl
               have hcz72_2 : wc.cell? ⟨gb4,2,none⟩ = some (.int .i64 ((rd_T35 l1 x10_1).f2)):=(blk_cell BK4.out 2).trans rfl
               have hcz72_3 : wc.cell? ⟨gb4,3,none⟩ = some (.int .i64 ((rd_T35 l1 x10_1).f3)):=(blk_cell BK4.out 3).trans rfl
               have hfz72_0:=blk_frozen BK4.out 0
               have hfz72_1:=blk_frozen BK4.out 1
               have hfz72_2:=blk_frozen BK4.out 2
               have hfz72_3:=blk_frozen BK4.out 3
               have hcz73_0 : wc.cell? ⟨gb1,0,none⟩ = some (.slice A0_0 l0_0.length c0_0):=(blk_cell BK1.out 0).trans rfl
               have hfz73_0:=blk_frozen BK1.out 0
               go_wp2_with (first | (go_at_call 52;(with_reducible refine (impl_Tree_has.calls _ _ l0_0 ((rd_T35 l1 x10_1).f2) false _ ?side1 ?side2 A65.out).mono ?_);(case side1=>exact cc_ (Kd.C_below HR0_0.out HB.out));(case side2=>exact HC0_0.out);rintro e w74 ⟨rfl,hb⟩;replace BK1:=kb_ BK1 hb;replace BK4:=kb_ BK4 hb;replace HB:=a0_ (below_step hb_ hb);(try clear hb);(try clear hb2);(try clear hk);(try clear hi)))
               repeat (go_quiet (first | (go_at_call 52;(with_reducible refine (impl_Tree_has.calls _ _ l0_0 ((rd_T35 l1 x10_1).f2) false _ ?side1 ?side2 A65.out).mono ?_);(case side1=>exact cc_ (Kd.C_below HR0_0.out HB.out));(case side2=>exact HC0_0.out);rintro e w74 ⟨rfl,hb⟩;replace BK1:=kb_ BK1 hb;replace BK4:=kb_ BK4 hb;replace HB:=a0_ (below_step hb_ hb);(try clear hb);(try clear hb2);(try clear hk);(try clear hi)));try go_wp2_with (first | (go_at_call 52;(with_reducible refine (impl_Tree_has.calls _ _ l0_0 ((rd_T35 l1 x10_1).f2) false _ ?side1 ?side2 A65.out).mono ?_);(case side1=>exact cc_ (Kd.C_below HR0_0.out HB.out));(case side2=>exact HC0_0.out);rintro e w74 ⟨rfl,hb⟩;replace BK1:=kb_ BK1 hb;replace BK4:=kb_ BK4 hb;replace HB:=a0_ (below_step hb_ hb);(try clear hb);(try clear hb2);(try clear hk);(try clear hi))))
               go_ret
               exact ⟨by first | rfl | (simp [errW_none,errW_some] <;> rfl) | (simp [*,errW_none,errW_some] <;> rfl),hb_⟩
     ·rw [if_neg c6] at H
      exact absurd H (by simp)
    ·rw [if_neg c5] at H
     exact absurd H (by simp)
   ·rw [if_neg c4] at H
    have c4b0 : decide (x10_1 < (l1.length : Int)) = false:=decide_eq_false c4
    clear c4
    replace H:=Option.bind_eq_some_iff.mp H
    obtain ⟨t2,A750,H⟩:=H
    replace H : (some t2) = some r:=H
    have A75:=a0_ A750
    clear A750
    obtain rfl:=Option.some.inj H
    go_wp2_with (first | (go_at_call 50;(with_reducible refine (impl_within.calls (l1.length : Int) 1 16 t2 _ A75.out).mono ?_);rintro e w' ⟨rfl,⟨nd,rfl⟩⟩;(try first | exact ⟨rfl,_,World.drewN_drewN _ _ _⟩ | exact ⟨rfl,_,Eq.trans (World.drewN_drewN _ _ _) (congrArg (World.drewN _) (Nat.add_assoc _ _ _))⟩)))
    repeat (go_quiet (first | (go_at_call 50;(with_reducible refine (impl_within.calls (l1.length : Int) 1 16 t2 _ A75.out).mono ?_);rintro e w' ⟨rfl,⟨nd,rfl⟩⟩;(try first | exact ⟨rfl,_,World.drewN_drewN _ _ _⟩ | exact ⟨rfl,_,Eq.trans (World.drewN_drewN _ _ _) (congrArg (World.drewN _) (Nat.add_assoc _ _ _))⟩)));try go_wp2_with (first | (go_at_call 50;(with_reducible refine (impl_within.calls (l1.length : Int) 1 16 t2 _ A75.out).mono ?_);rintro e w' ⟨rfl,⟨nd,rfl⟩⟩;(try first | exact ⟨rfl,_,World.drewN_drewN _ _ _⟩ | exact ⟨rfl,_,Eq.trans (World.drewN_drewN _ _ _) (congrArg (World.drewN _) (Nat.add_assoc _ _ _))⟩))))
    go_ret
    exact ⟨by first | rfl | (simp [errW_none,errW_some] <;> rfl) | (simp [*,errW_none,errW_some] <;> rfl),hb_⟩
theorem impl_partsOk_j2 (t : List Cls) (g : List Prt) (ht : t.length ≤ 9223372036854775807) (hl : g.length ≤ 9223372036854775807) (i : Nat) (hi : i < g.length) (p : Prt) (hp : g.getD i z35 = p) (b R : Bool)
  (hn : b = false → okB t g i p = true → Ev (fun k=>impl_partsOk.l0 k g g (g.length : Int) ((i + 1 : Nat) : Int) t) R) : Ev (fun k=>impl_partsOk.j2 k g (i : Int) g (g.length : Int) (i : Int) b t p.f0 p.f1 p.f2 p.f3) (!b && (okB t g i p && R)):=by
 have hw : wrap64 ((i : Int) + 1) = ((i + 1 : Nat) : Int):=by rw [wrap_succ (i:=(i : Int)) (n:=g.length) (by omega) (by omega) (by omega)];rfl
 have hrd : rd_T35 g ((i + 1 : Nat) : Int) = g.getD (i + 1) z35:=by simp [rd_T35]
 refine Ev.succ ?_
 simp only [impl_partsOk.j2,hw,hrd]
 cases b with
 | true=>exact Ev.pos rfl (Ev.const rfl)
 | false =>
  refine Ev.neg (by simp) ?_
  rw [Bool.not_false,Bool.true_and]
  replace hn:=hn rfl
  unfold okB at hn ⊢
  by_cases hlt : ((i + 1 : Nat) : Int) < (g.length : Int)
  ·refine Ev.pos hlt (Ev.pos (by omega) ?_)
   cases h1 : p.f1 with
   | true =>
    refine Ev.pos rfl ?_
    rw [h1,if_pos rfl] at hn
    rw [if_pos rfl]
    by_cases h2 : p.f2 = 0
    ·refine Ev.pos h2 ?_
     rw [beq_iff_eq.2 h2,Bool.true_and] at hn ⊢
     unfold belowB at hn ⊢
     rw [hp,decide_eq_true (show i + 1 < g.length by omega),Bool.true_and] at hn ⊢
     by_cases h3 : (g.getD (i + 1) z35).f0 > p.f0
     ·rw [decide_eq_true (show p.f0 < (g.getD (i + 1) z35).f0 from h3)] at hn ⊢
      rw [Bool.true_and]
      exact Ev.pos h3 (hn rfl)
     ·rw [decide_eq_false (show ¬ p.f0 < (g.getD (i + 1) z35).f0 from h3),Bool.false_and]
      exact Ev.neg h3 (Ev.const rfl)
    ·refine Ev.neg h2 ?_
     rw [beq_eq_false_iff_ne.2 h2]
     exact Ev.const rfl
   | false =>
    refine Ev.neg (by simp) ?_
    rw [h1,if_neg (by simp)] at hn
    rw [if_neg (by simp)]
    refine Ev.bind (Ev.const (impl_Tree_has_ev t p.f2 ht)) ?_
    cases h4 : hasC t p.f2 with
    | true=>exact Ev.pos rfl (hn h4)
    | false=>exact Ev.neg (by simp) (Ev.const rfl)
  ·refine Ev.neg hlt ?_
   cases h1 : p.f1 with
   | true =>
    refine Ev.pos rfl ?_
    rw [if_pos rfl]
    unfold belowB
    rw [decide_eq_false (show ¬ i + 1 < g.length by omega),Bool.false_and,Bool.and_false,Bool.false_and]
    by_cases h2 : p.f2 = 0
    ·exact Ev.pos h2 (Ev.const rfl)
    ·exact Ev.neg h2 (Ev.const rfl)
   | false =>
    refine Ev.neg (by simp) ?_
    rw [h1,if_neg (by simp)] at hn
    rw [if_neg (by simp)]
    refine Ev.bind (Ev.const (impl_Tree_has_ev t p.f2 ht)) ?_
    cases h4 : hasC t p.f2 with
    | true=>exact Ev.pos rfl (hn h4)
    | false=>exact Ev.neg (by simp) (Ev.const rfl)
theorem impl_partsOk_j1 (t : List Cls) (g : List Prt) (ht : t.length ≤ 9223372036854775807) (hl : g.length ≤ 9223372036854775807) (i : Nat) (hi : i < g.length) (p : Prt) (hp : g.getD i z35 = p) (b R : Bool) (hq : 0 < i → 0 ≤ (g.getD (i - 1) z35).f0 ∧ (g.getD (i - 1) z35).f0 ≤ 5)
  (hn : b = false → okU g i p = true → okB t g i p = true → Ev (fun k=>impl_partsOk.l0 k g g (g.length : Int) ((i + 1 : Nat) : Int) t) R) : Ev (fun k=>impl_partsOk.j1 k g (i : Int) g (g.length : Int) (i : Int) b t p.f0 p.f1 p.f2 p.f3) (!b && (okU g i p && (okB t g i p && R))):=by
 refine Ev.succ ?_
 simp only [impl_partsOk.j1]
 cases b with
 | true=>exact Ev.pos rfl (Ev.const rfl)
 | false =>
  refine Ev.neg (by simp) ?_
  rw [Bool.not_false,Bool.true_and]
  replace hn:=hn rfl
  unfold okU at hn ⊢
  by_cases h0 : i = 0
  ·refine Ev.neg (by omega) ?_
   rw [if_pos h0] at hn
   rw [if_pos h0,Bool.true_and]
   simpa using impl_partsOk_j2 t g ht hl i hi p hp false R (fun _=>hn rfl)
  ·have hb:=hq (by omega)
   have hw : wrap64 ((i : Int) - 1) = ((i - 1 : Nat) : Int):=by rw [wrap_pred (by omega) (by omega)];omega
   have hrd : rd_T35 g ((i - 1 : Nat) : Int) = g.getD (i - 1) z35:=by simp [rd_T35]
   rw [if_neg h0] at hn ⊢
   simp only [hw,hrd]
   generalize g.getD (i - 1) z35 = q at hb hn ⊢
   rw [wrap_in (i:=q.f0 + 1) (by omega) (by omega)]
   refine Ev.pos (by omega) (Ev.pos (by omega) (Ev.pos (by omega) ?_))
   by_cases h1 : p.f0 > q.f0
   ·refine Ev.pos h1 ?_
    rw [decide_eq_true (show q.f0 < p.f0 from h1),Bool.true_and] at hn ⊢
    cases hq1 : q.f1 with
    | true =>
     refine Ev.pos rfl ?_
     rw [hq1] at hn
     have:=impl_partsOk_j2 t g ht hl i hi p hp (!(p.f0 == q.f0 + 1)) R (fun e=>hn (by rw [Bool.true_and,e];rfl))
     simpa using this
    | false =>
     refine Ev.neg (by simp) ?_
     have:=impl_partsOk_j2 t g ht hl i hi p hp (!false) R (fun e=>by cases e)
     simpa using this
   ·refine Ev.neg h1 ?_
    rw [decide_eq_false (show ¬ q.f0 < p.f0 from h1),Bool.false_and] at hn ⊢
    simpa using impl_partsOk_j2 t g ht hl i hi p hp false R (fun _=>hn rfl)
theorem impl_partsOk_l0 (t : List Cls) (g : List Prt) (ht : t.length ≤ 9223372036854775807) (hl : g.length ≤ 9223372036854775807) : ∀ d i,i + d = g.length → (0 < i → okP t g (i - 1) (g.getD (i - 1) z35) = true) →
  Ev (fun k=>impl_partsOk.l0 k g g (g.length : Int) (i : Int) t) ((List.range' i d).all (fun i=>okP t g i (g.getD i z35)) && (decide (1 ≤ g.length) && decide (g.length ≤ 16))):=by
 intro d
 induction d with
 | zero =>
  intro i hi _
  refine Ev.succ ?_
  simp only [impl_partsOk.l0]
  refine Ev.neg (by omega) (Ev.bind (Ev.const (impl_within_ev _ _ _)) ?_)
  refine Ev.const ?_
  simp
  congr 1 <;> exact decide_eq_decide.2 (by omega)
 | succ d ih =>
  intro i hi hA
  have hlt : i < g.length:=by omega
  have hrd : rd_T35 g (i : Int) = g.getD i z35:=by simp [rd_T35]
  rw [List.range'_succ,List.all_cons]
  by_cases hok : okP t g i (g.getD i z35) = true
  ·have hn:=ih (i + 1) (by omega) (fun _=>hok)
   have hj:=fun b=>impl_partsOk_j1 t g ht hl i hlt _ rfl b _ (fun h=>okP_depth (hA h)) (fun _ _ _=>hn)
   rw [hok,Bool.true_and]
   rw [okP_eq] at hok
   simp only [Bool.and_eq_true] at hok
   obtain ⟨h1,h2,h3,h4,h5⟩:=hok
   refine Ev.succ ?_
   simp only [impl_partsOk.l0,hrd,impl_codeOk_ev,impl_within_ev,Option.bind_some]
   refine Ev.pos (by omega) (Ev.pos (by omega) (Ev.pos (by omega) (Ev.pos (by simpa using h1) (Ev.pos (by simpa using h2) ?_))))
   have:=hj (((g.getD i z35).f0 == 0) != ((i : Int) == 0))
   rw [h3,h4,h5,Bool.true_and,Bool.true_and,Bool.true_and] at this
   exact this
  ·have hok' : okP t g i (g.getD i z35) = false:=by simpa using hok
   rw [hok',Bool.false_and,Bool.false_and]
   have hj:=fun b (hb : b = false → okU g i (g.getD i z35) = true → okB t g i (g.getD i z35) = true → False)=>impl_partsOk_j1 t g ht hl i hlt _ rfl b false (fun h=>okP_depth (hA h)) (fun h1 h2 h3=>(hb h1 h2 h3).elim)
   simp only [Bool.and_false] at hj
   refine Ev.succ ?_
   simp only [impl_partsOk.l0,hrd,impl_codeOk_ev,impl_within_ev,Option.bind_some]
   refine Ev.pos (by omega) (Ev.pos (by omega) (Ev.pos (by omega) ?_))
   rw [okP_eq] at hok'
   by_cases h1 : (decide (0 ≤ (g.getD i z35).f3) && decide ((g.getD i z35).f3 ≤ 99)) = true
   ·refine Ev.pos h1 ?_
    rw [h1,Bool.true_and] at hok'
    by_cases h2 : (decide (0 ≤ (g.getD i z35).f0) && decide ((g.getD i z35).f0 ≤ 5)) = true
    ·refine Ev.pos h2 (hj _ (fun h3 h4 h5=>?_))
     rw [h2,h3,h4,h5] at hok'
     cases hok'
    ·exact Ev.neg h2 (hj true (fun h=>by cases h))
   ·exact Ev.neg h1 (hj true (fun h=>by cases h))
end Go.Proofs.Ytjdpaholpfpiiaa.P
namespace Go.Proofs.Ytjdpaholpfpiiaa.P
open Go.RowKit Go.Proofs.YtjdpaholpfpiiaaW.PrintWords Go.Proofs.YtjdpaholpfpiiaaW.PrintLast Go.Proofs.YtjdpaholpfpiiaaW.PrintMore
attribute [local go_sem] max2_int min2_int max_two min_two max_three min_three max_four min_four
set_option linter.unusedVariables false
set_option linter.unusedSimpArgs false
def impl_ValidGroup.f (k : Nat) (l0_0 : List (S70)) (l1 : List (S35)) : Option (Bool):=(impl_ValidTree.f l0_0).bind fun t2=>(if t2 = true then ((impl_partsOk.f k l0_0 l1).bind fun t3=>(some t3)) else (some false))
theorem impl_ValidGroup.mono : ∀ a0 a1 k,LeO (impl_ValidGroup.f k a0 a1) (impl_ValidGroup.f (k + 1) a0 a1):=by
 intro a0 a1 k
 unfold impl_ValidGroup.f
 repeat' first
   | (with_reducible exact impl_partsOk.mono _ _ _)
   | (with_reducible exact LeO.refl _)
   | (with_reducible exact LeO.none _)
   | (with_reducible refine LeO.ite ?_ ?_)
   | (with_reducible refine LeO.bind ?_ (fun _=>?_))
   | exact impl_partsOk.mono _ _ _
   | exact LeO.none _
   | refine LeO.ite ?_ ?_
   | refine LeO.bind ?_ (fun _=>?_)
set_option maxHeartbeats 8000000 in
set_option maxRecDepth 100000 in
theorem impl_ValidGroup.calls (k : Nat) (A0_0 : Option Addr) (c0_0 : Nat) (l0_0 : List (S70)) (A1 : Option Addr) (c1 : Nat) (l1 : List (S35)) (r : Bool) (w : World) (hr0_0 : Kd.C k70 w A0_0 l0_0.length l0_0) (hc0_0 : l0_0.length ≤ c0_0) (hr1 : Kd.C k35 w A1 l1.length l1) (hc1 : l1.length ≤ c1) (h : impl_ValidGroup.f k l0_0 l1 = some r) :
  Calls Try.prog 17 #[.agg #[.slice A0_0 l0_0.length c0_0],.slice A1 l1.length c1] w fun e w'=>e = .returned (.bool r) ∧ Below w.heap.size w w':=by
 have hu25:=Try.underlying25
 have HR0_0:=a0_ hr0_0
 have HC0_0:=a0_ hc0_0
 clear hr0_0 hc0_0
 have HR1:=a0_ hr1
 have HC1:=a0_ hc1
 clear hr1 hc1
 have HB:=a0_ (Below.refl w.heap.size w)
 have H : ((impl_ValidTree.f l0_0).bind fun t2=>(if t2 = true then ((impl_partsOk.f k l0_0 l1).bind fun t3=>(some t3)) else (some false))) = some r:=h
 clear h
 replace H:=Option.bind_eq_some_iff.mp H
 obtain ⟨t2,A30,H⟩:=H
 try dsimp only at H
 have A3:=a0_ A30
 clear A30
 by_cases c4 : t2 = true
 ·subst c4
  have H1 : ((impl_partsOk.f k l0_0 l1).bind fun t3=>(some t3)) = some r:=by rw [if_pos rfl] at H;exact H
  clear H
  have H:=H1
  clear H1
  replace H:=Option.bind_eq_some_iff.mp H
  obtain ⟨t3,A50,H⟩:=H
  replace H : (some t3) = some r:=H
  have A5:=a0_ A50
  clear A50
  obtain rfl:=Option.some.inj H
  go_enter Try.func17,Try.ntmps17
  go_wp2_with (first | ((with_reducible refine gate_dst (N:=2) rfl ?_);refine box_event ?hg (N:=2) ?hd (cs:=#[.slice A0_0 l0_0.length c0_0]) (t:=25) ?hr ?_;(case hd=>rfl);(case hg=>rfl);(case hr=>first | (go_simp;done) | (go_simp;rfl));intro gb1 hg w6 hbox hb;have BK1:=a0_ (hbox);have GW1:=a0_ ((by rw [hg];exact (below_size hb_) : w.heap.size ≤ gb1));have GE1:=a0_ ((by rw [hg];exact (below_size hb_) : w.heap.size ≤ gb1));replace HB:=a0_ (below_step hb_ hb);clear hb hbox hg;have hcz7_0 : w6.cell? ⟨gb1,0,none⟩ = some (.slice A0_0 l0_0.length c0_0):=(blk_cell BK1.out 0).trans rfl;have hfz7_0:=blk_frozen BK1.out 0) | ((with_reducible refine gate_callee (f:=35) rfl ?_);refine goesL_ (some 6) rfl rfl Try.func35 (by kernel_rfl) rfl #[.agg #[.slice A0_0 l0_0.length c0_0]] rfl lm_ ?_;(with_reducible refine (impl_ValidTree.calls _ _ l0_0 true _ ?side1 ?side2 A3.out).mono ?_);(case side1=>exact cc_ (Kd.C_below HR0_0.out HB.out));(case side2=>exact HC0_0.out);rintro e w8 ⟨rfl,hb⟩;refine ⟨_,rfl,?_⟩;replace BK1:=kb_ BK1 hb;replace HB:=a0_ (below_step hb_ hb);(try clear hb);have hcz9_0 : w8.cell? ⟨gb1,0,none⟩ = some (.slice A0_0 l0_0.length c0_0):=(blk_cell BK1.out 0).trans rfl;have hfz9_0:=blk_frozen BK1.out 0) | (go_at_call 36;(with_reducible refine (impl_partsOk.calls k _ _ l0_0 _ _ l1 t3 _ ?side1 ?side2 ?side3 ?side4 A5.out).mono ?_);(case side1=>exact cc_ (Kd.C_below HR0_0.out HB.out));(case side2=>exact HC0_0.out);(case side3=>exact cc_ (Kd.C_below HR1.out HB.out));(case side4=>exact HC1.out);rintro e w10 ⟨rfl,hb⟩;replace BK1:=kb_ BK1 hb;replace HB:=a0_ (below_step hb_ hb);(try clear hb);(try clear hb2);(try clear hk);(try clear hi)))
  go_ret
  exact ⟨by first | rfl | (simp [errW_none,errW_some] <;> rfl) | (simp [*,errW_none,errW_some] <;> rfl),hb_⟩
 ·replace c4:=Bool.eq_false_iff.mpr c4
  subst c4
  have H1 : (some false) = some r:=by rw [if_neg (show ¬ (false = true) by decide)] at H;exact H
  clear H
  have H:=H1
  clear H1
  obtain rfl:=Option.some.inj H
  go_enter Try.func17,Try.ntmps17
  go_wp2_with (first | ((with_reducible refine gate_dst (N:=2) rfl ?_);refine box_event ?hg (N:=2) ?hd (cs:=#[.slice A0_0 l0_0.length c0_0]) (t:=25) ?hr ?_;(case hd=>rfl);(case hg=>rfl);(case hr=>first | (go_simp;done) | (go_simp;rfl));intro gb1 hg w11 hbox hb;have BK1:=a0_ (hbox);have GW1:=a0_ ((by rw [hg];exact (below_size hb_) : w.heap.size ≤ gb1));have GE1:=a0_ ((by rw [hg];exact (below_size hb_) : w.heap.size ≤ gb1));replace HB:=a0_ (below_step hb_ hb);clear hb hbox hg;have hcz12_0 : w11.cell? ⟨gb1,0,none⟩ = some (.slice A0_0 l0_0.length c0_0):=(blk_cell BK1.out 0).trans rfl;have hfz12_0:=blk_frozen BK1.out 0) | ((with_reducible refine gate_callee (f:=35) rfl ?_);refine goesL_ (some 6) rfl rfl Try.func35 (by kernel_rfl) rfl #[.agg #[.slice A0_0 l0_0.length c0_0]] rfl lm_ ?_;(with_reducible refine (impl_ValidTree.calls _ _ l0_0 false _ ?side1 ?side2 A3.out).mono ?_);(case side1=>exact cc_ (Kd.C_below HR0_0.out HB.out));(case side2=>exact HC0_0.out);rintro e w13 ⟨rfl,hb⟩;refine ⟨_,rfl,?_⟩;replace BK1:=kb_ BK1 hb;replace HB:=a0_ (below_step hb_ hb);(try clear hb);(try clear hb2);(try clear hk);(try clear hi)))
  go_ret
  exact ⟨by first | rfl | (simp [errW_none,errW_some] <;> rfl) | (simp [*,errW_none,errW_some] <;> rfl),hb_⟩
theorem impl_ValidGroup_ev (t : List Cls) (g : List Prt) (ht : t.length ≤ 9223372036854775807) (hl : g.length ≤ 9223372036854775807) (hs : smT t = true) : Ev (fun k=>impl_ValidGroup.f k t g) (vG t g):=by
 refine Ev.bind (Ev.const (show impl_ValidTree.f t = some (vT t) by rw [impl_ValidTree.f,if_pos hs])) ?_
 unfold vG psG
 cases hv : vT t with
 | false =>
  refine Ev.neg (by simp) (Ev.const ?_)
  simp
 | true =>
  refine Ev.pos rfl (Ev.bind ?_ (Ev.const rfl))
  have:=impl_partsOk_l0 t g ht hl g.length 0 (by omega) (fun h=>absurd h (by omega))
  rw [List.range_eq_range',Bool.true_and]
  exact this
end Go.Proofs.Ytjdpaholpfpiiaa.P
namespace Go.Proofs.Ytjdpaholpfpiiaa.P
open Go.RowKit Go.Proofs.YtjdpaholpfpiiaaW.PrintWords Go.Proofs.YtjdpaholpfpiiaaW.PrintLast Go.Proofs.YtjdpaholpfpiiaaW.PrintMore
attribute [local go_sem] max2_int min2_int max_two min_two max_three min_three max_four min_four
set_option linter.unusedVariables false
set_option linter.unusedSimpArgs false
def impl_end.l0 : Nat → List (S35) → Int → Int → Option (Int)
 | 0,_,_,_=>none
 | k + 1,x0,x1,x5=>if x5 < (x0.length : Int) then (if 0 ≤ x5 then (if 0 ≤ x1 then (if x1 < (x0.length : Int) then (if ((rd_T35 x0 x5).f0) > ((rd_T35 x0 x1).f0) then (impl_end.l0 k x0 x1 (wrap64 (x5 + 1))) else (some x5)) else (none)) else (none)) else (none)) else (some x5)
def impl_end.f (k : Nat) (l0 : List (S35)) (a1 : Int) : Option (Int):=impl_end.l0 k l0 a1 (wrap64 (a1 + 1))
theorem impl_end.mono_l : ∀ k,(∀ y0 y1 y2,LeO (impl_end.l0 k y0 y1 y2) (impl_end.l0 (k + 1) y0 y1 y2))
 | 0=>fun _ _ _ r h=>by simp [impl_end.l0] at h
 | k + 1=>by
  have ih0:=impl_end.mono_l k
  ·intro y0 y1 y2
   unfold impl_end.l0
   repeat' first
   | (with_reducible exact ih0 _ _ _)
   | (with_reducible exact LeO.refl _)
   | (with_reducible exact LeO.none _)
   | (with_reducible refine LeO.ite ?_ ?_)
   | (with_reducible refine LeO.bind ?_ (fun _=>?_))
   | exact ih0 _ _ _
   | exact LeO.none _
   | refine LeO.ite ?_ ?_
   | refine LeO.bind ?_ (fun _=>?_)
theorem impl_end.mono : ∀ a0 a1 k,LeO (impl_end.f k a0 a1) (impl_end.f (k + 1) a0 a1):=by
 intro a0 a1 k
 have ih0:=impl_end.mono_l k
 unfold impl_end.f
 repeat' first
   | (with_reducible exact ih0 _ _ _)
   | (with_reducible exact LeO.refl _)
   | (with_reducible exact LeO.none _)
   | (with_reducible refine LeO.ite ?_ ?_)
   | (with_reducible refine LeO.bind ?_ (fun _=>?_))
   | exact ih0 _ _ _
   | exact LeO.none _
   | refine LeO.ite ?_ ?_
   | refine LeO.bind ?_ (fun _=>?_)
set_option maxHeartbeats 8000000 in
set_option maxRecDepth 100000 in
theorem impl_end.calls (k : Nat) (A0 : Option Addr) (c0 : Nat) (l0 : List (S35)) (a1 : Int) (r : Int) (w : World) (hr0 : Kd.C k35 w A0 l0.length l0) (hc0 : l0.length ≤ c0) (h : impl_end.f k l0 a1 = some r) :
  Calls Try.prog 38 #[.slice A0 l0.length c0,.int .i64 a1] w fun e w'=>e = .returned (.int .i64 r) ∧ Drawn0 w w':=by
 have HR0:=a0_ hr0
 have HC0:=a0_ hc0
 clear hr0 hc0
 have H : (impl_end.l0 k l0 a1 (wrap64 (a1 + 1))) = some r:=h
 clear h
 have H':=a0_ H
 clear H
 go_enter Try.func38,Try.ntmps38
 go_wp2
 repeat (go_quiet (fail);try go_wp2)
 go_loopg [5] k (fun kq v5 w'=>∃ (x5_1 : Int),v5 = .int .i64 x5_1 ∧ Aside0 (impl_end.l0 kq l0 a1 x5_1 = some r) ∧ Aside0 (kq ≤ k) ∧ Drawn0 w w')
 case atStart=>exact ⟨(wrap64 (a1 + 1)),(by first | rfl | (simp;done) | (simp [*];done)),H',⟨Nat.le_refl _⟩,by repeat (first | exact Drawn0.refl _ | apply Drawn0.step)⟩
 case round =>
  clear H'
  try clear p2
  obtain ⟨x5_1,rfl,HA,HK1,⟨m1,rfl⟩⟩:=hrel
  cases gk with
  | zero=>exact absurd HA.out (by simp [impl_end.l0])
  | succ k1 =>
   have H:=HA.out
   clear HA
   simp only [impl_end.l0] at H
   by_cases c3 : x5_1 < (l0.length : Int)
   ·rw [if_pos c3] at H
    have c3b0 : decide (x5_1 < (l0.length : Int)) = true:=decide_eq_true c3
    clear c3
    by_cases c4 : 0 ≤ x5_1
    ·rw [if_pos c4] at H
     have c4b0 : decide (0 ≤ x5_1) = true:=decide_eq_true c4
     clear c4
     by_cases c5 : 0 ≤ a1
     ·rw [if_pos c5] at H
      have c5b0 : decide (0 ≤ a1) = true:=decide_eq_true c5
      clear c5
      by_cases c6 : a1 < (l0.length : Int)
      ·rw [if_pos c6] at H
       have c6b0 : decide (a1 < (l0.length : Int)) = true:=decide_eq_true c6
       clear c6
       by_cases c7 : ((rd_T35 l0 x5_1).f0) > ((rd_T35 l0 a1).f0)
       ·rw [if_pos c7] at H
        have c7b0 : decide (((rd_T35 l0 a1).f0) < ((rd_T35 l0 x5_1).f0)) = true:=decide_eq_true c7
        clear c7
        have H':=a0_ H
        clear H
        have p1 : 0 ≤ (x5_1 : Int):=of_decide_eq_true (by first | (with_reducible assumption) | assumption)
        have q1 : x5_1 < (l0.length : Int):=of_decide_eq_true (by first | (with_reducible assumption) | assumption)
        obtain ⟨ad1,e1,hx1_0,hx1_1,hx1_2,hx1_3⟩:=at_T35 HR0.out x5_1 p1 q1
        cases e1
        replace p1:=eq_true p1
        replace q1:=eq_true q1
        have p2 : 0 ≤ (a1 : Int):=of_decide_eq_true (by first | (with_reducible assumption) | assumption)
        have q2 : a1 < (l0.length : Int):=of_decide_eq_true (by first | (with_reducible assumption) | assumption)
        obtain ⟨ad2,e2,hx2_0,hx2_1,hx2_2,hx2_3⟩:=at_T35 HR0.out a1 p2 q2
        obtain rfl : ad1 = ad2:=(by injection e2)
        replace p2:=eq_true p2
        replace q2:=eq_true q2
        go_wp2
        repeat (go_quiet (fail);try go_wp2)
        go_roundg k1
        case measure=>have:=HK1.out;omega
        case rel=>exact ⟨(wrap64 (x5_1 + 1)),(by first | rfl | (simp;done) | (simp [*];done)),H',⟨by have:=HK1.out;omega⟩,by repeat (first | exact Drawn0.refl _ | apply Drawn0.step)⟩
       ·rw [if_neg c7] at H
        have c7b0 : decide (((rd_T35 l0 a1).f0) < ((rd_T35 l0 x5_1).f0)) = false:=decide_eq_false c7
        clear c7
        obtain rfl:=Option.some.inj H
        have p1 : 0 ≤ (x5_1 : Int):=of_decide_eq_true (by first | (with_reducible assumption) | assumption)
        have q1 : x5_1 < (l0.length : Int):=of_decide_eq_true (by first | (with_reducible assumption) | assumption)
        obtain ⟨ad1,e1,hx1_0,hx1_1,hx1_2,hx1_3⟩:=at_T35 HR0.out x5_1 p1 q1
        cases e1
        replace p1:=eq_true p1
        replace q1:=eq_true q1
        have p2 : 0 ≤ (a1 : Int):=of_decide_eq_true (by first | (with_reducible assumption) | assumption)
        have q2 : a1 < (l0.length : Int):=of_decide_eq_true (by first | (with_reducible assumption) | assumption)
        obtain ⟨ad2,e2,hx2_0,hx2_1,hx2_2,hx2_3⟩:=at_T35 HR0.out a1 p2 q2
        obtain rfl : ad1 = ad2:=(by injection e2)
        replace p2:=eq_true p2
        replace q2:=eq_true q2
        go_wp2
        repeat (go_quiet (fail);try go_wp2)
        go_ret
        exact ⟨by first | rfl | (simp;done) | (simp [*];done),by repeat (first | exact Drawn0.refl _ | apply Drawn0.step)⟩
      ·rw [if_neg c6] at H
       exact absurd H (by simp)
     ·rw [if_neg c5] at H
      exact absurd H (by simp)
    ·rw [if_neg c4] at H
     exact absurd H (by simp)
   ·rw [if_neg c3] at H
    have c3b0 : decide (x5_1 < (l0.length : Int)) = false:=decide_eq_false c3
    clear c3
    obtain rfl:=Option.some.inj H
    go_wp2
    repeat (go_quiet (fail);try go_wp2)
    go_ret
    exact ⟨by first | rfl | (simp;done) | (simp [*];done),by repeat (first | exact Drawn0.refl _ | apply Drawn0.step)⟩
theorem impl_end_ev (g : List Prt) (i : Nat) (hi : i < g.length) (hl : g.length ≤ 9223372036854775807) : Ev (fun k=>impl_end.f k g (i : Int)) ((endG g i : Nat) : Int):=by
 have key : ∀ d j,j + d = g.length → Ev (fun k=>impl_end.l0 k g (i : Int) (j : Int)) ((j + ((g.drop j).takeWhile (fun p=>decide ((g.getD i z35).f0 < p.f0))).length : Nat) : Int):=by
  intro d
  induction d with
  | zero =>
   intro j hj
   rw [List.drop_eq_nil_of_le (by omega)]
   refine Ev.succ (Ev.congr (F:=fun _=>some ((j : Nat) : Int)) (Ev.const rfl) (fun k=>?_))
   simp only [impl_end.l0]
   rw [if_neg (by omega)]
  | succ d ih =>
   intro j hj
   have hlt : j < g.length:=by omega
   have hrd : rd_T35 g (j : Int) = g[j]:=by simp [rd_T35,hlt]
   have hri : rd_T35 g (i : Int) = g.getD i z35:=by simp [rd_T35]
   rw [List.drop_eq_getElem_cons hlt,List.takeWhile_cons]
   refine Ev.succ (Ev.congr (F:=fun k=>if (g.getD i z35).f0 < g[j].f0 then impl_end.l0 k g (i : Int) ((j + 1 : Nat) : Int) else some (j : Int)) ?_ (fun k=>?_))
   ·by_cases h : (g.getD i z35).f0 < g[j].f0
    ·refine Ev.pos h ?_
     rw [decide_eq_true h,if_pos rfl,List.length_cons]
     have:=ih (j + 1) (by omega)
     rw [show j + 1 + ((g.drop (j + 1)).takeWhile (fun p=>decide ((g.getD i z35).f0 < p.f0))).length = j + (((g.drop (j + 1)).takeWhile (fun p=>decide ((g.getD i z35).f0 < p.f0))).length + 1) by omega] at this
     exact this
    ·refine Ev.neg h ?_
     rw [decide_eq_false h,if_neg (by simp)]
     exact Ev.const rfl
   ·simp only [impl_end.l0]
    rw [if_pos (by omega),if_pos (by omega),if_pos (by omega),if_pos (by omega),hrd,hri,wrap_succ (i:=(j : Int)) (n:=g.length) (by omega) (by omega) (by omega)]
    rfl
 have:=key (g.length - (i + 1)) (i + 1) (by omega)
 refine Ev.congr this (fun k=>?_)
 unfold impl_end.f
 rw [wrap_succ (i:=(i : Int)) (n:=g.length) (by omega) (by omega) (by omega)]
 rfl
end Go.Proofs.Ytjdpaholpfpiiaa.P
namespace Go.Proofs.Ytjdpaholpfpiiaa.P
open Go.RowKit Go.Proofs.YtjdpaholpfpiiaaW.PrintWords Go.Proofs.YtjdpaholpfpiiaaW.PrintLast Go.Proofs.YtjdpaholpfpiiaaW.PrintMore
attribute [local go_sem] max2_int min2_int max_two min_two max_three min_three max_four min_four
set_option linter.unusedVariables false
set_option linter.unusedSimpArgs false
def impl_deeper.l0 : Nat → Int → List (S35) → List (S35) → Int → Int → Option ((List (S35)))
 | 0,_,_,_,_,_=>none
 | k + 1,x1,x5,x11,x12,x13=>if x13 < x12 then (if 0 ≤ x13 then (if x13 < (x11.length : Int) then (if x5.length < 4398046511104 then (impl_deeper.l0 k x1 (x5 ++ [(⟨wrap64 (((rd_T35 x11 x13).f0) + x1),(rd_T35 x11 x13).f1,(rd_T35 x11 x13).f2,(rd_T35 x11 x13).f3⟩ : S35)]) x11 x12 (wrap64 (x13 + 1))) else (none)) else (none)) else (none)) else (some x5)
def impl_deeper.f (k : Nat) (l0 : List (S35)) (a1 : Int) : Option ((List (S35))):=if 0 ≤ (l0.length : Int) then (if ((l0.length : Int) : Int).toNat ≤ 8796093022208 then (impl_deeper.l0 k a1 (([] : List (S35))) l0 (l0.length : Int) 0) else (none)) else (none)
theorem impl_deeper.mono_l : ∀ k,(∀ y0 y1 y2 y3 y4,LeO (impl_deeper.l0 k y0 y1 y2 y3 y4) (impl_deeper.l0 (k + 1) y0 y1 y2 y3 y4))
 | 0=>fun _ _ _ _ _ r h=>by simp [impl_deeper.l0] at h
 | k + 1=>by
  have ih0:=impl_deeper.mono_l k
  ·intro y0 y1 y2 y3 y4
   unfold impl_deeper.l0
   repeat' first
   | (with_reducible exact ih0 _ _ _ _ _)
   | (with_reducible exact LeO.refl _)
   | (with_reducible exact LeO.none _)
   | (with_reducible refine LeO.ite ?_ ?_)
   | (with_reducible refine LeO.bind ?_ (fun _=>?_))
   | exact ih0 _ _ _ _ _
   | exact LeO.none _
   | refine LeO.ite ?_ ?_
   | refine LeO.bind ?_ (fun _=>?_)
theorem impl_deeper.mono : ∀ a0 a1 k,LeO (impl_deeper.f k a0 a1) (impl_deeper.f (k + 1) a0 a1):=by
 intro a0 a1 k
 have ih0:=impl_deeper.mono_l k
 unfold impl_deeper.f
 repeat' first
   | (with_reducible exact ih0 _ _ _ _ _)
   | (with_reducible exact LeO.refl _)
   | (with_reducible exact LeO.none _)
   | (with_reducible refine LeO.ite ?_ ?_)
   | (with_reducible refine LeO.bind ?_ (fun _=>?_))
   | exact ih0 _ _ _ _ _
   | exact LeO.none _
   | refine LeO.ite ?_ ?_
   | refine LeO.bind ?_ (fun _=>?_)
set_option maxHeartbeats 8000000 in
set_option maxRecDepth 100000 in
theorem impl_deeper.calls (k : Nat) (A0 : Option Addr) (c0 : Nat) (l0 : List (S35)) (a1 : Int) (r : List (S35)) (w : World) (hr0 : Kd.C k35 w A0 l0.length l0) (hc0 : l0.length ≤ c0) (h : impl_deeper.f k l0 a1 = some r) :
  Calls Try.prog 39 #[.slice A0 l0.length c0,.int .i64 a1] w fun e w'=>∃ v0_ : Value,e = .returned (v0_) ∧ Kd.R k35 35 w' w.heap.size (fun _=>True) v0_ r ∧ Below w.heap.size w w':=by
 have hu35:=Try.underlying35
 have HR0:=a0_ hr0
 have HC0:=a0_ hc0
 clear hr0 hc0
 have HB:=a0_ (Below.refl w.heap.size w)
 have H : (if 0 ≤ (l0.length : Int) then (if ((l0.length : Int) : Int).toNat ≤ 8796093022208 then (impl_deeper.l0 k a1 (([] : List (S35))) l0 (l0.length : Int) 0) else (none)) else (none)) = some r:=h
 clear h
 by_cases c3 : 0 ≤ (l0.length : Int)
 ·rw [if_pos c3] at H
  have c3b0:=eq_true c3
  have c3b1 : decide (0 ≤ (l0.length : Int)) = true:=decide_eq_true c3
  clear c3
  by_cases c4 : ((l0.length : Int) : Int).toNat ≤ 8796093022208
  ·rw [if_pos c4] at H
   have c4b0:=eq_true c4
   have c4b1 : decide (((l0.length : Int) : Int).toNat ≤ 8796093022208) = true:=decide_eq_true c4
   clear c4
   obtain ⟨y1,hy1⟩ : ∃ y_ : List (S35),y_ = (([] : List (S35))):=⟨_,rfl⟩
   replace H : (impl_deeper.l0 k a1 y1 l0 (l0.length : Int) 0) = some r:=by first | (rw [hy1];with_reducible exact H) | (have H2_:=(Option.bind_some _ _).symm.trans H;rw [hy1];with_reducible exact H2_) | (have H2_:=(Option.bind_some _ _).symm.trans H;with_reducible exact H2_) | with_reducible exact H | (rw [hy1];exact H) | exact H
   have Ny1:=a0_ hy1
   clear hy1
   have H':=a0_ H
   clear H
   go_enter Try.func39,Try.ntmps39
   go_wp2_with (first | ((with_reducible refine gate_dst (N:=10) rfl ?_);refine Kd.R_make0 k35 _ 35 rfl (N:=10) rfl 26 _ _ rfl (l0.length : Int) rfl rfl Try.underlying26 (.agg #[(.int .i64 0),(.bool false),(.int .i64 0),(.int .i64 0)]) 32 info35 rfl (by decide) (by omega) z35 (ok:=fun _=>True) (okp:=fun _=>True) (k35_mkM _ _ _ z35 ) (fun _ hk=>hk) trivial (of_decide_eq_true (by first | (with_reducible assumption) | assumption)) (Nat.le_trans (Nat.mul_le_mul_right _ (of_decide_eq_true (by first | (with_reducible assumption) | assumption) : (l0.length : Int).toNat ≤ 8796093022208)) (by omega)) (Below.refl _ _) (Nat.le_refl _) ?_;intro v2 w5 ho6 hb hg_ hnew_;clear hg_ hnew_;(first | rw [← Ny1.out] at ho6 | (simp only [Int.reduceToNat] at ho6;rw [← Ny1.out] at ho6));have HO3:=a0_ (Kd.R_lower ho6 (below_size hb_));replace HB:=a0_ (below_step hb_ hb);clear hb ho6))
   go_loopg [5,13] k (fun kq v5 v13 w'=>∃ (x5_1 : List (S35)) (x13_1 : Int),v13 = .int .i64 x13_1 ∧ Aside0 (impl_deeper.l0 kq a1 x5_1 l0 (l0.length : Int) x13_1 = some r) ∧ Aside0 (kq ≤ k) ∧ Aside0 (Kd.R k35 35 w' w.heap.size (fun _=>True) v5 x5_1) ∧ Aside0 (Below w.heap.size w w'))
   case atStart=>exact ⟨(y1),(0),(by first | rfl | (simp;done) | (simp [*];done)),H',⟨Nat.le_refl _⟩,⟨by (with_reducible repeat (first | apply Kd.R_alloc | apply Kd.R_drewN | apply Kd.R_drew));exact HO3.out⟩,⟨hb_⟩⟩
   case round =>
    clear H'
    try clear p2
    try clear c3
    try clear c3b0
    try clear c3b1
    try clear c4
    try clear c4b0
    try clear c4b1
    obtain ⟨x5_1,x13_1,rfl,HA,HK1,HO_5,HB⟩:=hrel
    cases gk with
    | zero=>exact absurd HA.out (by simp [impl_deeper.l0])
    | succ k1 =>
     have H:=HA.out
     clear HA
     simp only [impl_deeper.l0] at H
     by_cases c7 : x13_1 < (l0.length : Int)
     ·rw [if_pos c7] at H
      have c7b0 : decide (x13_1 < (l0.length : Int)) = true:=decide_eq_true c7
      clear c7
      by_cases c8 : 0 ≤ x13_1
      ·rw [if_pos c8] at H
       have c8b0 : decide (0 ≤ x13_1) = true:=decide_eq_true c8
       clear c8
       by_cases c9 : x13_1 < (l0.length : Int)
       ·rw [if_pos c9] at H
        have c9b0 : decide (x13_1 < (l0.length : Int)) = true:=decide_eq_true c9
        clear c9
        by_cases c10 : x5_1.length < 4398046511104
        ·rw [if_pos c10] at H
         have LMc10:=a0_ c10
         clear c10
         obtain ⟨y6,hy6⟩ : ∃ y_ : List (S35),y_ = (x5_1 ++ [(⟨wrap64 (((rd_T35 l0 x13_1).f0) + a1),(rd_T35 l0 x13_1).f1,(rd_T35 l0 x13_1).f2,(rd_T35 l0 x13_1).f3⟩ : S35)]):=⟨_,rfl⟩
         replace H : (impl_deeper.l0 k1 a1 y6 l0 (l0.length : Int) (wrap64 (x13_1 + 1))) = some r:=by first | (rw [hy6];with_reducible exact H) | (have H2_:=(Option.bind_some _ _).symm.trans H;rw [hy6];with_reducible exact H2_) | (have H2_:=(Option.bind_some _ _).symm.trans H;with_reducible exact H2_) | with_reducible exact H | (rw [hy6];exact H) | exact H
         have Ny6:=a0_ hy6
         clear hy6
         have H':=a0_ H
         clear H
         have p4 : 0 ≤ (x13_1 : Int):=of_decide_eq_true (by first | (with_reducible assumption) | assumption)
         have q4 : x13_1 < (l0.length : Int):=of_decide_eq_true (by first | (with_reducible assumption) | assumption)
         obtain ⟨ad4,e4,hx4_0,hx4_1,hx4_2,hx4_3⟩:=at_T35 HR0.out x13_1 p4 q4
         cases e4
         replace hx4_0:=(HB.out.cell (World.block_lt_of_cell? w _ hx4_0)).trans hx4_0
         replace hx4_1:=(HB.out.cell (World.block_lt_of_cell? w _ hx4_1)).trans hx4_1
         replace hx4_2:=(HB.out.cell (World.block_lt_of_cell? w _ hx4_2)).trans hx4_2
         replace hx4_3:=(HB.out.cell (World.block_lt_of_cell? w _ hx4_3)).trans hx4_3
         replace p4:=eq_true p4
         replace q4:=eq_true q4
         go_wp2_with (first | ((with_reducible refine gate_dst (N:=7) rfl ?_);refine box_event ?hg (N:=7) ?hd (cs:=#[.int .i64 0,.bool false,.int .i64 0,.int .i64 0]) (t:=35) ?hr ?_;(case hd=>rfl);(case hg=>rfl);(case hr=>first | (go_simp;done) | (go_simp;rfl));intro gb5 hg w11 hbox hb;replace HO_5:=a0_ (Kd.R_below (Kd.R_elderB (rr_ HO_5.out) gb5 (Nat.le_of_eq hg.symm)) hb);have BK5:=a0_ (hbox);have GW5:=a0_ ((by rw [hg];exact (below_size hb_) : w.heap.size ≤ gb5));have GE5:=a0_ ((by rw [hg];exact (below_size hb_) : w.heap.size ≤ gb5));replace HB:=a0_ (below_step hb_ hb);clear hb hbox hg;have hcz12_0 : w11.cell? ⟨gb5,0,none⟩ = some (.int .i64 0):=(blk_cell BK5.out 0).trans rfl;have hcz12_1 : w11.cell? ⟨gb5,1,none⟩ = some (.bool false):=(blk_cell BK5.out 1).trans rfl;have hcz12_2 : w11.cell? ⟨gb5,2,none⟩ = some (.int .i64 0):=(blk_cell BK5.out 2).trans rfl;have hcz12_3 : w11.cell? ⟨gb5,3,none⟩ = some (.int .i64 0):=(blk_cell BK5.out 3).trans rfl;have hfz12_0:=blk_frozen BK5.out 0;have hfz12_1:=blk_frozen BK5.out 1;have hfz12_2:=blk_frozen BK5.out 2;have hfz12_3:=blk_frozen BK5.out 3) | ((with_reducible refine gate_builtin (b:=.append) (xs:=#[.tmp 22,.tmp 24]) rfl ?_);at_builtin;refine Kd.R_append k35 (w0:=w) w.heap.size rfl (.tmp 22) (.tmp 24) 26 35 (.agg #[(.int .i64 0),(.bool false),(.int .i64 0),(.int .i64 0)]) 32 rfl Try.underlying26 info35 rfl (by decide) (by omega) u5 x5_1 (⟨wrap64 (((rd_T35 l0 x13_1).f0) + a1),(rd_T35 l0 x13_1).f1,(rd_T35 l0 x13_1).f2,(rd_T35 l0 x13_1).f3⟩ : S35) [.int .i64 (wrap64 (((rd_T35 l0 x13_1).f0) + a1)),.bool ((rd_T35 l0 x13_1).f1),.int .i64 ((rd_T35 l0 x13_1).f2),.int .i64 ((rd_T35 l0 x13_1).f3)] (fun k_=>k_ ≠ gb5) (fun _=>False) rfl (by first | (go_simp;done) | (go_simp;rfl)) ?aP (fun _ hk=>hk.elim) ?aF ?aO ?aB ?aS ?aL ?_;(case aP=>exact k35_mkM _ _ _ (⟨wrap64 (((rd_T35 l0 x13_1).f0) + a1),(rd_T35 l0 x13_1).f1,(rd_T35 l0 x13_1).f2,(rd_T35 l0 x13_1).f3⟩ : S35));(case aB=>exact hb_);(case aF=>exact (fun k_ hk=>Kd.freshB (g:=gb5) (o:=.cells #[.int .i64 (wrap64 (((rd_T35 l0 x13_1).f0) + a1)),.bool ((rd_T35 l0 x13_1).f1),.int .i64 ((rd_T35 l0 x13_1).f2),.int .i64 ((rd_T35 l0 x13_1).f3)] 35 (0,0)) (by (with_reducible repeat (first | refine blk_drewN ?_ _ | refine blk_drew ?_ | refine blk_alloc ?_ _));refine blk_put (cs:=#[.int .i64 ((rd_T35 l0 x13_1).f0),.bool ((rd_T35 l0 x13_1).f1),.int .i64 ((rd_T35 l0 x13_1).f2),.int .i64 ((rd_T35 l0 x13_1).f3)]) ?_ 0 _ rfl;(with_reducible repeat (first | refine blk_drewN ?_ _ | refine blk_drew ?_ | refine blk_alloc ?_ _));refine blk_put (cs:=#[.int .i64 ((rd_T35 l0 x13_1).f0),.bool ((rd_T35 l0 x13_1).f1),.int .i64 ((rd_T35 l0 x13_1).f2),.int .i64 0]) ?_ 3 _ rfl;(with_reducible repeat (first | refine blk_drewN ?_ _ | refine blk_drew ?_ | refine blk_alloc ?_ _));refine blk_put (cs:=#[.int .i64 ((rd_T35 l0 x13_1).f0),.bool ((rd_T35 l0 x13_1).f1),.int .i64 0,.int .i64 0]) ?_ 2 _ rfl;(with_reducible repeat (first | refine blk_drewN ?_ _ | refine blk_drew ?_ | refine blk_alloc ?_ _));refine blk_put (cs:=#[.int .i64 ((rd_T35 l0 x13_1).f0),.bool false,.int .i64 0,.int .i64 0]) ?_ 1 _ rfl;(with_reducible repeat (first | refine blk_drewN ?_ _ | refine blk_drew ?_ | refine blk_alloc ?_ _));refine blk_put (cs:=#[.int .i64 0,.bool false,.int .i64 0,.int .i64 0]) ?_ 0 _ rfl;(with_reducible repeat (first | refine blk_drewN ?_ _ | refine blk_drew ?_ | refine blk_alloc ?_ _));exact BK5.out) k_ hk));(case aO=>exact (by (with_reducible repeat (first | apply Kd.R_alloc | apply Kd.R_drewN | apply Kd.R_drew));exact Kd.R_mono (Kd.R_far (p:=⟨gb5,0,none⟩) (Kd.R_far (p:=⟨gb5,3,none⟩) (Kd.R_far (p:=⟨gb5,2,none⟩) (Kd.R_far (p:=⟨gb5,1,none⟩) (Kd.R_far (p:=⟨gb5,0,none⟩) (Kd.R_mono HO_5.out (fun k_ hk=>(⟨hk,hk.2⟩ : _ ∧ k_ ≠ gb5))) (fun _ hk=>hk.2) (.int .i64 ((rd_T35 l0 x13_1).f0))) (fun _ hk=>hk.2) (.bool ((rd_T35 l0 x13_1).f1))) (fun _ hk=>hk.2) (.int .i64 ((rd_T35 l0 x13_1).f2))) (fun _ hk=>hk.2) (.int .i64 ((rd_T35 l0 x13_1).f3))) (fun _ hk=>hk.2) (.int .i64 (wrap64 (((rd_T35 l0 x13_1).f0) + a1)))) (fun _ hk=>hk.1.2)));(case aS=>exact (below_size hb_));(case aL=>have:=LMc10.out;omega);intro v7 w13 ho hb hg hat;rw [← Ny6.out] at ho;replace BK5:=a0_ (blk_grown (g:=gb5) (o:=.cells #[.int .i64 (wrap64 (((rd_T35 l0 x13_1).f0) + a1)),.bool ((rd_T35 l0 x13_1).f1),.int .i64 ((rd_T35 l0 x13_1).f2),.int .i64 ((rd_T35 l0 x13_1).f3)] 35 (0,0)) (by (with_reducible repeat (first | refine blk_drewN ?_ _ | refine blk_drew ?_ | refine blk_alloc ?_ _));refine blk_put (cs:=#[.int .i64 ((rd_T35 l0 x13_1).f0),.bool ((rd_T35 l0 x13_1).f1),.int .i64 ((rd_T35 l0 x13_1).f2),.int .i64 ((rd_T35 l0 x13_1).f3)]) ?_ 0 _ rfl;(with_reducible repeat (first | refine blk_drewN ?_ _ | refine blk_drew ?_ | refine blk_alloc ?_ _));refine blk_put (cs:=#[.int .i64 ((rd_T35 l0 x13_1).f0),.bool ((rd_T35 l0 x13_1).f1),.int .i64 ((rd_T35 l0 x13_1).f2),.int .i64 0]) ?_ 3 _ rfl;(with_reducible repeat (first | refine blk_drewN ?_ _ | refine blk_drew ?_ | refine blk_alloc ?_ _));refine blk_put (cs:=#[.int .i64 ((rd_T35 l0 x13_1).f0),.bool ((rd_T35 l0 x13_1).f1),.int .i64 0,.int .i64 0]) ?_ 2 _ rfl;(with_reducible repeat (first | refine blk_drewN ?_ _ | refine blk_drew ?_ | refine blk_alloc ?_ _));refine blk_put (cs:=#[.int .i64 ((rd_T35 l0 x13_1).f0),.bool false,.int .i64 0,.int .i64 0]) ?_ 1 _ rfl;(with_reducible repeat (first | refine blk_drewN ?_ _ | refine blk_drew ?_ | refine blk_alloc ?_ _));refine blk_put (cs:=#[.int .i64 0,.bool false,.int .i64 0,.int .i64 0]) ?_ 0 _ rfl;(with_reducible repeat (first | refine blk_drewN ?_ _ | refine blk_drew ?_ | refine blk_alloc ?_ _));exact BK5.out) hg (Kd.R_away HO_5.out (fun _ hk=>hk.2)));have HO8:=a0_ (ho);replace HB:=a0_ (hb);clear HO_5;clear ho hb hg hat))
         go_roundg k1
         case measure=>have:=HK1.out;omega
         case rel=>exact ⟨(y6),(wrap64 (x13_1 + 1)),(by first | rfl | (simp;done) | (simp [*];done)),H',⟨by have:=HK1.out;omega⟩,⟨by (with_reducible repeat (first | apply Kd.R_alloc | apply Kd.R_drewN | apply Kd.R_drew));exact Kd.R_mono HO8.out (fun _ hk=>trivial)⟩,⟨hb_⟩⟩
        ·rw [if_neg c10] at H
         exact absurd H (by simp)
       ·rw [if_neg c9] at H
        exact absurd H (by simp)
      ·rw [if_neg c8] at H
       exact absurd H (by simp)
     ·rw [if_neg c7] at H
      have c7b0 : decide (x13_1 < (l0.length : Int)) = false:=decide_eq_false c7
      clear c7
      obtain rfl:=Option.some.inj H
      go_wp2
      go_ret
      exact ⟨_,by first | rfl | (simp [errW_none,errW_some] <;> rfl) | (simp [*,errW_none,errW_some] <;> rfl),by (with_reducible repeat (first | apply Kd.R_alloc | apply Kd.R_drewN | apply Kd.R_drew));exact HO_5.out,hb_⟩
  ·rw [if_neg c4] at H
   exact absurd H (by simp)
 ·rw [if_neg c3] at H
  exact absurd H (by simp)
theorem impl_deeper_ev (g : List Prt) (d : Int) (hl : g.length ≤ 1048576) (hd : -1000 ≤ d ∧ d ≤ 1000) (hg : ∀ p ∈ g,-1000000 ≤ p.f0 ∧ p.f0 ≤ 1000000) : Ev (fun k=>impl_deeper.f k g d) (dpr d g):=by
 have key : ∀ n j,j + n = g.length → Ev (fun k=>impl_deeper.l0 k d (dpr d (g.take j)) g (g.length : Int) (j : Int)) (dpr d g):=by
  intro n
  induction n with
  | zero =>
   intro j hj
   refine Ev.succ ?_
   simp only [impl_deeper.l0]
   rw [List.take_of_length_le (by omega)]
   exact Ev.neg (by omega) (Ev.const rfl)
  | succ n ih =>
   intro j hj
   refine Ev.succ ?_
   have hlt : j < g.length:=by omega
   have hr : rd_T35 g (j : Int) = g[j]:=by simp [rd_T35,hlt]
   have hb:=hg g[j] (List.getElem_mem _)
   have hi:=ih (j + 1) (by omega)
   have e : dpr d (g.take (j + 1)) = dpr d (g.take j) ++ [⟨g[j].f0 + d,g[j].f1,g[j].f2,g[j].f3⟩]:=by
    rw [List.take_succ_eq_append_getElem hlt]
    unfold dpr
    rw [List.map_append]
    rfl
   rw [e] at hi
   have h1 : (dpr d (g.take j)).length ≤ j:=by rw [dpr_len,List.length_take];omega
   simp only [impl_deeper.l0,hr]
   rw [wrap_succ (i:=(j : Int)) (n:=g.length) (by omega) (by omega) (by omega),wrap_in (i:=g[j].f0 + d) (by omega) (by omega)]
   exact Ev.pos (by omega) (Ev.pos (by omega) (Ev.pos (by omega) (Ev.pos (by omega) hi)))
 exact Ev.pos (by omega) (Ev.pos (by omega) (key g.length 0 (by omega)))
end Go.Proofs.Ytjdpaholpfpiiaa.P
namespace Go.Proofs.Ytjdpaholpfpiiaa.P
open Go.RowKit Go.Proofs.YtjdpaholpfpiiaaW.PrintWords Go.Proofs.YtjdpaholpfpiiaaW.PrintLast Go.Proofs.YtjdpaholpfpiiaaW.PrintMore
attribute [local go_sem] max2_int min2_int max_two min_two max_three min_three max_four min_four
set_option linter.unusedVariables false
set_option linter.unusedSimpArgs false
def slices_Clip_sPart.f (l0 : List (List (S35))) : Option (List (List (S35))):=some l0
set_option maxHeartbeats 8000000 in
set_option maxRecDepth 100000 in
theorem slices_Clip_sPart.calls (P0_ : Nat → Prop) (u9000_ : Value) (l0 : List (List (S35))) (r : List (List (S35))) (w0 w : World) (hB : Below w0.heap.size w0 w) (ho0 : Kd.S (Kd.slice 35 k35) 26 w w0.heap.size P0_ u9000_ l0) (h : slices_Clip_sPart.f l0 = some r) :
  Calls Try.prog 40 #[u9000_] w fun e w'=>∃ v0_ : Value,e = .returned (v0_) ∧ Kd.S (Kd.slice 35 k35) 26 w' w0.heap.size (fun k_=>(P0_ k_ ∨ w.heap.size ≤ k_)) v0_ r ∧ Below w0.heap.size w0 w' ∧ Kept w w' (fun k_=>P0_ k_):=by
 have HO0:=a0_ (show Kd.S (Kd.slice 35 k35) 26 w w0.heap.size (fun k_=>(P0_ k_ ∨ w.heap.size ≤ k_)) u9000_ l0 from Kd.S_mono ho0 (fun k_ hk=>(.inl hk)))
 have HK:=a0_ (Kept.refl w (fun k_=>P0_ k_))
 have HW0:=a0_ hB.size
 have HB:=a0_ hB
 clear hB
 obtain rfl:=Option.some.inj h
 clear h
 have c2b0:=eq_true (show 0 ≤ (l0.length : Int) by omega)
 have c2b1 : decide (0 ≤ (l0.length : Int)) = true:=decide_eq_true (by omega)
 have c3b1 : decide ((l0.length : Int) ≤ (l0.length : Int)) = true:=decide_eq_true (by omega)
 obtain ⟨Ao4,co4,eo4⟩:=Kd.S_slice HO0.out
 subst eo4
 have q5 : l0.length ≤ co4:=(Kd.S_reads' HO0.out).2.1
 have hr5:=Kd.S_clip' HO0.out rfl
 clear HO0
 have HO3:=a0_ hr5
 clear hr5
 go_enter Try.func40,Try.ntmps40
 go_wp2
 go_ret
 exact ⟨_,rfl,HO3.out,HB.out,HK.out⟩
theorem slices_Clip_sPart_ev (l : List (List Prt)) : slices_Clip_sPart.f l = some l:=rfl
end Go.Proofs.Ytjdpaholpfpiiaa.P
namespace Go.Proofs.Ytjdpaholpfpiiaa.P
open Go.RowKit Go.Proofs.YtjdpaholpfpiiaaW.PrintWords Go.Proofs.YtjdpaholpfpiiaaW.PrintLast Go.Proofs.YtjdpaholpfpiiaaW.PrintMore
attribute [local go_sem] max2_int min2_int max_two min_two max_three min_three max_four min_four
set_option linter.unusedVariables false
set_option linter.unusedSimpArgs false
def impl_kids.l0 : Nat → List (S35) → List (List (S35)) → Int → Option ((List (List (S35))))
 | 0,_,_,_=>none
 | k + 1,x0,x3,x4=>if x4 < (x0.length : Int) then ((impl_end.f k x0 x4).bind fun t4=>(if 0 ≤ x4 then (if x4 ≤ t4 then (if t4 ≤ (x0.length : Int) then ((impl_deeper.f k ((x0.take (t4 : Int).toNat).drop (x4 : Int).toNat) (-1)).bind fun t9=>(if x3.length < 5864062014805 then ((impl_end.f k x0 x4).bind fun t15=>(impl_kids.l0 k x0 (x3 ++ [t9]) t15)) else (none))) else (none)) else (none)) else (none))) else (some x3)
def impl_kids.f (k : Nat) (l0 : List (S35)) : Option ((List (List (S35)))):=impl_kids.l0 k l0 (([] : List (List (S35)))) 1
theorem impl_kids.mono_l : ∀ k,(∀ y0 y1 y2,LeO (impl_kids.l0 k y0 y1 y2) (impl_kids.l0 (k + 1) y0 y1 y2))
 | 0=>fun _ _ _ r h=>by simp [impl_kids.l0] at h
 | k + 1=>by
  have ih0:=impl_kids.mono_l k
  ·intro y0 y1 y2
   unfold impl_kids.l0
   repeat' first
   | (with_reducible exact ih0 _ _ _)
   | (with_reducible exact impl_deeper.mono _ _ _)
   | (with_reducible exact impl_end.mono _ _ _)
   | (with_reducible exact LeO.refl _)
   | (with_reducible exact LeO.none _)
   | (with_reducible refine LeO.ite ?_ ?_)
   | (with_reducible refine LeO.bind ?_ (fun _=>?_))
   | exact ih0 _ _ _
   | exact impl_deeper.mono _ _ _
   | exact impl_end.mono _ _ _
   | exact LeO.none _
   | refine LeO.ite ?_ ?_
   | refine LeO.bind ?_ (fun _=>?_)
theorem impl_kids.mono : ∀ a0 k,LeO (impl_kids.f k a0) (impl_kids.f (k + 1) a0):=by
 intro a0 k
 have ih0:=impl_kids.mono_l k
 unfold impl_kids.f
 repeat' first
   | (with_reducible exact ih0 _ _ _)
   | (with_reducible exact impl_deeper.mono _ _ _)
   | (with_reducible exact impl_end.mono _ _ _)
   | (with_reducible exact LeO.refl _)
   | (with_reducible exact LeO.none _)
   | (with_reducible refine LeO.ite ?_ ?_)
   | (with_reducible refine LeO.bind ?_ (fun _=>?_))
   | exact ih0 _ _ _
   | exact impl_deeper.mono _ _ _
   | exact impl_end.mono _ _ _
   | exact LeO.none _
   | refine LeO.ite ?_ ?_
   | refine LeO.bind ?_ (fun _=>?_)
set_option maxHeartbeats 8000000 in
set_option maxRecDepth 100000 in
theorem impl_kids.calls (k : Nat) (A0 : Option Addr) (c0 : Nat) (l0 : List (S35)) (r : List (List (S35))) (w : World) (hr0 : Kd.C k35 w A0 l0.length l0) (hc0 : l0.length ≤ c0) (h : impl_kids.f k l0 = some r) :
  Calls Try.prog 22 #[.slice A0 l0.length c0] w fun e w'=>∃ v0_ : Value,e = .returned (v0_) ∧ Kd.S (Kd.slice 35 k35) 26 w' w.heap.size (fun _=>True) v0_ r ∧ Below w.heap.size w w':=by
 have HR0:=a0_ hr0
 have HC0:=a0_ hc0
 clear hr0 hc0
 have HB:=a0_ (Below.refl w.heap.size w)
 have H : (impl_kids.l0 k l0 (([] : List (List (S35)))) 1) = some r:=h
 clear h
 obtain ⟨y1,hy1⟩ : ∃ y_ : List (List (S35)),y_ = (([] : List (List (S35)))):=⟨_,rfl⟩
 replace H : (impl_kids.l0 k l0 y1 1) = some r:=by first | (rw [hy1];with_reducible exact H) | (have H2_:=(Option.bind_some _ _).symm.trans H;rw [hy1];with_reducible exact H2_) | (have H2_:=(Option.bind_some _ _).symm.trans H;with_reducible exact H2_) | with_reducible exact H | (rw [hy1];exact H) | exact H
 have Ny1:=a0_ hy1
 clear hy1
 have H':=a0_ H
 clear H
 go_enter Try.func22,Try.ntmps22
 go_wp2_with (first | ((with_reducible refine gate_dst (N:=5) rfl ?_);refine Kd.S_lit (Kd.slice 35 k35) _ 26 ?hg (N:=5) ?hd (xs:=([] : List (List (S35)))) (inner:=[]) (ok:=fun _=>True) (okp:=fun _=>True) ?hr ?hp (fun _ hk=>hk) trivial (Below.refl _ _) (Nat.le_refl _) (by simp) ?_;(case hd=>rfl);(case hg=>rfl);(case hr=>first | (go_simp;done) | (go_simp;rfl));(case hp=>exact (Reps.none _ _));intro v2 w2 ho3 hb hg_ hnew_;clear hg_ hnew_;(first | rw [← Ny1.out] at ho3 | (simp only [Int.reduceToNat] at ho3;rw [← Ny1.out] at ho3));have HO3:=a0_ (Kd.S_lower ho3 (below_size hb_));replace HB:=a0_ (below_step hb_ hb);clear hb ho3))
 go_loopg [3,4] k (fun kq v3 v4 w'=>∃ (x3_1 : List (List (S35))) (x4_1 : Int),v4 = .int .i64 x4_1 ∧ Aside0 (impl_kids.l0 kq l0 x3_1 x4_1 = some r) ∧ Aside0 (kq ≤ k) ∧ Aside0 (Kd.S (Kd.slice 35 k35) 26 w' w.heap.size (fun _=>True) v3 x3_1) ∧ Aside0 (Below w.heap.size w w'))
 case atStart=>exact ⟨(y1),(1),(by first | rfl | (simp;done) | (simp [*];done)),H',⟨Nat.le_refl _⟩,⟨by (with_reducible repeat (first | apply Kd.S_alloc | apply Kd.S_drewN | apply Kd.S_drew));exact HO3.out⟩,⟨hb_⟩⟩
 case round =>
  clear H'
  try clear c2
  try clear p2
  obtain ⟨x3_1,x4_1,rfl,HA,HK1,HO_3,HB⟩:=hrel
  cases gk with
  | zero=>exact absurd HA.out (by simp [impl_kids.l0])
  | succ k1 =>
   have H:=HA.out
   clear HA
   simp only [impl_kids.l0] at H
   by_cases c4 : x4_1 < (l0.length : Int)
   ·rw [if_pos c4] at H
    have c4b0 : decide (x4_1 < (l0.length : Int)) = true:=decide_eq_true c4
    clear c4
    replace H:=Option.bind_eq_some_iff.mp H
    obtain ⟨t4,A50,H⟩:=H
    try dsimp only at H
    have A5:=a0_ A50
    clear A50
    by_cases c6 : 0 ≤ x4_1
    ·rw [if_pos c6] at H
     have c6b0:=eq_true c6
     have c6b1 : decide (0 ≤ x4_1) = true:=decide_eq_true c6
     clear c6
     by_cases c7 : x4_1 ≤ t4
     ·rw [if_pos c7] at H
      have c7b0:=eq_true c7
      have c7b1 : decide (x4_1 ≤ t4) = true:=decide_eq_true c7
      clear c7
      by_cases c8 : t4 ≤ (l0.length : Int)
      ·rw [if_pos c8] at H
       have c8b0:=eq_true c8
       have c8b1 : decide (t4 ≤ (l0.length : Int)) = true:=decide_eq_true c8
       clear c8
       obtain ⟨y5,hy5⟩ : ∃ y_ : List (S35),y_ = ((l0.take (t4 : Int).toNat).drop (x4_1 : Int).toNat):=⟨_,rfl⟩
       replace H : ((impl_deeper.f k1 y5 (-1)).bind fun t9=>(if x3_1.length < 5864062014805 then ((impl_end.f k1 l0 x4_1).bind fun t15=>(impl_kids.l0 k1 l0 (x3_1 ++ [t9]) t15)) else (none))) = some r:=by first | (rw [hy5];with_reducible exact H) | (have H2_:=(Option.bind_some _ _).symm.trans H;rw [hy5];with_reducible exact H2_) | (have H2_:=(Option.bind_some _ _).symm.trans H;with_reducible exact H2_) | with_reducible exact H | (rw [hy5];exact H) | exact H
       have Ny5:=a0_ hy5
       clear hy5
       replace H:=Option.bind_eq_some_iff.mp H
       obtain ⟨t9,A90,H⟩:=H
       try dsimp only at H
       have A9:=a0_ A90
       clear A90
       by_cases c10 : x3_1.length < 5864062014805
       ·rw [if_pos c10] at H
        have LMc10:=a0_ c10
        clear c10
        obtain ⟨y12,hy12⟩ : ∃ y_ : List (List (S35)),y_ = (x3_1 ++ [t9]):=⟨_,rfl⟩
        replace H : ((impl_end.f k1 l0 x4_1).bind fun t15=>(impl_kids.l0 k1 l0 y12 t15)) = some r:=by first | (rw [hy12];with_reducible exact H) | (have H2_:=(Option.bind_some _ _).symm.trans H;rw [hy12];with_reducible exact H2_) | (have H2_:=(Option.bind_some _ _).symm.trans H;with_reducible exact H2_) | with_reducible exact H | (rw [hy12];exact H) | exact H
        have Ny12:=a0_ hy12
        clear hy12
        replace H:=Option.bind_eq_some_iff.mp H
        obtain ⟨t15,A110,H⟩:=H
        replace H : (impl_kids.l0 k1 l0 y12 t15) = some r:=H
        have A11:=a0_ A110
        clear A110
        have H':=a0_ H
        clear H
        go_wp2_with (first | ((with_reducible refine gate_callee (f:=38) rfl ?_);refine goesL_ (some 18) rfl rfl Try.func38 (by kernel_rfl) rfl #[.slice A0 l0.length c0,.int .i64 x4_1] rfl lm_ ?_;(with_reducible refine (impl_end.calls k1 _ _ l0 x4_1 t4 _ ?side1 ?side2 A5.out).mono ?_);(case side1=>exact cc_ (Kd.C_below HR0.out HB.out));(case side2=>exact HC0.out);rintro e w' ⟨rfl,⟨nd,rfl⟩⟩;refine ⟨_,rfl,?_⟩;have q12 : (t4 : Int) ≤ ((l0.length : Int) : Int):=of_decide_eq_true (by first | (with_reducible assumption) | assumption);obtain ⟨i012,hi012,_,hsz12,_⟩:=info_parts info35;have hroom12 : l0.length ≤ c0:=HC0.out;have hC12 : Kd.C k35 _ A0 l0.length l0:=HR0.out;have ql12 : (x4_1 : Int) ≤ (t4 : Int):=of_decide_eq_true (by first | (with_reducible assumption) | assumption);have q012 : (0 : Int) ≤ (x4_1 : Int):=of_decide_eq_true (by first | (with_reducible assumption) | assumption);have hcut12:=cut_mid (P:=Try.prog) 26 35 .i64 .i64 Try.underlying26 hi012 4 hsz12 A0 l0.length c0 x4_1 t4 q012 ql12 q12 hroom12;have hr12:=Kd.C_mid (lo:=(x4_1 : Int).toNat) (hi:=(t4 : Int).toNat) (c:=c0) hC12 (by omega) (by omega) hroom12;obtain ⟨A12,hA12⟩ : ∃ AZ_,AZ_ = (if c0 = (x4_1 : Int).toNat then A0 else (A0 : Option Addr).map (·.add ((x4_1 : Int).toNat * 4))):=⟨_,rfl⟩;obtain ⟨c12,hc12⟩ : ∃ cZ_,cZ_ = c0 - (x4_1 : Int).toNat:=⟨_,rfl⟩;have hy12 : y5.length = (t4 : Int).toNat - (x4_1 : Int).toNat:=(by rw [Ny5.out,List.length_drop,List.length_take] <;> omega);rw [show ((l0).take (t4 : Int).toNat).drop (x4_1 : Int).toNat = y5 from Ny5.out.symm] at hr12;replace hr12 : Kd.C k35 _ A12 y5.length y5:=(by rw [hA12];exact hr12);rw [← hy12,← hA12,← hc12] at hcut12;have HR8:=a0_ hr12;have HC8:=a0_ (show y5.length ≤ c12 from by rw [hy12,hc12];exact Nat.sub_le_sub_right (Nat.le_trans (by omega) hroom12) _);clear hr12 hC12 hroom12 hi012 hsz12 hc12;have KY12:=a0_ hy12;have KA12:=a0_ hA12;clear hy12 hA12;replace q12:=eq_true q12) | ((with_reducible refine gate_callee (f:=39) rfl ?_);refine goesL_ (some 20) rfl rfl Try.func39 (by kernel_rfl) rfl #[.slice A12 y5.length c12,.int .i64 (-1)] rfl lm_ ?_;(with_reducible refine (impl_deeper.calls k1 _ _ y5 (-1) t9 _ ?side1 ?side2 A9.out).mono ?_);(case side1=>repeat (first | exact (Kd.C_below HR8.out hb_) | (with_reducible refine Kd.C_alloc ?_ _) | (with_reducible refine Kd.C_drewN ?_ _) | (with_reducible refine Kd.C_drew ?_)));(case side2=>exact HC8.out);rintro e w13 ⟨v10,rfl,ho0,hb⟩;refine ⟨_,rfl,?_⟩;replace HO_3:=a0_ (Kd.S_elder' (by (with_reducible repeat (first | apply Kd.S_alloc | apply Kd.S_drewN | apply Kd.S_drew));exact HO_3.out) (Kd.R_base ho0) hb);have HO11:=a0_ (Kd.R_lower ho0 (below_size hb_));replace HB:=a0_ (below_step hb_ hb);(try clear hb);(try clear ho0);obtain ⟨Ao15,co15,eo15⟩:=Kd.R_slice HO11.out;subst eo15) | ((with_reducible refine gate_builtin (b:=.append) (xs:=#[.tmp 13,.tmp 21]) rfl ?_);at_builtin;refine Kd.S_append (Kd.slice 35 k35) (w0:=w) w.heap.size rfl (.tmp 13) (.tmp 21) 29 26 (.slice none 0 0) 24 rfl Try.underlying29 info26 rfl (by decide) (by omega) u3 x3_1 t9 [.slice Ao15 t9.length co15] (fun _=>True) (fun k_=>some k_ = (.slice Ao15 t9.length co15 : Value).ownBlock) rfl rfl ?aP (fun k_ hk_=>((Kd.R_mono (ok':=fun k_=>((fun _=>True)) k_ ∧ some k_ ≠ (u3 : Value).ownBlock) (Kd.R_apart' (HO11.out) (Kd.S_typed HO_3.out) (by decide)) (fun k_ hk=>⟨trivial,hk.2⟩))).1 k_ hk_.symm) ?aF ?aO ?aB ?aS ?aL ?_;(case aP=>exact Kd.M_row (Kd.R_mono (Kd.R_tight rfl (Kd.R_mono (ok':=fun k_=>((fun _=>True)) k_ ∧ some k_ ≠ (u3 : Value).ownBlock) (Kd.R_apart' (HO11.out) (Kd.S_typed HO_3.out) (by decide)) (fun k_ hk=>⟨trivial,hk.2⟩))) (fun _ h_=>h_)));(case aB=>exact hb_);(case aF=>exact (fun _ _=>trivial));(case aO=>exact (by (with_reducible repeat (first | apply Kd.S_alloc | apply Kd.S_drewN | apply Kd.S_drew));exact Kd.S_mono HO_3.out (fun k_ hk=>⟨trivial,fun e_=>hk.2 e_⟩)));(case aS=>exact (below_size hb_));(case aL=>have:=LMc10.out;omega);intro v13 w14 ho hb hg hat;rw [← Ny12.out] at ho;have HO14:=a0_ (ho);replace HB:=a0_ (hb);clear HO_3 HO11;clear ho hb hg hat) | ((with_reducible refine gate_callee (f:=38) rfl ?_);refine goesL_ (some 12) rfl rfl Try.func38 (by kernel_rfl) rfl #[.slice A0 l0.length c0,.int .i64 x4_1] rfl lm_ ?_;(with_reducible refine (impl_end.calls k1 _ _ l0 x4_1 t15 _ ?side1 ?side2 A11.out).mono ?_);(case side1=>exact cc_ (Kd.C_below HR0.out HB.out));(case side2=>exact HC0.out);rintro e w' ⟨rfl,⟨nd,rfl⟩⟩;refine ⟨_,rfl,?_⟩))
        go_roundg k1
        case measure=>have:=HK1.out;omega
        case rel=>exact ⟨(y12),(t15),(by first | rfl | (simp;done) | (simp [*];done)),H',⟨by have:=HK1.out;omega⟩,⟨by (with_reducible repeat (first | apply Kd.S_alloc | apply Kd.S_drewN | apply Kd.S_drew));exact HO14.out⟩,⟨hb_⟩⟩
       ·rw [if_neg c10] at H
        exact absurd H (by simp)
      ·rw [if_neg c8] at H
       exact absurd H (by simp)
     ·rw [if_neg c7] at H
      exact absurd H (by simp)
    ·rw [if_neg c6] at H
     exact absurd H (by simp)
   ·rw [if_neg c4] at H
    have c4b0 : decide (x4_1 < (l0.length : Int)) = false:=decide_eq_false c4
    clear c4
    obtain rfl:=Option.some.inj H
    go_wp2_with (go_at_call 40;refine (slices_Clip_sPart.calls (fun _=>True) _ _ _ w _ HB.out HO_3.out rfl).mono ?_;rintro e w2 ⟨v2,rfl,ho2,hb2,hk2⟩)
    go_ret
    exact ⟨_,rfl,Kd.S_mono ho2 (fun _ _=>trivial),hb2⟩
theorem impl_kids_l0 (g : List Prt) (hl : g.length ≤ 1000) (hb : ∀ p ∈ g,-1000 ≤ p.f0 ∧ p.f0 ≤ 1000) : ∀ (n i : Nat) (out : List (List Prt)),g.length ≤ i + n → i ≤ g.length → out.length ≤ i → Ev (fun k=>impl_kids.l0 k g out (i : Int)) (out ++ (kidR n (g.drop i)).map (dpr (-1))):=by
 intro n
 induction n with
 | zero =>
  intro i out hn hi ho
  refine Ev.succ ?_
  simp only [impl_kids.l0]
  exact Ev.neg (by omega) (Ev.const (by simp [kidR]))
 | succ n ih =>
  intro i out hn hi ho
  refine Ev.succ ?_
  by_cases hlt : i < g.length
  ·obtain ⟨e1,e2⟩:=end_mid g i hlt
   have hE:=impl_end_ev g i hlt (by omega)
   have hle:=endG_le g i hlt
   have hD:=impl_deeper_ev (g[i] :: belw g[i] (g.drop (i + 1))) (-1) (by
    have:=(belw_sub g[i] (g.drop (i + 1))).length_le
    rw [List.length_drop] at this
    rw [List.length_cons]
    omega) (by omega) (fun p hp=>by
    have hm : p ∈ g:=by
     rcases List.mem_cons.1 hp with rfl | hp
     ·exact List.getElem_mem _
     ·exact List.mem_of_mem_drop ((belw_sub _ _).subset hp)
    have:=hb p hm
    omega)
   rw [← e1] at hD
   have hi2:=ih (endG g i) (out ++ [dpr (-1) ((g.take (endG g i)).drop i)]) (by omega) hle (by simp;omega)
   have ek : kidR (n + 1) (g.drop i) = (g.take (endG g i)).drop i :: kidR n (g.drop (endG g i)):=by
    rw [List.drop_eq_getElem_cons hlt,kidR,e1,e2,List.drop_drop]
   rw [ek,List.map_cons]
   rw [List.append_assoc,List.singleton_append] at hi2
   simp only [impl_kids.l0]
   refine Ev.pos (by omega) (Ev.bind hE (Ev.pos (by omega) (Ev.pos (by omega) (Ev.pos (by omega) ?_))))
   simp only [Int.toNat_natCast]
   exact Ev.bind hD (Ev.pos (by omega) (Ev.bind hE hi2))
  ·rw [List.drop_eq_nil_of_le (by omega)]
   simp only [impl_kids.l0]
   exact Ev.neg (by omega) (Ev.const (by simp [kidR]))
theorem impl_kids_ev (g : List Prt) (hl : g.length ≤ 1000) (h1 : 1 ≤ g.length) (hb : ∀ p ∈ g,-1000 ≤ p.f0 ∧ p.f0 ≤ 1000) : Ev (fun k=>impl_kids.f k g) (kidL g):=by
 have:=impl_kids_l0 g hl hb g.length 1 [] (by omega) h1 (by simp)
 exact this
end Go.Proofs.Ytjdpaholpfpiiaa.P
namespace Go.Proofs.Ytjdpaholpfpiiaa.P
open Go.RowKit Go.Proofs.YtjdpaholpfpiiaaW.PrintWords Go.Proofs.YtjdpaholpfpiiaaW.PrintLast Go.Proofs.YtjdpaholpfpiiaaW.PrintMore
attribute [local go_sem] max2_int min2_int max_two min_two max_three min_three max_four min_four
set_option linter.unusedVariables false
set_option linter.unusedSimpArgs false
def impl_KidsOf.f (k : Nat) (l0_0 : List (S70)) (l1 : List (S35)) : Option ((List (List (S35)))):=(impl_ValidGroup.f k l0_0 l1).bind fun t2=>(if t2 = true then ((impl_kids.f k l1).bind fun t3=>(some t3)) else (some ([] : List (List (S35)))))
theorem impl_KidsOf.mono : ∀ a0 a1 k,LeO (impl_KidsOf.f k a0 a1) (impl_KidsOf.f (k + 1) a0 a1):=by
 intro a0 a1 k
 unfold impl_KidsOf.f
 repeat' first
   | (with_reducible exact impl_ValidGroup.mono _ _ _)
   | (with_reducible exact impl_kids.mono _ _)
   | (with_reducible exact LeO.refl _)
   | (with_reducible exact LeO.none _)
   | (with_reducible refine LeO.ite ?_ ?_)
   | (with_reducible refine LeO.bind ?_ (fun _=>?_))
   | exact impl_ValidGroup.mono _ _ _
   | exact impl_kids.mono _ _
   | exact LeO.none _
   | refine LeO.ite ?_ ?_
   | refine LeO.bind ?_ (fun _=>?_)
set_option maxHeartbeats 8000000 in
set_option maxRecDepth 100000 in
theorem impl_KidsOf.calls (k : Nat) (A0_0 : Option Addr) (c0_0 : Nat) (l0_0 : List (S70)) (A1 : Option Addr) (c1 : Nat) (l1 : List (S35)) (r : List (List (S35))) (w : World) (hr0_0 : Kd.C k70 w A0_0 l0_0.length l0_0) (hc0_0 : l0_0.length ≤ c0_0) (hr1 : Kd.C k35 w A1 l1.length l1) (hc1 : l1.length ≤ c1) (h : impl_KidsOf.f k l0_0 l1 = some r) :
  Calls Try.prog 7 #[.agg #[.slice A0_0 l0_0.length c0_0],.slice A1 l1.length c1] w fun e w'=>∃ v0_ : Value,e = .returned (v0_) ∧ Kd.S (Kd.slice 35 k35) 26 w' w.heap.size (fun _=>True) v0_ r ∧ Below w.heap.size w w':=by
 have hu25:=Try.underlying25
 have HR0_0:=a0_ hr0_0
 have HC0_0:=a0_ hc0_0
 clear hr0_0 hc0_0
 have HR1:=a0_ hr1
 have HC1:=a0_ hc1
 clear hr1 hc1
 have HB:=a0_ (Below.refl w.heap.size w)
 have H : ((impl_ValidGroup.f k l0_0 l1).bind fun t2=>(if t2 = true then ((impl_kids.f k l1).bind fun t3=>(some t3)) else (some ([] : List (List (S35)))))) = some r:=h
 clear h
 replace H:=Option.bind_eq_some_iff.mp H
 obtain ⟨t2,A30,H⟩:=H
 try dsimp only at H
 have A3:=a0_ A30
 clear A30
 by_cases c4 : t2 = true
 ·subst c4
  have H1 : ((impl_kids.f k l1).bind fun t3=>(some t3)) = some r:=by rw [if_pos rfl] at H;exact H
  clear H
  have H:=H1
  clear H1
  replace H:=Option.bind_eq_some_iff.mp H
  obtain ⟨t3,A50,H⟩:=H
  replace H : (some t3) = some r:=H
  have A5:=a0_ A50
  clear A50
  obtain rfl:=Option.some.inj H
  go_enter Try.func7,Try.ntmps7
  go_wp2_with (first | ((with_reducible refine gate_dst (N:=2) rfl ?_);refine box_event ?hg (N:=2) ?hd (cs:=#[.slice A0_0 l0_0.length c0_0]) (t:=25) ?hr ?_;(case hd=>rfl);(case hg=>rfl);(case hr=>first | (go_simp;done) | (go_simp;rfl));intro gb1 hg w6 hbox hb;have BK1:=a0_ (hbox);have GW1:=a0_ ((by rw [hg];exact (below_size hb_) : w.heap.size ≤ gb1));have GE1:=a0_ ((by rw [hg];exact (below_size hb_) : w.heap.size ≤ gb1));replace HB:=a0_ (below_step hb_ hb);clear hb hbox hg;have hcz7_0 : w6.cell? ⟨gb1,0,none⟩ = some (.slice A0_0 l0_0.length c0_0):=(blk_cell BK1.out 0).trans rfl;have hfz7_0:=blk_frozen BK1.out 0) | ((with_reducible refine gate_callee (f:=17) rfl ?_);refine goesL_ (some 7) rfl rfl Try.func17 (by kernel_rfl) rfl #[.agg #[.slice A0_0 l0_0.length c0_0],.slice A1 l1.length c1] rfl lm_ ?_;(with_reducible refine (impl_ValidGroup.calls k _ _ l0_0 _ _ l1 true _ ?side1 ?side2 ?side3 ?side4 A3.out).mono ?_);(case side1=>exact cc_ (Kd.C_below HR0_0.out HB.out));(case side2=>exact HC0_0.out);(case side3=>exact cc_ (Kd.C_below HR1.out HB.out));(case side4=>exact HC1.out);rintro e w8 ⟨rfl,hb⟩;refine ⟨_,rfl,?_⟩;replace BK1:=kb_ BK1 hb;replace HB:=a0_ (below_step hb_ hb);(try clear hb);(try clear hb2);(try clear hk);(try clear hi)) | ((with_reducible refine gate_callee (f:=22) rfl ?_);refine goesL_ (some 10) rfl rfl Try.func22 (by kernel_rfl) rfl #[.slice A1 l1.length c1] rfl lm_ ?_;(with_reducible refine (impl_kids.calls k _ _ l1 t3 _ ?side1 ?side2 A5.out).mono ?_);(case side1=>exact cc_ (Kd.C_below HR1.out HB.out));(case side2=>exact HC1.out);rintro e w9 ⟨v4,rfl,ho0,hb⟩;refine ⟨_,rfl,?_⟩;have HO5:=a0_ (Kd.S_lower ho0 (below_size hb_));replace BK1:=kb_ BK1 hb;replace HB:=a0_ (below_step hb_ hb);(try clear hb);(try clear ho0)))
  go_ret
  exact ⟨_,by first | rfl | (simp [errW_none,errW_some] <;> rfl) | (simp [*,errW_none,errW_some] <;> rfl),by (with_reducible repeat (first | apply Kd.S_alloc | apply Kd.S_drewN | apply Kd.S_drew));exact HO5.out,hb_⟩
 ·replace c4:=Bool.eq_false_iff.mpr c4
  subst c4
  have H1 : (some ([] : List (List (S35)))) = some r:=by rw [if_neg (show ¬ (false = true) by decide)] at H;exact H
  clear H
  have H:=H1
  clear H1
  obtain rfl:=Option.some.inj H
  go_enter Try.func7,Try.ntmps7
  go_wp2_with (first | ((with_reducible refine gate_dst (N:=2) rfl ?_);refine box_event ?hg (N:=2) ?hd (cs:=#[.slice A0_0 l0_0.length c0_0]) (t:=25) ?hr ?_;(case hd=>rfl);(case hg=>rfl);(case hr=>first | (go_simp;done) | (go_simp;rfl));intro gb1 hg w10 hbox hb;have BK1:=a0_ (hbox);have GW1:=a0_ ((by rw [hg];exact (below_size hb_) : w.heap.size ≤ gb1));have GE1:=a0_ ((by rw [hg];exact (below_size hb_) : w.heap.size ≤ gb1));replace HB:=a0_ (below_step hb_ hb);clear hb hbox hg;have hcz11_0 : w10.cell? ⟨gb1,0,none⟩ = some (.slice A0_0 l0_0.length c0_0):=(blk_cell BK1.out 0).trans rfl;have hfz11_0:=blk_frozen BK1.out 0) | ((with_reducible refine gate_callee (f:=17) rfl ?_);refine goesL_ (some 7) rfl rfl Try.func17 (by kernel_rfl) rfl #[.agg #[.slice A0_0 l0_0.length c0_0],.slice A1 l1.length c1] rfl lm_ ?_;(with_reducible refine (impl_ValidGroup.calls k _ _ l0_0 _ _ l1 false _ ?side1 ?side2 ?side3 ?side4 A3.out).mono ?_);(case side1=>exact cc_ (Kd.C_below HR0_0.out HB.out));(case side2=>exact HC0_0.out);(case side3=>exact cc_ (Kd.C_below HR1.out HB.out));(case side4=>exact HC1.out);rintro e w12 ⟨rfl,hb⟩;refine ⟨_,rfl,?_⟩;replace BK1:=kb_ BK1 hb;replace HB:=a0_ (below_step hb_ hb);(try clear hb);(try clear hb2);(try clear hk);(try clear hi)))
  go_ret
  exact ⟨_,by first | rfl | (simp [errW_none,errW_some] <;> rfl) | (simp [*,errW_none,errW_some] <;> rfl),by first | exact Kd.S_nil _ _ _ _ _ | exact Kd.N_nil _ _ _ _ _ | exact Kd.V_nil _ _ _ _ _ | exact Kd.Q_nil _ _ _ _ _ | exact Kd.R_nil _ _ _ _ _,hb_⟩
theorem impl_KidsOf_ev (t : List Cls) (g : List Prt) (ht : t.length ≤ 9223372036854775807) (hl : g.length ≤ 1048576) (hs : smT t = true) : Ev (fun k=>impl_KidsOf.f k t g) (kidP t g):=by
 refine Ev.bind (impl_ValidGroup_ev t g ht (by omega) hs) ?_
 unfold kidP
 cases hv : vG t g with
 | false=>exact Ev.neg (by simp) (Ev.const (by simp))
 | true =>
  obtain ⟨_,he,h16,_⟩:=vG_tre hv
  exact Ev.pos rfl (Ev.bind (impl_kids_ev g (by omega) (vG_tree hv).2.1 (fun p hp=>by have:=he p hp;omega)) (Ev.const (by simp)))
end Go.Proofs.Ytjdpaholpfpiiaa.P
namespace Go.Proofs.Ytjdpaholpfpiiaa.P
open Go.RowKit Go.Proofs.YtjdpaholpfpiiaaW.PrintWords Go.Proofs.YtjdpaholpfpiiaaW.PrintLast Go.Proofs.YtjdpaholpfpiiaaW.PrintMore
attribute [local go_sem] max2_int min2_int max_two min_two max_three min_three max_four min_four
set_option linter.unusedVariables false
set_option linter.unusedSimpArgs false
theorem eqA35 (d : Nat) (w : World) (x0 y0 : Int) (x1 y1 : Bool) (x2 y2 : Int) (x3 y3 : Int) :
  (Op.equalIn (d + 2) 35 (.agg #[.int .i64 x0,.bool x1,.int .i64 x2,.int .i64 x3]) (.agg #[.int .i64 y0,.bool y1,.int .i64 y2,.int .i64 y3])).run Try.prog w = .ok (x0 == y0 && (x1 == y1 && (x2 == y2 && (x3 == y3)))) w:=by
 refine eqA_of Try.underlying35 (by kernel_rfl) ?_
 refine eqf_cons (by rfl) (by go_simp;rfl) (by go_simp;rfl) (by go_simp) ?_
 refine eqf_cons (by rfl) (by go_simp;rfl) (by go_simp;rfl) (by go_simp) ?_
 refine eqf_cons (by rfl) (by go_simp;rfl) (by go_simp;rfl) (by go_simp) ?_
 exact eqf_last (by rfl) (by go_simp;rfl) (by go_simp;rfl) (by go_simp)
end Go.Proofs.Ytjdpaholpfpiiaa.P
namespace Go.Proofs.Ytjdpaholpfpiiaa.P
open Go.RowKit Go.Proofs.YtjdpaholpfpiiaaW.PrintWords Go.Proofs.YtjdpaholpfpiiaaW.PrintLast Go.Proofs.YtjdpaholpfpiiaaW.PrintMore
attribute [local go_sem] max2_int min2_int max_two min_two max_three min_three max_four min_four
set_option linter.unusedVariables false
set_option linter.unusedSimpArgs false
attribute [local go_sem high] eqA35
def laws_equalGroup.l0 : Nat → List (S35) → List (S35) → Int → Option (Bool)
 | 0,_,_,_=>none
 | k + 1,x0,x1,x5=>if x5 < (x0.length : Int) then (if 0 ≤ x5 then (if x5 < (x1.length : Int) then (if (!(((rd_T35 x0 x5).f0) == ((rd_T35 x1 x5).f0)) || (!(((rd_T35 x0 x5).f1) == ((rd_T35 x1 x5).f1)) || (!(((rd_T35 x0 x5).f2) == ((rd_T35 x1 x5).f2)) || (!(((rd_T35 x0 x5).f3) == ((rd_T35 x1 x5).f3)))))) = true then (some false) else (laws_equalGroup.l0 k x0 x1 (wrap64 (x5 + 1)))) else (none)) else (none)) else (some true)
def laws_equalGroup.f (k : Nat) (l0 : List (S35)) (l1 : List (S35)) : Option (Bool):=if (l0.length : Int) = (l1.length : Int) then (laws_equalGroup.l0 k l0 l1 0) else (some false)
theorem laws_equalGroup.mono_l : ∀ k,(∀ y0 y1 y2,LeO (laws_equalGroup.l0 k y0 y1 y2) (laws_equalGroup.l0 (k + 1) y0 y1 y2))
 | 0=>fun _ _ _ r h=>by simp [laws_equalGroup.l0] at h
 | k + 1=>by
  have ih0:=laws_equalGroup.mono_l k
  ·intro y0 y1 y2
   unfold laws_equalGroup.l0
   repeat' first
   | (with_reducible exact ih0 _ _ _)
   | (with_reducible exact LeO.refl _)
   | (with_reducible exact LeO.none _)
   | (with_reducible refine LeO.ite ?_ ?_)
   | (with_reducible refine LeO.bind ?_ (fun _=>?_))
   | exact ih0 _ _ _
   | exact LeO.none _
   | refine LeO.ite ?_ ?_
   | refine LeO.bind ?_ (fun _=>?_)
theorem laws_equalGroup.mono : ∀ a0 a1 k,LeO (laws_equalGroup.f k a0 a1) (laws_equalGroup.f (k + 1) a0 a1):=by
 intro a0 a1 k
 have ih0:=laws_equalGroup.mono_l k
 unfold laws_equalGroup.f
 repeat' first
   | (with_reducible exact ih0 _ _ _)
   | (with_reducible exact LeO.refl _)
   | (with_reducible exact LeO.none _)
   | (with_reducible refine LeO.ite ?_ ?_)
   | (with_reducible refine LeO.bind ?_ (fun _=>?_))
   | exact ih0 _ _ _
   | exact LeO.none _
   | refine LeO.ite ?_ ?_
   | refine LeO.bind ?_ (fun _=>?_)
set_option maxHeartbeats 8000000 in
set_option maxRecDepth 100000 in
theorem laws_equalGroup.calls (k : Nat) (A0 : Option Addr) (c0 : Nat) (l0 : List (S35)) (A1 : Option Addr) (c1 : Nat) (l1 : List (S35)) (r : Bool) (w : World) (hr0 : Kd.C k35 w A0 l0.length l0) (hc0 : l0.length ≤ c0) (hr1 : Kd.C k35 w A1 l1.length l1) (hc1 : l1.length ≤ c1) (h : laws_equalGroup.f k l0 l1 = some r) :
  Calls Try.prog 11 #[.slice A0 l0.length c0,.slice A1 l1.length c1] w fun e w'=>e = .returned (.bool r) ∧ Drawn0 w w':=by
 have hu35:=Try.underlying35
 have HR0:=a0_ hr0
 have HC0:=a0_ hc0
 clear hr0 hc0
 have HR1:=a0_ hr1
 have HC1:=a0_ hc1
 clear hr1 hc1
 have H : (if (l0.length : Int) = (l1.length : Int) then (laws_equalGroup.l0 k l0 l1 0) else (some false)) = some r:=h
 clear h
 by_cases c3 : (l0.length : Int) = (l1.length : Int)
 ·rw [if_pos c3] at H
  have c3b0 : ((l0.length : Int) == (l1.length : Int)) = true:=beq_iff_eq.mpr c3
  have c3b1 : ((l0.length : Int) != (l1.length : Int)) = false:=bne_eq_false_iff_eq.mpr c3
  have c3b2 : (l0.length == l1.length) = true:=by first | simpa using c3 | (simp at c3 ⊢;omega)
  clear c3
  have H':=a0_ H
  clear H
  go_enter Try.func11,Try.ntmps11
  go_wp2
  repeat (go_quiet (fail);try go_wp2)
  go_loopg [5] k (fun kq v5 w'=>∃ (x5_1 : Int),v5 = .int .i64 x5_1 ∧ Aside0 (laws_equalGroup.l0 kq l0 l1 x5_1 = some r) ∧ Aside0 (kq ≤ k) ∧ Drawn0 w w')
  case atStart=>exact ⟨(0),(by first | rfl | (simp;done) | (simp [*];done)),H',⟨Nat.le_refl _⟩,by repeat (first | exact Drawn0.refl _ | apply Drawn0.step)⟩
  case round =>
   clear H'
   try clear c1
   try clear p2
   try clear c3
   try clear c3b0
   try clear c3b1
   try clear c3b2
   obtain ⟨x5_1,rfl,HA,HK1,⟨m1,rfl⟩⟩:=hrel
   cases gk with
   | zero=>exact absurd HA.out (by simp [laws_equalGroup.l0])
   | succ k1 =>
    have H:=HA.out
    clear HA
    simp only [laws_equalGroup.l0] at H
    by_cases c4 : x5_1 < (l0.length : Int)
    ·rw [if_pos c4] at H
     have c4b0 : decide (x5_1 < (l0.length : Int)) = true:=decide_eq_true c4
     clear c4
     by_cases c5 : 0 ≤ x5_1
     ·rw [if_pos c5] at H
      have c5b0 : decide (0 ≤ x5_1) = true:=decide_eq_true c5
      clear c5
      by_cases c6 : x5_1 < (l1.length : Int)
      ·rw [if_pos c6] at H
       have c6b0 : decide (x5_1 < (l1.length : Int)) = true:=decide_eq_true c6
       clear c6
       by_cases c7 : (!(((rd_T35 l0 x5_1).f0) == ((rd_T35 l1 x5_1).f0)) || (!(((rd_T35 l0 x5_1).f1) == ((rd_T35 l1 x5_1).f1)) || (!(((rd_T35 l0 x5_1).f2) == ((rd_T35 l1 x5_1).f2)) || (!(((rd_T35 l0 x5_1).f3) == ((rd_T35 l1 x5_1).f3)))))) = true
       ·rw [if_pos c7] at H
        have c7b0 : (!(((rd_T35 l0 x5_1).f0) == ((rd_T35 l1 x5_1).f0)) || (!(((rd_T35 l0 x5_1).f1) == ((rd_T35 l1 x5_1).f1)) || (!(((rd_T35 l0 x5_1).f2) == ((rd_T35 l1 x5_1).f2)) || (!(((rd_T35 l0 x5_1).f3) == ((rd_T35 l1 x5_1).f3)))))) = true:=c7
        clear c7
        obtain rfl:=Option.some.inj H
        have p1 : 0 ≤ (x5_1 : Int):=of_decide_eq_true (by first | (with_reducible assumption) | assumption)
        have q1 : x5_1 < (l0.length : Int):=of_decide_eq_true (by first | (with_reducible assumption) | assumption)
        obtain ⟨ad1,e1,hx1_0,hx1_1,hx1_2,hx1_3⟩:=at_T35 HR0.out x5_1 p1 q1
        cases e1
        replace p1:=eq_true p1
        replace q1:=eq_true q1
        have p2 : 0 ≤ (x5_1 : Int):=of_decide_eq_true (by first | (with_reducible assumption) | assumption)
        have q2 : x5_1 < (l1.length : Int):=of_decide_eq_true (by first | (with_reducible assumption) | assumption)
        obtain ⟨ad2,e2,hx2_0,hx2_1,hx2_2,hx2_3⟩:=at_T35 HR1.out x5_1 p2 q2
        cases e2
        replace p2:=eq_true p2
        replace q2:=eq_true q2
        go_wp2
        repeat (go_quiet (fail);try go_wp2)
        go_ret
        exact ⟨by first | rfl | (simp;done) | (simp [*];done),by repeat (first | exact Drawn0.refl _ | apply Drawn0.step)⟩
       ·rw [if_neg c7] at H
        have c7b0 : (!(((rd_T35 l0 x5_1).f0) == ((rd_T35 l1 x5_1).f0)) || (!(((rd_T35 l0 x5_1).f1) == ((rd_T35 l1 x5_1).f1)) || (!(((rd_T35 l0 x5_1).f2) == ((rd_T35 l1 x5_1).f2)) || (!(((rd_T35 l0 x5_1).f3) == ((rd_T35 l1 x5_1).f3)))))) = false:=by simpa using c7
        clear c7
        have H':=a0_ H
        clear H
        have p1 : 0 ≤ (x5_1 : Int):=of_decide_eq_true (by first | (with_reducible assumption) | assumption)
        have q1 : x5_1 < (l0.length : Int):=of_decide_eq_true (by first | (with_reducible assumption) | assumption)
        obtain ⟨ad1,e1,hx1_0,hx1_1,hx1_2,hx1_3⟩:=at_T35 HR0.out x5_1 p1 q1
        cases e1
        replace p1:=eq_true p1
        replace q1:=eq_true q1
        have p2 : 0 ≤ (x5_1 : Int):=of_decide_eq_true (by first | (with_reducible assumption) | assumption)
        have q2 : x5_1 < (l1.length : Int):=of_decide_eq_true (by first | (with_reducible assumption) | assumption)
        obtain ⟨ad2,e2,hx2_0,hx2_1,hx2_2,hx2_3⟩:=at_T35 HR1.out x5_1 p2 q2
        cases e2
        replace p2:=eq_true p2
        replace q2:=eq_true q2
        go_wp2
        repeat (go_quiet (fail);try go_wp2)
        go_roundg k1
        case measure=>have:=HK1.out;omega
        case rel=>exact ⟨(wrap64 (x5_1 + 1)),(by first | rfl | (simp;done) | (simp [*];done)),H',⟨by have:=HK1.out;omega⟩,by repeat (first | exact Drawn0.refl _ | apply Drawn0.step)⟩
      ·rw [if_neg c6] at H
       exact absurd H (by simp)
     ·rw [if_neg c5] at H
      exact absurd H (by simp)
    ·rw [if_neg c4] at H
     have c4b0 : decide (x5_1 < (l0.length : Int)) = false:=decide_eq_false c4
     clear c4
     obtain rfl:=Option.some.inj H
     go_wp2
     repeat (go_quiet (fail);try go_wp2)
     go_ret
     exact ⟨by first | rfl | (simp;done) | (simp [*];done),by repeat (first | exact Drawn0.refl _ | apply Drawn0.step)⟩
 ·rw [if_neg c3] at H
  have c3b0 : ((l0.length : Int) == (l1.length : Int)) = false:=beq_eq_false_iff_ne.mpr c3
  have c3b1 : ((l0.length : Int) != (l1.length : Int)) = true:=bne_iff_ne.mpr c3
  have c3b2 : (l0.length == l1.length) = false:=by first | simpa using c3 | (simp at c3 ⊢;omega)
  obtain rfl:=Option.some.inj H
  go_enter Try.func11,Try.ntmps11
  go_wp2
  repeat (go_quiet (fail);try go_wp2)
  go_ret
  exact ⟨by first | rfl | (simp;done) | (simp [*];done),by repeat (first | exact Drawn0.refl _ | apply Drawn0.step)⟩
theorem laws_equalGroup_ev (l : List Prt) (hl : l.length ≤ 9223372036854775806) : Ev (fun k=>laws_equalGroup.f k l l) true:=by
 have key : ∀ d j,j + d = l.length → Ev (fun k=>laws_equalGroup.l0 k l l (j : Int)) true:=by
  intro d
  induction d with
  | zero =>
   intro j hj
   refine Ev.succ ?_
   simp only [laws_equalGroup.l0]
   exact Ev.neg (by omega) (Ev.const rfl)
  | succ d ih =>
   intro j hj
   refine Ev.succ ?_
   simp only [laws_equalGroup.l0]
   refine Ev.pos (by omega) (Ev.pos (by omega) (Ev.pos (by omega) (Ev.neg (by simp) ?_)))
   rw [wrap_succ (i:=(j : Int)) (n:=l.length) (by omega) (by omega) (by omega)]
   exact ih (j + 1) (by omega)
 exact Ev.pos rfl (key l.length 0 (by omega))
end Go.Proofs.Ytjdpaholpfpiiaa.P
namespace Go.Proofs.Ytjdpaholpfpiiaa.P
open Go.RowKit Go.Proofs.YtjdpaholpfpiiaaW.PrintWords Go.Proofs.YtjdpaholpfpiiaaW.PrintLast Go.Proofs.YtjdpaholpfpiiaaW.PrintMore
attribute [local go_sem] max2_int min2_int max_two min_two max_three min_three max_four min_four
set_option linter.unusedVariables false
set_option linter.unusedSimpArgs false
def laws_equalGroups.l0 : Nat → List (List (S35)) → List (List (S35)) → Int → Option (Bool)
 | 0,_,_,_=>none
 | k + 1,x0,x1,x5=>if x5 < (x0.length : Int) then (if 0 ≤ x5 then (if x5 < (x1.length : Int) then ((laws_equalGroup.f k (rd_L8 x0 x5) (rd_L8 x1 x5)).bind fun t3=>(if t3 = true then (laws_equalGroups.l0 k x0 x1 (wrap64 (x5 + 1))) else (some false))) else (none)) else (none)) else (some true)
def laws_equalGroups.f (k : Nat) (l0 : List (List (S35))) (l1 : List (List (S35))) : Option (Bool):=if (l0.length : Int) = (l1.length : Int) then (laws_equalGroups.l0 k l0 l1 0) else (some false)
theorem laws_equalGroups.mono_l : ∀ k,(∀ y0 y1 y2,LeO (laws_equalGroups.l0 k y0 y1 y2) (laws_equalGroups.l0 (k + 1) y0 y1 y2))
 | 0=>fun _ _ _ r h=>by simp [laws_equalGroups.l0] at h
 | k + 1=>by
  have ih0:=laws_equalGroups.mono_l k
  ·intro y0 y1 y2
   unfold laws_equalGroups.l0
   repeat' first
   | (with_reducible exact ih0 _ _ _)
   | (with_reducible exact laws_equalGroup.mono _ _ _)
   | (with_reducible exact LeO.refl _)
   | (with_reducible exact LeO.none _)
   | (with_reducible refine LeO.ite ?_ ?_)
   | (with_reducible refine LeO.bind ?_ (fun _=>?_))
   | exact ih0 _ _ _
   | exact laws_equalGroup.mono _ _ _
   | exact LeO.none _
   | refine LeO.ite ?_ ?_
   | refine LeO.bind ?_ (fun _=>?_)
theorem laws_equalGroups.mono : ∀ a0 a1 k,LeO (laws_equalGroups.f k a0 a1) (laws_equalGroups.f (k + 1) a0 a1):=by
 intro a0 a1 k
 have ih0:=laws_equalGroups.mono_l k
 unfold laws_equalGroups.f
 repeat' first
   | (with_reducible exact ih0 _ _ _)
   | (with_reducible exact laws_equalGroup.mono _ _ _)
   | (with_reducible exact LeO.refl _)
   | (with_reducible exact LeO.none _)
   | (with_reducible refine LeO.ite ?_ ?_)
   | (with_reducible refine LeO.bind ?_ (fun _=>?_))
   | exact ih0 _ _ _
   | exact laws_equalGroup.mono _ _ _
   | exact LeO.none _
   | refine LeO.ite ?_ ?_
   | refine LeO.bind ?_ (fun _=>?_)
set_option maxHeartbeats 8000000 in
set_option maxRecDepth 100000 in
theorem laws_equalGroups.calls (k : Nat) (A0 : Option Addr) (c0 : Nat) (l0 : List (List (S35))) (A1 : Option Addr) (c1 : Nat) (l1 : List (List (S35))) (r : Bool) (w : World) (hr0 : Kd.C (Kd.slice 35 k35) w A0 l0.length l0) (hc0 : l0.length ≤ c0) (hr1 : Kd.C (Kd.slice 35 k35) w A1 l1.length l1) (hc1 : l1.length ≤ c1) (h : laws_equalGroups.f k l0 l1 = some r) :
  Calls Try.prog 8 #[.slice A0 l0.length c0,.slice A1 l1.length c1] w fun e w'=>e = .returned (.bool r) ∧ Drawn0 w w':=by
 have HR0:=a0_ hr0
 have HC0:=a0_ hc0
 clear hr0 hc0
 have HR1:=a0_ hr1
 have HC1:=a0_ hc1
 clear hr1 hc1
 have H : (if (l0.length : Int) = (l1.length : Int) then (laws_equalGroups.l0 k l0 l1 0) else (some false)) = some r:=h
 clear h
 by_cases c3 : (l0.length : Int) = (l1.length : Int)
 ·rw [if_pos c3] at H
  have c3b0 : ((l0.length : Int) == (l1.length : Int)) = true:=beq_iff_eq.mpr c3
  have c3b1 : ((l0.length : Int) != (l1.length : Int)) = false:=bne_eq_false_iff_eq.mpr c3
  have c3b2 : (l0.length == l1.length) = true:=by first | simpa using c3 | (simp at c3 ⊢;omega)
  clear c3
  have H':=a0_ H
  clear H
  go_enter Try.func8,Try.ntmps8
  go_wp2
  repeat (go_quiet (fail);try go_wp2)
  go_loopg [5] k (fun kq v5 w'=>∃ (x5_1 : Int),v5 = .int .i64 x5_1 ∧ Aside0 (laws_equalGroups.l0 kq l0 l1 x5_1 = some r) ∧ Aside0 (kq ≤ k) ∧ Drawn0 w w')
  case atStart=>exact ⟨(0),(by first | rfl | (simp;done) | (simp [*];done)),H',⟨Nat.le_refl _⟩,by repeat (first | exact Drawn0.refl _ | apply Drawn0.step)⟩
  case round =>
   clear H'
   try clear c1
   try clear p2
   try clear c3
   try clear c3b0
   try clear c3b1
   try clear c3b2
   obtain ⟨x5_1,rfl,HA,HK1,⟨m1,rfl⟩⟩:=hrel
   cases gk with
   | zero=>exact absurd HA.out (by simp [laws_equalGroups.l0])
   | succ k1 =>
    have H:=HA.out
    clear HA
    simp only [laws_equalGroups.l0] at H
    by_cases c4 : x5_1 < (l0.length : Int)
    ·rw [if_pos c4] at H
     have c4b0 : decide (x5_1 < (l0.length : Int)) = true:=decide_eq_true c4
     clear c4
     by_cases c5 : 0 ≤ x5_1
     ·rw [if_pos c5] at H
      have c5b0 : decide (0 ≤ x5_1) = true:=decide_eq_true c5
      clear c5
      by_cases c6 : x5_1 < (l1.length : Int)
      ·rw [if_pos c6] at H
       have c6b0 : decide (x5_1 < (l1.length : Int)) = true:=decide_eq_true c6
       clear c6
       replace H:=Option.bind_eq_some_iff.mp H
       obtain ⟨t3,A70,H⟩:=H
       try dsimp only at H
       have A7:=a0_ A70
       clear A70
       by_cases c8 : t3 = true
       ·subst c8
        have H1 : (laws_equalGroups.l0 k1 l0 l1 (wrap64 (x5_1 + 1))) = some r:=by rw [if_pos rfl] at H;exact H
        clear H
        have H:=H1
        clear H1
        have H':=a0_ H
        clear H
        have p1 : 0 ≤ (x5_1 : Int):=of_decide_eq_true (by first | (with_reducible assumption) | assumption)
        have q1 : x5_1 < (l0.length : Int):=of_decide_eq_true (by first | (with_reducible assumption) | assumption)
        obtain ⟨ad1,A1_0,c1_0,e1,hx1_0,hl1_0,hi1_0⟩:=at_L8 HR0.out x5_1 p1 q1
        cases e1
        have HR1_0:=a0_ hi1_0
        have HC1_0:=a0_ hl1_0
        clear hi1_0 hl1_0
        replace p1:=eq_true p1
        replace q1:=eq_true q1
        have p2 : 0 ≤ (x5_1 : Int):=of_decide_eq_true (by first | (with_reducible assumption) | assumption)
        have q2 : x5_1 < (l1.length : Int):=of_decide_eq_true (by first | (with_reducible assumption) | assumption)
        obtain ⟨ad2,A2_0,c2_0,e2,hx2_0,hl2_0,hi2_0⟩:=at_L8 HR1.out x5_1 p2 q2
        cases e2
        have HR2_0:=a0_ hi2_0
        have HC2_0:=a0_ hl2_0
        clear hi2_0 hl2_0
        replace p2:=eq_true p2
        replace q2:=eq_true q2
        go_wp2_with (first | (go_at_call 11;(with_reducible refine (laws_equalGroup.calls k1 _ _ (rd_L8 l0 x5_1) _ _ (rd_L8 l1 x5_1) true _ ?side1 ?side2 ?side3 ?side4 A7.out).mono ?_);(case side1=>repeat (first | exact HR1_0.out | (with_reducible refine Kd.C_alloc ?_ _) | (with_reducible refine Kd.C_drewN ?_ _) | (with_reducible refine Kd.C_drew ?_)));(case side2=>exact HC1_0.out);(case side3=>repeat (first | exact HR2_0.out | (with_reducible refine Kd.C_alloc ?_ _) | (with_reducible refine Kd.C_drewN ?_ _) | (with_reducible refine Kd.C_drew ?_)));(case side4=>exact HC2_0.out);rintro e w' ⟨rfl,⟨nd,rfl⟩⟩;(try first | exact ⟨rfl,_,World.drewN_drewN _ _ _⟩ | exact ⟨rfl,_,Eq.trans (World.drewN_drewN _ _ _) (congrArg (World.drewN _) (Nat.add_assoc _ _ _))⟩)))
        repeat (go_quiet (first | (go_at_call 11;(with_reducible refine (laws_equalGroup.calls k1 _ _ (rd_L8 l0 x5_1) _ _ (rd_L8 l1 x5_1) true _ ?side1 ?side2 ?side3 ?side4 A7.out).mono ?_);(case side1=>repeat (first | exact HR1_0.out | (with_reducible refine Kd.C_alloc ?_ _) | (with_reducible refine Kd.C_drewN ?_ _) | (with_reducible refine Kd.C_drew ?_)));(case side2=>exact HC1_0.out);(case side3=>repeat (first | exact HR2_0.out | (with_reducible refine Kd.C_alloc ?_ _) | (with_reducible refine Kd.C_drewN ?_ _) | (with_reducible refine Kd.C_drew ?_)));(case side4=>exact HC2_0.out);rintro e w' ⟨rfl,⟨nd,rfl⟩⟩;(try first | exact ⟨rfl,_,World.drewN_drewN _ _ _⟩ | exact ⟨rfl,_,Eq.trans (World.drewN_drewN _ _ _) (congrArg (World.drewN _) (Nat.add_assoc _ _ _))⟩)));try go_wp2_with (first | (go_at_call 11;(with_reducible refine (laws_equalGroup.calls k1 _ _ (rd_L8 l0 x5_1) _ _ (rd_L8 l1 x5_1) true _ ?side1 ?side2 ?side3 ?side4 A7.out).mono ?_);(case side1=>repeat (first | exact HR1_0.out | (with_reducible refine Kd.C_alloc ?_ _) | (with_reducible refine Kd.C_drewN ?_ _) | (with_reducible refine Kd.C_drew ?_)));(case side2=>exact HC1_0.out);(case side3=>repeat (first | exact HR2_0.out | (with_reducible refine Kd.C_alloc ?_ _) | (with_reducible refine Kd.C_drewN ?_ _) | (with_reducible refine Kd.C_drew ?_)));(case side4=>exact HC2_0.out);rintro e w' ⟨rfl,⟨nd,rfl⟩⟩;(try first | exact ⟨rfl,_,World.drewN_drewN _ _ _⟩ | exact ⟨rfl,_,Eq.trans (World.drewN_drewN _ _ _) (congrArg (World.drewN _) (Nat.add_assoc _ _ _))⟩))))
        go_roundg k1
        case measure=>have:=HK1.out;omega
        case rel=>exact ⟨(wrap64 (x5_1 + 1)),(by first | rfl | (simp;done) | (simp [*];done)),H',⟨by have:=HK1.out;omega⟩,by repeat (first | exact Drawn0.refl _ | apply Drawn0.step)⟩
       ·replace c8:=Bool.eq_false_iff.mpr c8
        subst c8
        have H1 : (some false) = some r:=by rw [if_neg (show ¬ (false = true) by decide)] at H;exact H
        clear H
        have H:=H1
        clear H1
        obtain rfl:=Option.some.inj H
        have p1 : 0 ≤ (x5_1 : Int):=of_decide_eq_true (by first | (with_reducible assumption) | assumption)
        have q1 : x5_1 < (l0.length : Int):=of_decide_eq_true (by first | (with_reducible assumption) | assumption)
        obtain ⟨ad1,A1_0,c1_0,e1,hx1_0,hl1_0,hi1_0⟩:=at_L8 HR0.out x5_1 p1 q1
        cases e1
        have HR1_0:=a0_ hi1_0
        have HC1_0:=a0_ hl1_0
        clear hi1_0 hl1_0
        replace p1:=eq_true p1
        replace q1:=eq_true q1
        have p2 : 0 ≤ (x5_1 : Int):=of_decide_eq_true (by first | (with_reducible assumption) | assumption)
        have q2 : x5_1 < (l1.length : Int):=of_decide_eq_true (by first | (with_reducible assumption) | assumption)
        obtain ⟨ad2,A2_0,c2_0,e2,hx2_0,hl2_0,hi2_0⟩:=at_L8 HR1.out x5_1 p2 q2
        cases e2
        have HR2_0:=a0_ hi2_0
        have HC2_0:=a0_ hl2_0
        clear hi2_0 hl2_0
        replace p2:=eq_true p2
        replace q2:=eq_true q2
        go_wp2_with (first | (go_at_call 11;(with_reducible refine (laws_equalGroup.calls k1 _ _ (rd_L8 l0 x5_1) _ _ (rd_L8 l1 x5_1) false _ ?side1 ?side2 ?side3 ?side4 A7.out).mono ?_);(case side1=>repeat (first | exact HR1_0.out | (with_reducible refine Kd.C_alloc ?_ _) | (with_reducible refine Kd.C_drewN ?_ _) | (with_reducible refine Kd.C_drew ?_)));(case side2=>exact HC1_0.out);(case side3=>repeat (first | exact HR2_0.out | (with_reducible refine Kd.C_alloc ?_ _) | (with_reducible refine Kd.C_drewN ?_ _) | (with_reducible refine Kd.C_drew ?_)));(case side4=>exact HC2_0.out);rintro e w' ⟨rfl,⟨nd,rfl⟩⟩;(try first | exact ⟨rfl,_,World.drewN_drewN _ _ _⟩ | exact ⟨rfl,_,Eq.trans (World.drewN_drewN _ _ _) (congrArg (World.drewN _) (Nat.add_assoc _ _ _))⟩)))
        repeat (go_quiet (first | (go_at_call 11;(with_reducible refine (laws_equalGroup.calls k1 _ _ (rd_L8 l0 x5_1) _ _ (rd_L8 l1 x5_1) false _ ?side1 ?side2 ?side3 ?side4 A7.out).mono ?_);(case side1=>repeat (first | exact HR1_0.out | (with_reducible refine Kd.C_alloc ?_ _) | (with_reducible refine Kd.C_drewN ?_ _) | (with_reducible refine Kd.C_drew ?_)));(case side2=>exact HC1_0.out);(case side3=>repeat (first | exact HR2_0.out | (with_reducible refine Kd.C_alloc ?_ _) | (with_reducible refine Kd.C_drewN ?_ _) | (with_reducible refine Kd.C_drew ?_)));(case side4=>exact HC2_0.out);rintro e w' ⟨rfl,⟨nd,rfl⟩⟩;(try first | exact ⟨rfl,_,World.drewN_drewN _ _ _⟩ | exact ⟨rfl,_,Eq.trans (World.drewN_drewN _ _ _) (congrArg (World.drewN _) (Nat.add_assoc _ _ _))⟩)));try go_wp2_with (first | (go_at_call 11;(with_reducible refine (laws_equalGroup.calls k1 _ _ (rd_L8 l0 x5_1) _ _ (rd_L8 l1 x5_1) false _ ?side1 ?side2 ?side3 ?side4 A7.out).mono ?_);(case side1=>repeat (first | exact HR1_0.out | (with_reducible refine Kd.C_alloc ?_ _) | (with_reducible refine Kd.C_drewN ?_ _) | (with_reducible refine Kd.C_drew ?_)));(case side2=>exact HC1_0.out);(case side3=>repeat (first | exact HR2_0.out | (with_reducible refine Kd.C_alloc ?_ _) | (with_reducible refine Kd.C_drewN ?_ _) | (with_reducible refine Kd.C_drew ?_)));(case side4=>exact HC2_0.out);rintro e w' ⟨rfl,⟨nd,rfl⟩⟩;(try first | exact ⟨rfl,_,World.drewN_drewN _ _ _⟩ | exact ⟨rfl,_,Eq.trans (World.drewN_drewN _ _ _) (congrArg (World.drewN _) (Nat.add_assoc _ _ _))⟩))))
        go_ret
        exact ⟨by first | rfl | (simp;done) | (simp [*];done),by repeat (first | exact Drawn0.refl _ | apply Drawn0.step)⟩
      ·rw [if_neg c6] at H
       exact absurd H (by simp)
     ·rw [if_neg c5] at H
      exact absurd H (by simp)
    ·rw [if_neg c4] at H
     have c4b0 : decide (x5_1 < (l0.length : Int)) = false:=decide_eq_false c4
     clear c4
     obtain rfl:=Option.some.inj H
     go_wp2
     repeat (go_quiet (fail);try go_wp2)
     go_ret
     exact ⟨by first | rfl | (simp;done) | (simp [*];done),by repeat (first | exact Drawn0.refl _ | apply Drawn0.step)⟩
 ·rw [if_neg c3] at H
  have c3b0 : ((l0.length : Int) == (l1.length : Int)) = false:=beq_eq_false_iff_ne.mpr c3
  have c3b1 : ((l0.length : Int) != (l1.length : Int)) = true:=bne_iff_ne.mpr c3
  have c3b2 : (l0.length == l1.length) = false:=by first | simpa using c3 | (simp at c3 ⊢;omega)
  obtain rfl:=Option.some.inj H
  go_enter Try.func8,Try.ntmps8
  go_wp2
  repeat (go_quiet (fail);try go_wp2)
  go_ret
  exact ⟨by first | rfl | (simp;done) | (simp [*];done),by repeat (first | exact Drawn0.refl _ | apply Drawn0.step)⟩
theorem laws_equalGroups_ev (l : List (List Prt)) (hl : l.length ≤ 9223372036854775806) (hx : ∀ x ∈ l,x.length ≤ 9223372036854775806) : Ev (fun k=>laws_equalGroups.f k l l) true:=by
 have key : ∀ d j,j + d = l.length → Ev (fun k=>laws_equalGroups.l0 k l l (j : Int)) true:=by
  intro d
  induction d with
  | zero =>
   intro j hj
   refine Ev.succ ?_
   simp only [laws_equalGroups.l0]
   exact Ev.neg (by omega) (Ev.const rfl)
  | succ d ih =>
   intro j hj
   refine Ev.succ ?_
   have hlt : j < l.length:=by omega
   have hm : l.getD ((j : Int)).toNat [] ∈ l:=by
    rw [Int.toNat_natCast,List.getD_eq_getElem?_getD,List.getElem?_eq_getElem hlt]
    exact List.getElem_mem _
   simp only [laws_equalGroups.l0]
   refine Ev.pos (by omega) (Ev.pos (by omega) (Ev.pos (by omega) (Ev.bind (laws_equalGroup_ev _ (hx _ hm)) (Ev.pos rfl ?_))))
   rw [wrap_succ (i:=(j : Int)) (n:=l.length) (by omega) (by omega) (by omega)]
   exact ih (j + 1) (by omega)
 exact Ev.pos rfl (key l.length 0 (by omega))
end Go.Proofs.Ytjdpaholpfpiiaa.P
namespace Go.Proofs.Ytjdpaholpfpiiaa.P
open Go.RowKit Go.Proofs.YtjdpaholpfpiiaaW.PrintWords Go.Proofs.YtjdpaholpfpiiaaW.PrintLast Go.Proofs.YtjdpaholpfpiiaaW.PrintMore
attribute [local go_sem] max2_int min2_int max_two min_two max_three min_three max_four min_four
set_option linter.unusedVariables false
set_option linter.unusedSimpArgs false
def spec_inRange.f (a0 : Int) (a1 : Int) (a2 : Int) : Option (Bool):=if a1 ≤ a0 then (some (decide (a0 ≤ a2))) else (some false)
set_option maxHeartbeats 8000000 in
set_option maxRecDepth 100000 in
theorem spec_inRange.calls (a0 : Int) (a1 : Int) (a2 : Int) (r : Bool) (w : World) (h : spec_inRange.f a0 a1 a2 = some r) :
  Calls Try.prog 41 #[.int .i64 a0,.int .i64 a1,.int .i64 a2] w fun e w'=>e = .returned (.bool r) ∧ Drawn0 w w':=by
 have H : (if a1 ≤ a0 then (some (decide (a0 ≤ a2))) else (some false)) = some r:=h
 clear h
 by_cases c4 : a1 ≤ a0
 ·rw [if_pos c4] at H
  have c4b0 : decide (a1 ≤ a0) = true:=decide_eq_true c4
  clear c4
  obtain rfl:=Option.some.inj H
  go_enter Try.func41,Try.ntmps41
  go_wp2
  go_ret
  exact ⟨by first | rfl | (simp;done) | (simp [*];done),by repeat (first | exact Drawn0.refl _ | apply Drawn0.step)⟩
 ·rw [if_neg c4] at H
  have c4b0 : decide (a1 ≤ a0) = false:=decide_eq_false c4
  clear c4
  obtain rfl:=Option.some.inj H
  go_enter Try.func41,Try.ntmps41
  go_wp2
  go_ret
  exact ⟨by first | rfl | (simp;done) | (simp [*];done),by repeat (first | exact Drawn0.refl _ | apply Drawn0.step)⟩
theorem spec_inRange_ev (a b c : Int) : spec_inRange.f a b c = some (decide (b ≤ a) && decide (a ≤ c)):=by
 unfold spec_inRange.f
 by_cases h : b ≤ a
 ·rw [if_pos h];simp [h]
 ·rw [if_neg h];simp [h]
end Go.Proofs.Ytjdpaholpfpiiaa.P
namespace Go.Proofs.Ytjdpaholpfpiiaa.P
open Go.RowKit Go.Proofs.YtjdpaholpfpiiaaW.PrintWords Go.Proofs.YtjdpaholpfpiiaaW.PrintLast Go.Proofs.YtjdpaholpfpiiaaW.PrintMore
attribute [local go_sem] max2_int min2_int max_two min_two max_three min_three max_four min_four
set_option linter.unusedVariables false
set_option linter.unusedSimpArgs false
def spec_hasClass.f (l0_0 : List (S70)) (a1 : Int) : Option (Bool):=(spec_inRange.f a1 0 (wrap64 ((l0_0.length : Int) - 1))).bind fun t2=>(some t2)
set_option maxHeartbeats 8000000 in
set_option maxRecDepth 100000 in
theorem spec_hasClass.calls (A0_0 : Option Addr) (c0_0 : Nat) (l0_0 : List (S70)) (a1 : Int) (r : Bool) (w : World) (hr0_0 : Kd.C k70 w A0_0 l0_0.length l0_0) (hc0_0 : l0_0.length ≤ c0_0) (h : spec_hasClass.f l0_0 a1 = some r) :
  Calls Try.prog 42 #[.agg #[.slice A0_0 l0_0.length c0_0],.int .i64 a1] w fun e w'=>e = .returned (.bool r) ∧ Below w.heap.size w w':=by
 have hu25:=Try.underlying25
 have HR0_0:=a0_ hr0_0
 have HC0_0:=a0_ hc0_0
 clear hr0_0 hc0_0
 have HB:=a0_ (Below.refl w.heap.size w)
 have H : ((spec_inRange.f a1 0 (wrap64 ((l0_0.length : Int) - 1))).bind fun t2=>(some t2)) = some r:=h
 clear h
 replace H:=Option.bind_eq_some_iff.mp H
 obtain ⟨t2,A30,H⟩:=H
 replace H : (some t2) = some r:=H
 have A3:=a0_ A30
 clear A30
 obtain rfl:=Option.some.inj H
 go_enter Try.func42,Try.ntmps42
 go_wp2_with (first | ((with_reducible refine gate_dst (N:=2) rfl ?_);refine box_event ?hg (N:=2) ?hd (cs:=#[.slice A0_0 l0_0.length c0_0]) (t:=25) ?hr ?_;(case hd=>rfl);(case hg=>rfl);(case hr=>first | (go_simp;done) | (go_simp;rfl));intro gb1 hg w4 hbox hb;have BK1:=a0_ (hbox);have GW1:=a0_ ((by rw [hg];exact (below_size hb_) : w.heap.size ≤ gb1));have GE1:=a0_ ((by rw [hg];exact (below_size hb_) : w.heap.size ≤ gb1));replace HB:=a0_ (below_step hb_ hb);clear hb hbox hg;have hcz5_0 : w4.cell? ⟨gb1,0,none⟩ = some (.slice A0_0 l0_0.length c0_0):=(blk_cell BK1.out 0).trans rfl;have hfz5_0:=blk_frozen BK1.out 0) | ((with_reducible refine gate_callee (f:=41) rfl ?_);refine goesL_ (some 10) rfl rfl Try.func41 (by kernel_rfl) rfl #[.int .i64 a1,.int .i64 0,.int .i64 (wrap64 ((l0_0.length : Int) - 1))] rfl lm_ ?_;(with_reducible refine (spec_inRange.calls a1 0 (wrap64 ((l0_0.length : Int) - 1)) t2 _ A3.out).mono ?_);rintro e w' ⟨rfl,⟨nd,rfl⟩⟩;refine ⟨_,rfl,?_⟩))
 go_ret
 exact ⟨by first | rfl | (simp [errW_none,errW_some] <;> rfl) | (simp [*,errW_none,errW_some] <;> rfl),hb_⟩
theorem spec_hasClass_ev (t : List Cls) (a : Int) (hl : t.length ≤ 9223372036854775807) : spec_hasClass.f t a = some (hasC t a):=by
 unfold spec_hasClass.f spec_inRange.f hasC
 rw [wrap_pred (by omega) (by omega)]
 by_cases h0 : 0 ≤ a
 ·rw [if_pos h0]
  simp only [Option.bind_some,Option.some.injEq,decide_eq_true h0,Bool.true_and]
  by_cases h1 : a < (t.length : Int)
  ·rw [decide_eq_true h1,decide_eq_true (by omega)]
  ·rw [decide_eq_false h1,decide_eq_false (by omega)]
 ·rw [if_neg h0]
  simp [decide_eq_false h0]
end Go.Proofs.Ytjdpaholpfpiiaa.P
namespace Go.Proofs.Ytjdpaholpfpiiaa.P
open Go.RowKit Go.Proofs.YtjdpaholpfpiiaaW.PrintWords Go.Proofs.YtjdpaholpfpiiaaW.PrintLast Go.Proofs.YtjdpaholpfpiiaaW.PrintMore
attribute [local go_sem] max2_int min2_int max_two min_two max_three min_three max_four min_four
set_option linter.unusedVariables false
set_option linter.unusedSimpArgs false
def spec_endOf.l0 : Nat → List (S35) → Int → Int → Option (Int)
 | 0,_,_,_=>none
 | k + 1,x0,x1,x5=>if x5 < (x0.length : Int) then (if 0 ≤ x5 then (if 0 ≤ x1 then (if x1 < (x0.length : Int) then (if ((rd_T35 x0 x5).f0) > ((rd_T35 x0 x1).f0) then (spec_endOf.l0 k x0 x1 (wrap64 (x5 + 1))) else (some x5)) else (none)) else (none)) else (none)) else (some x5)
def spec_endOf.f (k : Nat) (l0 : List (S35)) (a1 : Int) : Option (Int):=spec_endOf.l0 k l0 a1 (wrap64 (a1 + 1))
theorem spec_endOf.mono_l : ∀ k,(∀ y0 y1 y2,LeO (spec_endOf.l0 k y0 y1 y2) (spec_endOf.l0 (k + 1) y0 y1 y2))
 | 0=>fun _ _ _ r h=>by simp [spec_endOf.l0] at h
 | k + 1=>by
  have ih0:=spec_endOf.mono_l k
  ·intro y0 y1 y2
   unfold spec_endOf.l0
   repeat' first
   | (with_reducible exact ih0 _ _ _)
   | (with_reducible exact LeO.refl _)
   | (with_reducible exact LeO.none _)
   | (with_reducible refine LeO.ite ?_ ?_)
   | (with_reducible refine LeO.bind ?_ (fun _=>?_))
   | exact ih0 _ _ _
   | exact LeO.none _
   | refine LeO.ite ?_ ?_
   | refine LeO.bind ?_ (fun _=>?_)
theorem spec_endOf.mono : ∀ a0 a1 k,LeO (spec_endOf.f k a0 a1) (spec_endOf.f (k + 1) a0 a1):=by
 intro a0 a1 k
 have ih0:=spec_endOf.mono_l k
 unfold spec_endOf.f
 repeat' first
   | (with_reducible exact ih0 _ _ _)
   | (with_reducible exact LeO.refl _)
   | (with_reducible exact LeO.none _)
   | (with_reducible refine LeO.ite ?_ ?_)
   | (with_reducible refine LeO.bind ?_ (fun _=>?_))
   | exact ih0 _ _ _
   | exact LeO.none _
   | refine LeO.ite ?_ ?_
   | refine LeO.bind ?_ (fun _=>?_)
set_option maxHeartbeats 8000000 in
set_option maxRecDepth 100000 in
theorem spec_endOf.calls (k : Nat) (A0 : Option Addr) (c0 : Nat) (l0 : List (S35)) (a1 : Int) (r : Int) (w : World) (hr0 : Kd.C k35 w A0 l0.length l0) (hc0 : l0.length ≤ c0) (h : spec_endOf.f k l0 a1 = some r) :
  Calls Try.prog 43 #[.slice A0 l0.length c0,.int .i64 a1] w fun e w'=>e = .returned (.int .i64 r) ∧ Drawn0 w w':=by
 have HR0:=a0_ hr0
 have HC0:=a0_ hc0
 clear hr0 hc0
 have H : (spec_endOf.l0 k l0 a1 (wrap64 (a1 + 1))) = some r:=h
 clear h
 have H':=a0_ H
 clear H
 go_enter Try.func43,Try.ntmps43
 go_wp2
 repeat (go_quiet (fail);try go_wp2)
 go_loopg [5] k (fun kq v5 w'=>∃ (x5_1 : Int),v5 = .int .i64 x5_1 ∧ Aside0 (spec_endOf.l0 kq l0 a1 x5_1 = some r) ∧ Aside0 (kq ≤ k) ∧ Drawn0 w w')
 case atStart=>exact ⟨(wrap64 (a1 + 1)),(by first | rfl | (simp;done) | (simp [*];done)),H',⟨Nat.le_refl _⟩,by repeat (first | exact Drawn0.refl _ | apply Drawn0.step)⟩
 case round =>
  clear H'
  try clear p2
  obtain ⟨x5_1,rfl,HA,HK1,⟨m1,rfl⟩⟩:=hrel
  cases gk with
  | zero=>exact absurd HA.out (by simp [spec_endOf.l0])
  | succ k1 =>
   have H:=HA.out
   clear HA
   simp only [spec_endOf.l0] at H
   by_cases c3 : x5_1 < (l0.length : Int)
   ·rw [if_pos c3] at H
    have c3b0 : decide (x5_1 < (l0.length : Int)) = true:=decide_eq_true c3
    clear c3
    by_cases c4 : 0 ≤ x5_1
    ·rw [if_pos c4] at H
     have c4b0 : decide (0 ≤ x5_1) = true:=decide_eq_true c4
     clear c4
     by_cases c5 : 0 ≤ a1
     ·rw [if_pos c5] at H
      have c5b0 : decide (0 ≤ a1) = true:=decide_eq_true c5
      clear c5
      by_cases c6 : a1 < (l0.length : Int)
      ·rw [if_pos c6] at H
       have c6b0 : decide (a1 < (l0.length : Int)) = true:=decide_eq_true c6
       clear c6
       by_cases c7 : ((rd_T35 l0 x5_1).f0) > ((rd_T35 l0 a1).f0)
       ·rw [if_pos c7] at H
        have c7b0 : decide (((rd_T35 l0 a1).f0) < ((rd_T35 l0 x5_1).f0)) = true:=decide_eq_true c7
        clear c7
        have H':=a0_ H
        clear H
        have p1 : 0 ≤ (x5_1 : Int):=of_decide_eq_true (by first | (with_reducible assumption) | assumption)
        have q1 : x5_1 < (l0.length : Int):=of_decide_eq_true (by first | (with_reducible assumption) | assumption)
        obtain ⟨ad1,e1,hx1_0,hx1_1,hx1_2,hx1_3⟩:=at_T35 HR0.out x5_1 p1 q1
        cases e1
        replace p1:=eq_true p1
        replace q1:=eq_true q1
        have p2 : 0 ≤ (a1 : Int):=of_decide_eq_true (by first | (with_reducible assumption) | assumption)
        have q2 : a1 < (l0.length : Int):=of_decide_eq_true (by first | (with_reducible assumption) | assumption)
        obtain ⟨ad2,e2,hx2_0,hx2_1,hx2_2,hx2_3⟩:=at_T35 HR0.out a1 p2 q2
        obtain rfl : ad1 = ad2:=(by injection e2)
        replace p2:=eq_true p2
        replace q2:=eq_true q2
        go_wp2
        repeat (go_quiet (fail);try go_wp2)
        go_roundg k1
        case measure=>have:=HK1.out;omega
        case rel=>exact ⟨(wrap64 (x5_1 + 1)),(by first | rfl | (simp;done) | (simp [*];done)),H',⟨by have:=HK1.out;omega⟩,by repeat (first | exact Drawn0.refl _ | apply Drawn0.step)⟩
       ·rw [if_neg c7] at H
        have c7b0 : decide (((rd_T35 l0 a1).f0) < ((rd_T35 l0 x5_1).f0)) = false:=decide_eq_false c7
        clear c7
        obtain rfl:=Option.some.inj H
        have p1 : 0 ≤ (x5_1 : Int):=of_decide_eq_true (by first | (with_reducible assumption) | assumption)
        have q1 : x5_1 < (l0.length : Int):=of_decide_eq_true (by first | (with_reducible assumption) | assumption)
        obtain ⟨ad1,e1,hx1_0,hx1_1,hx1_2,hx1_3⟩:=at_T35 HR0.out x5_1 p1 q1
        cases e1
        replace p1:=eq_true p1
        replace q1:=eq_true q1
        have p2 : 0 ≤ (a1 : Int):=of_decide_eq_true (by first | (with_reducible assumption) | assumption)
        have q2 : a1 < (l0.length : Int):=of_decide_eq_true (by first | (with_reducible assumption) | assumption)
        obtain ⟨ad2,e2,hx2_0,hx2_1,hx2_2,hx2_3⟩:=at_T35 HR0.out a1 p2 q2
        obtain rfl : ad1 = ad2:=(by injection e2)
        replace p2:=eq_true p2
        replace q2:=eq_true q2
        go_wp2
        repeat (go_quiet (fail);try go_wp2)
        go_ret
        exact ⟨by first | rfl | (simp;done) | (simp [*];done),by repeat (first | exact Drawn0.refl _ | apply Drawn0.step)⟩
      ·rw [if_neg c6] at H
       exact absurd H (by simp)
     ·rw [if_neg c5] at H
      exact absurd H (by simp)
    ·rw [if_neg c4] at H
     exact absurd H (by simp)
   ·rw [if_neg c3] at H
    have c3b0 : decide (x5_1 < (l0.length : Int)) = false:=decide_eq_false c3
    clear c3
    obtain rfl:=Option.some.inj H
    go_wp2
    repeat (go_quiet (fail);try go_wp2)
    go_ret
    exact ⟨by first | rfl | (simp;done) | (simp [*];done),by repeat (first | exact Drawn0.refl _ | apply Drawn0.step)⟩
theorem spec_endOf_ev (g : List Prt) (i : Nat) (hi : i < g.length) (hl : g.length ≤ 9223372036854775807) : Ev (fun k=>spec_endOf.f k g (i : Int)) ((endG g i : Nat) : Int):=by
 have key : ∀ d j,j + d = g.length → Ev (fun k=>spec_endOf.l0 k g (i : Int) (j : Int)) ((j + ((g.drop j).takeWhile (fun p=>decide ((g.getD i z35).f0 < p.f0))).length : Nat) : Int):=by
  intro d
  induction d with
  | zero =>
   intro j hj
   rw [List.drop_eq_nil_of_le (by omega)]
   refine Ev.succ (Ev.congr (F:=fun _=>some ((j : Nat) : Int)) (Ev.const rfl) (fun k=>?_))
   simp only [spec_endOf.l0]
   rw [if_neg (by omega)]
  | succ d ih =>
   intro j hj
   have hlt : j < g.length:=by omega
   have hrd : rd_T35 g (j : Int) = g[j]:=by simp [rd_T35,hlt]
   have hri : rd_T35 g (i : Int) = g.getD i z35:=by simp [rd_T35]
   rw [List.drop_eq_getElem_cons hlt,List.takeWhile_cons]
   refine Ev.succ (Ev.congr (F:=fun k=>if (g.getD i z35).f0 < g[j].f0 then spec_endOf.l0 k g (i : Int) ((j + 1 : Nat) : Int) else some (j : Int)) ?_ (fun k=>?_))
   ·by_cases h : (g.getD i z35).f0 < g[j].f0
    ·refine Ev.pos h ?_
     rw [decide_eq_true h,if_pos rfl,List.length_cons]
     have:=ih (j + 1) (by omega)
     rw [show j + 1 + ((g.drop (j + 1)).takeWhile (fun p=>decide ((g.getD i z35).f0 < p.f0))).length = j + (((g.drop (j + 1)).takeWhile (fun p=>decide ((g.getD i z35).f0 < p.f0))).length + 1) by omega] at this
     exact this
    ·refine Ev.neg h ?_
     rw [decide_eq_false h,if_neg (by simp)]
     exact Ev.const rfl
   ·simp only [spec_endOf.l0]
    rw [if_pos (by omega),if_pos (by omega),if_pos (by omega),if_pos (by omega),hrd,hri,wrap_succ (i:=(j : Int)) (n:=g.length) (by omega) (by omega) (by omega)]
    rfl
 have:=key (g.length - (i + 1)) (i + 1) (by omega)
 refine Ev.congr this (fun k=>?_)
 unfold spec_endOf.f
 rw [wrap_succ (i:=(i : Int)) (n:=g.length) (by omega) (by omega) (by omega)]
 rfl
end Go.Proofs.Ytjdpaholpfpiiaa.P
namespace Go.Proofs.Ytjdpaholpfpiiaa.P
open Go.RowKit Go.Proofs.YtjdpaholpfpiiaaW.PrintWords Go.Proofs.YtjdpaholpfpiiaaW.PrintLast Go.Proofs.YtjdpaholpfpiiaaW.PrintMore
attribute [local go_sem] max2_int min2_int max_two min_two max_three min_three max_four min_four
set_option linter.unusedVariables false
set_option linter.unusedSimpArgs false
def spec_validName.l0 : Nat → ByteArray → Int → Option (Bool)
 | 0,_,_=>none
 | k + 1,x0,x3=>if x3 < (x0.size : Int) then (if 0 ≤ x3 then (if (bt x0 x3) < 97 then (some false) else (if (bt x0 x3) > 122 then (some false) else (spec_validName.l0 k x0 (wrap64 (x3 + 1))))) else (none)) else ((spec_inRange.f (x0.size : Int) 1 6).bind fun t1=>(some t1))
def spec_validName.f (k : Nat) (a0 : ByteArray) : Option (Bool):=spec_validName.l0 k a0 0
theorem spec_validName.mono_l : ∀ k,(∀ y0 y1,LeO (spec_validName.l0 k y0 y1) (spec_validName.l0 (k + 1) y0 y1))
 | 0=>fun _ _ r h=>by simp [spec_validName.l0] at h
 | k + 1=>by
  have ih0:=spec_validName.mono_l k
  ·intro y0 y1
   unfold spec_validName.l0
   repeat' first
   | (with_reducible exact ih0 _ _)
   | (with_reducible exact LeO.refl _)
   | (with_reducible exact LeO.none _)
   | (with_reducible refine LeO.ite ?_ ?_)
   | (with_reducible refine LeO.bind ?_ (fun _=>?_))
   | exact ih0 _ _
   | exact LeO.none _
   | refine LeO.ite ?_ ?_
   | refine LeO.bind ?_ (fun _=>?_)
theorem spec_validName.mono : ∀ a0 k,LeO (spec_validName.f k a0) (spec_validName.f (k + 1) a0):=by
 intro a0 k
 have ih0:=spec_validName.mono_l k
 unfold spec_validName.f
 repeat' first
   | (with_reducible exact ih0 _ _)
   | (with_reducible exact LeO.refl _)
   | (with_reducible exact LeO.none _)
   | (with_reducible refine LeO.ite ?_ ?_)
   | (with_reducible refine LeO.bind ?_ (fun _=>?_))
   | exact ih0 _ _
   | exact LeO.none _
   | refine LeO.ite ?_ ?_
   | refine LeO.bind ?_ (fun _=>?_)
set_option maxHeartbeats 8000000 in
set_option maxRecDepth 100000 in
theorem spec_validName.calls (k : Nat) (a0 : ByteArray) (r : Bool) (w : World) (h : spec_validName.f k a0 = some r) :
  Calls Try.prog 55 #[.string a0] w fun e w'=>e = .returned (.bool r) ∧ Drawn0 w w':=by
 have H : (spec_validName.l0 k a0 0) = some r:=h
 clear h
 have H':=a0_ H
 clear H
 go_enter Try.func55,Try.ntmps55
 go_wp2
 go_loopg [3] k (fun kq v3 w'=>∃ (x3_1 : Int),v3 = .int .i64 x3_1 ∧ Aside0 (spec_validName.l0 kq a0 x3_1 = some r) ∧ Aside0 (kq ≤ k) ∧ Drawn0 w w')
 case atStart=>exact ⟨(0),(by first | rfl | (simp;done) | (simp [*];done)),H',⟨Nat.le_refl _⟩,by repeat (first | exact Drawn0.refl _ | apply Drawn0.step)⟩
 case round =>
  clear H'
  obtain ⟨x3_1,rfl,HA,HK1,⟨m1,rfl⟩⟩:=hrel
  cases gk with
  | zero=>exact absurd HA.out (by simp [spec_validName.l0])
  | succ k1 =>
   have H:=HA.out
   clear HA
   simp only [spec_validName.l0] at H
   by_cases c2 : x3_1 < (a0.size : Int)
   ·rw [if_pos c2] at H
    have c2b0 : decide (x3_1 < (a0.size : Int)) = true:=decide_eq_true c2
    clear c2
    by_cases c3 : 0 ≤ x3_1
    ·rw [if_pos c3] at H
     have c3b0 : decide (0 ≤ x3_1) = true:=decide_eq_true c3
     clear c3
     by_cases c5 : (bt a0 x3_1) < 97
     ·rw [if_pos c5] at H
      have c5b0 : decide ((bt a0 x3_1) < 97) = true:=decide_eq_true c5
      clear c5
      obtain rfl:=Option.some.inj H
      have p4 : 0 ≤ (x3_1 : Int):=of_decide_eq_true (by first | (with_reducible assumption) | assumption)
      have q4 : x3_1 < (a0.size : Int):=of_decide_eq_true (by first | (with_reducible assumption) | assumption)
      have hx4:=bt_at a0 x3_1
      replace p4:=eq_true p4
      replace q4:=eq_true q4
      go_wp2
      go_ret
      exact ⟨by first | rfl | (simp;done) | (simp [*];done),by repeat (first | exact Drawn0.refl _ | apply Drawn0.step)⟩
     ·rw [if_neg c5] at H
      have c5b0 : decide ((bt a0 x3_1) < 97) = false:=decide_eq_false c5
      clear c5
      by_cases c7 : (bt a0 x3_1) > 122
      ·rw [if_pos c7] at H
       have c7b0 : decide (122 < (bt a0 x3_1)) = true:=decide_eq_true c7
       clear c7
       obtain rfl:=Option.some.inj H
       have p4 : 0 ≤ (x3_1 : Int):=of_decide_eq_true (by first | (with_reducible assumption) | assumption)
       have q4 : x3_1 < (a0.size : Int):=of_decide_eq_true (by first | (with_reducible assumption) | assumption)
       have hx4:=bt_at a0 x3_1
       replace p4:=eq_true p4
       replace q4:=eq_true q4
       have p6 : 0 ≤ (x3_1 : Int):=of_decide_eq_true (by first | (with_reducible assumption) | assumption)
       have q6 : x3_1 < (a0.size : Int):=of_decide_eq_true (by first | (with_reducible assumption) | assumption)
       have hx6:=bt_at a0 x3_1
       replace p6:=eq_true p6
       replace q6:=eq_true q6
       go_wp2
       go_ret
       exact ⟨by first | rfl | (simp;done) | (simp [*];done),by repeat (first | exact Drawn0.refl _ | apply Drawn0.step)⟩
      ·rw [if_neg c7] at H
       have c7b0 : decide (122 < (bt a0 x3_1)) = false:=decide_eq_false c7
       clear c7
       have H':=a0_ H
       clear H
       have p4 : 0 ≤ (x3_1 : Int):=of_decide_eq_true (by first | (with_reducible assumption) | assumption)
       have q4 : x3_1 < (a0.size : Int):=of_decide_eq_true (by first | (with_reducible assumption) | assumption)
       have hx4:=bt_at a0 x3_1
       replace p4:=eq_true p4
       replace q4:=eq_true q4
       have p6 : 0 ≤ (x3_1 : Int):=of_decide_eq_true (by first | (with_reducible assumption) | assumption)
       have q6 : x3_1 < (a0.size : Int):=of_decide_eq_true (by first | (with_reducible assumption) | assumption)
       have hx6:=bt_at a0 x3_1
       replace p6:=eq_true p6
       replace q6:=eq_true q6
       go_wp2
       go_roundg k1
       case measure=>have:=HK1.out;omega
       case rel=>exact ⟨(wrap64 (x3_1 + 1)),(by first | rfl | (simp;done) | (simp [*];done)),H',⟨by have:=HK1.out;omega⟩,by repeat (first | exact Drawn0.refl _ | apply Drawn0.step)⟩
    ·rw [if_neg c3] at H
     exact absurd H (by simp)
   ·rw [if_neg c2] at H
    have c2b0 : decide (x3_1 < (a0.size : Int)) = false:=decide_eq_false c2
    clear c2
    replace H:=Option.bind_eq_some_iff.mp H
    obtain ⟨t1,A80,H⟩:=H
    replace H : (some t1) = some r:=H
    have A8:=a0_ A80
    clear A80
    obtain rfl:=Option.some.inj H
    go_wp2_with (first | ((with_reducible refine gate_callee (f:=41) rfl ?_);refine goesL_ (some 22) rfl rfl Try.func41 (by kernel_rfl) rfl #[.int .i64 (a0.size : Int),.int .i64 1,.int .i64 6] rfl lm_ ?_;(with_reducible refine (spec_inRange.calls (a0.size : Int) 1 6 t1 _ A8.out).mono ?_);rintro e w' ⟨rfl,⟨nd,rfl⟩⟩;refine ⟨_,rfl,?_⟩))
    go_ret
    exact ⟨by first | rfl | (simp;done) | (simp [*];done),by repeat (first | exact Drawn0.refl _ | apply Drawn0.step)⟩
theorem spec_validName_l0 (s : ByteArray) (hs : s.size ≤ 9223372036854775807) (d : Nat) : ∀ (k : Nat) (i : Nat),i ≤ s.size → s.size - i = d → d < k → spec_validName.l0 k s (i : Int) = some ((s.data.toList.drop i).all (fun c=>decide (97 ≤ c.toNat) && decide (c.toNat ≤ 122)) && (decide (1 ≤ s.size) && decide (s.size ≤ 6))):=by
 induction d with
 | zero =>
  intro k i hi hd hk
  obtain ⟨k,rfl⟩ : ∃ m,k = m + 1:=⟨k - 1,by omega⟩
  simp only [spec_validName.l0]
  rw [if_neg (by omega)]
  have : s.data.toList.drop i = []:=by
   apply List.drop_eq_nil_of_le
   have : s.data.toList.length = s.size:=toL_len s
   omega
  rw [this]
  simp only [spec_inRange.f,List.all_nil,Bool.true_and]
  by_cases h1 : 1 ≤ s.size
  ·rw [if_pos (show (s.size : Int) ≥ 1 by omega)]
   by_cases h2 : s.size ≤ 6
   ·simp [h1,h2];omega
   ·simp [h2];omega
  ·rw [if_neg (show ¬ (1 : Int) ≤ s.size by omega)];simp [h1]
 | succ d ih =>
  intro k i hi hd hk
  obtain ⟨k,rfl⟩ : ∃ m,k = m + 1:=⟨k - 1,by omega⟩
  have hlt : i < s.size:=by omega
  have hl : s.data.toList.length = s.size:=toL_len s
  simp only [spec_validName.l0]
  rw [if_pos (show (i : Int) < (s.size : Int) by omega),if_pos (show (0 : Int) ≤ (i : Int) by omega),bt_getElem s i hlt]
  have hd2 : s.data.toList.drop i = s[i] :: s.data.toList.drop (i + 1):=by
   rw [List.drop_eq_getElem_cons (by omega)]
   congr 1
  rw [hd2,List.all_cons]
  by_cases h1 : (s[i].toNat : Int) < 97
  ·rw [if_pos h1];have : ¬ 97 ≤ s[i].toNat:=by omega
   simp [this]
  ·rw [if_neg h1]
   by_cases h2 : (s[i].toNat : Int) > 122
   ·rw [if_pos h2];have : ¬ s[i].toNat ≤ 122:=by omega
    simp [this]
   ·rw [if_neg h2,wrap_succ (n:=s.size) (by omega) (by omega) (by omega)]
    have:=ih k (i + 1) (by omega) (by omega) (by omega)
    rw [show ((i : Int) + 1) = ((i + 1 : Nat) : Int) by omega,this]
    have a : 97 ≤ s[i].toNat:=by omega
    have b : s[i].toNat ≤ 122:=by omega
    simp [a,b]
theorem spec_validName_ev (s : ByteArray) (hs : s.size ≤ 9223372036854775807) : spec_validName.f (s.size + 1) s = some (okName s):=by
 unfold spec_validName.f okName
 have:=spec_validName_l0 s hs s.size (s.size + 1) 0 (by omega) (by omega) (by omega)
 simpa using this
end Go.Proofs.Ytjdpaholpfpiiaa.P
namespace Go.Proofs.Ytjdpaholpfpiiaa.P
open Go.RowKit Go.Proofs.YtjdpaholpfpiiaaW.PrintWords Go.Proofs.YtjdpaholpfpiiaaW.PrintLast Go.Proofs.YtjdpaholpfpiiaaW.PrintMore
attribute [local go_sem] max2_int min2_int max_two min_two max_three min_three max_four min_four
set_option linter.unusedVariables false
set_option linter.unusedSimpArgs false
def spec_classNamed.l0 : Nat → List (S70) → ByteArray → Int → Option (Int)
 | 0,_,_,_=>none
 | k + 1,x0,x1,x5=>if x5 < (x0.length : Int) then (if 0 ≤ x5 then (if ((rd_T70 x0 x5).f0).toList = x1.toList then (some x5) else (spec_classNamed.l0 k x0 x1 (wrap64 (x5 + 1)))) else (none)) else (some (-1))
def spec_classNamed.f (k : Nat) (l0 : List (S70)) (a1 : ByteArray) : Option (Int):=spec_classNamed.l0 k l0 a1 0
theorem spec_classNamed.mono_l : ∀ k,(∀ y0 y1 y2,LeO (spec_classNamed.l0 k y0 y1 y2) (spec_classNamed.l0 (k + 1) y0 y1 y2))
 | 0=>fun _ _ _ r h=>by simp [spec_classNamed.l0] at h
 | k + 1=>by
  have ih0:=spec_classNamed.mono_l k
  ·intro y0 y1 y2
   unfold spec_classNamed.l0
   repeat' first
   | (with_reducible exact ih0 _ _ _)
   | (with_reducible exact LeO.refl _)
   | (with_reducible exact LeO.none _)
   | (with_reducible refine LeO.ite ?_ ?_)
   | (with_reducible refine LeO.bind ?_ (fun _=>?_))
   | exact ih0 _ _ _
   | exact LeO.none _
   | refine LeO.ite ?_ ?_
   | refine LeO.bind ?_ (fun _=>?_)
theorem spec_classNamed.mono : ∀ a0 a1 k,LeO (spec_classNamed.f k a0 a1) (spec_classNamed.f (k + 1) a0 a1):=by
 intro a0 a1 k
 have ih0:=spec_classNamed.mono_l k
 unfold spec_classNamed.f
 repeat' first
   | (with_reducible exact ih0 _ _ _)
   | (with_reducible exact LeO.refl _)
   | (with_reducible exact LeO.none _)
   | (with_reducible refine LeO.ite ?_ ?_)
   | (with_reducible refine LeO.bind ?_ (fun _=>?_))
   | exact ih0 _ _ _
   | exact LeO.none _
   | refine LeO.ite ?_ ?_
   | refine LeO.bind ?_ (fun _=>?_)
set_option maxHeartbeats 8000000 in
set_option maxRecDepth 100000 in
theorem spec_classNamed.calls (k : Nat) (A0 : Option Addr) (c0 : Nat) (l0 : List (S70)) (a1 : ByteArray) (r : Int) (w : World) (hr0 : Kd.C k70 w A0 l0.length l0) (hc0 : l0.length ≤ c0) (h : spec_classNamed.f k l0 a1 = some r) :
  Calls Try.prog 56 #[.slice A0 l0.length c0,.string a1] w fun e w'=>e = .returned (.int .i64 r) ∧ Drawn0 w w':=by
 have HR0:=a0_ hr0
 have HC0:=a0_ hc0
 clear hr0 hc0
 have H : (spec_classNamed.l0 k l0 a1 0) = some r:=h
 clear h
 have H':=a0_ H
 clear H
 go_enter Try.func56,Try.ntmps56
 go_wp2
 go_loopg [5] k (fun kq v5 w'=>∃ (x5_1 : Int),v5 = .int .i64 x5_1 ∧ Aside0 (spec_classNamed.l0 kq l0 a1 x5_1 = some r) ∧ Aside0 (kq ≤ k) ∧ Drawn0 w w')
 case atStart=>exact ⟨(0),(by first | rfl | (simp;done) | (simp [*];done)),H',⟨Nat.le_refl _⟩,by repeat (first | exact Drawn0.refl _ | apply Drawn0.step)⟩
 case round =>
  clear H'
  try clear p2
  obtain ⟨x5_1,rfl,HA,HK1,⟨m1,rfl⟩⟩:=hrel
  cases gk with
  | zero=>exact absurd HA.out (by simp [spec_classNamed.l0])
  | succ k1 =>
   have H:=HA.out
   clear HA
   simp only [spec_classNamed.l0] at H
   by_cases c3 : x5_1 < (l0.length : Int)
   ·rw [if_pos c3] at H
    have c3b0 : decide (x5_1 < (l0.length : Int)) = true:=decide_eq_true c3
    clear c3
    by_cases c4 : 0 ≤ x5_1
    ·rw [if_pos c4] at H
     have c4b0 : decide (0 ≤ x5_1) = true:=decide_eq_true c4
     clear c4
     by_cases c5 : ((rd_T70 l0 x5_1).f0).toList = a1.toList
     ·rw [if_pos c5] at H
      have c5b0 : (((rd_T70 l0 x5_1).f0).toList == a1.toList) = true:=beq_iff_eq.mpr c5
      have c5b1 : (((rd_T70 l0 x5_1).f0).toList != a1.toList) = false:=bne_eq_false_iff_eq.mpr c5
      clear c5
      obtain rfl:=Option.some.inj H
      have p1 : 0 ≤ (x5_1 : Int):=of_decide_eq_true (by first | (with_reducible assumption) | assumption)
      have q1 : x5_1 < (l0.length : Int):=of_decide_eq_true (by first | (with_reducible assumption) | assumption)
      obtain ⟨ad1,e1,hx1_0,hx1_1⟩:=at_T70 HR0.out x5_1 p1 q1
      cases e1
      replace p1:=eq_true p1
      replace q1:=eq_true q1
      go_wp2
      go_ret
      exact ⟨by first | rfl | (simp;done) | (simp [*];done),by repeat (first | exact Drawn0.refl _ | apply Drawn0.step)⟩
     ·rw [if_neg c5] at H
      have c5b0 : (((rd_T70 l0 x5_1).f0).toList == a1.toList) = false:=beq_eq_false_iff_ne.mpr c5
      have c5b1 : (((rd_T70 l0 x5_1).f0).toList != a1.toList) = true:=bne_iff_ne.mpr c5
      have H':=a0_ H
      clear H
      have p1 : 0 ≤ (x5_1 : Int):=of_decide_eq_true (by first | (with_reducible assumption) | assumption)
      have q1 : x5_1 < (l0.length : Int):=of_decide_eq_true (by first | (with_reducible assumption) | assumption)
      obtain ⟨ad1,e1,hx1_0,hx1_1⟩:=at_T70 HR0.out x5_1 p1 q1
      cases e1
      replace p1:=eq_true p1
      replace q1:=eq_true q1
      go_wp2
      go_roundg k1
      case measure=>have:=HK1.out;omega
      case rel=>exact ⟨(wrap64 (x5_1 + 1)),(by first | rfl | (simp;done) | (simp [*];done)),H',⟨by have:=HK1.out;omega⟩,by repeat (first | exact Drawn0.refl _ | apply Drawn0.step)⟩
    ·rw [if_neg c4] at H
     exact absurd H (by simp)
   ·rw [if_neg c3] at H
    have c3b0 : decide (x5_1 < (l0.length : Int)) = false:=decide_eq_false c3
    clear c3
    obtain rfl:=Option.some.inj H
    go_wp2
    go_ret
    exact ⟨by first | rfl | (simp;done) | (simp [*];done),by repeat (first | exact Drawn0.refl _ | apply Drawn0.step)⟩
theorem spec_classNamed_l0 (t : List Cls) (n : ByteArray) (hs : t.length ≤ 9223372036854775807) (d : Nat) : ∀ (k : Nat) (i : Nat),i ≤ t.length → t.length - i = d → d < k → (∀ j (hj : j < t.length),j < i → (t[j].f0.toList == n.toList) = false) → spec_classNamed.l0 k t n (i : Int) = some (named t n):=by
 induction d with
 | zero =>
  intro k i hi hd hk hA
  obtain ⟨k,rfl⟩ : ∃ m,k = m + 1:=⟨k - 1,by omega⟩
  simp only [spec_classNamed.l0]
  rw [if_neg (show ¬ (i : Int) < (t.length : Int) by omega)]
  unfold named
  rw [idxP_miss _ t (fun j hj=>hA j hj (by omega))]
 | succ d ih =>
  intro k i hi hd hk hA
  obtain ⟨k,rfl⟩ : ∃ m,k = m + 1:=⟨k - 1,by omega⟩
  have hlt : i < t.length:=by omega
  simp only [spec_classNamed.l0]
  have hrd : rd_T70 t (i : Int) = t[i]:=by simp [rd_T70,hlt]
  rw [if_pos (show (i : Int) < (t.length : Int) by omega),if_pos (show (0 : Int) ≤ (i : Int) by omega),hrd]
  by_cases h1 : t[i].f0.toList = n.toList
  ·rw [if_pos h1]
   unfold named
   rw [idxP_hit (fun x : Cls=>x.f0.toList == n.toList) t i hlt (beq_iff_eq.2 h1) hA]
  ·rw [if_neg h1,wrap_succ (n:=t.length) (by omega) (by omega) (by omega)]
   rw [show ((i : Int) + 1) = ((i + 1 : Nat) : Int) by omega]
   refine ih k (i + 1) (by omega) (by omega) (by omega) (fun j hj hji=>?_)
   by_cases e : j = i
   ·subst e;exact beq_eq_false_iff_ne.2 h1
   ·exact hA j hj (by omega)
theorem spec_classNamed_ev (t : List Cls) (n : ByteArray) (hs : t.length ≤ 9223372036854775807) : spec_classNamed.f (t.length + 1) t n = some (named t n):=by
 unfold spec_classNamed.f
 exact spec_classNamed_l0 t n hs t.length (t.length + 1) 0 (by omega) (by omega) (by omega) (fun j _ hj=>absurd hj (Nat.not_lt_zero _))
end Go.Proofs.Ytjdpaholpfpiiaa.P
namespace Go.Proofs.Ytjdpaholpfpiiaa.P
open Go.RowKit Go.Proofs.YtjdpaholpfpiiaaW.PrintWords Go.Proofs.YtjdpaholpfpiiaaW.PrintLast Go.Proofs.YtjdpaholpfpiiaaW.PrintMore
attribute [local go_sem] max2_int min2_int max_two min_two max_three min_three max_four min_four
set_option linter.unusedVariables false
set_option linter.unusedSimpArgs false
theorem named_ahead (t : List Cls) (i : Nat) (hi : i < t.length) : (named (t.take i) t[i].f0 ≥ 0) ↔ ¬ named t t[i].f0 = (i : Int):=by
 have hself : (t[i].f0.toList == t[i].f0.toList) = true:=beq_self_eq_true _
 have hd:=idxP_nonneg (fun x : Cls=>x.f0.toList == t[i].f0.toList) (t.take i)
 unfold named
 by_cases hA : ∀ j (hj : j < t.length),j < i → (t[j].f0.toList == t[i].f0.toList) = false
 ·have h1 : idxP (fun x : Cls=>x.f0.toList == t[i].f0.toList) t = (i : Int):=idxP_hit _ t i hi hself hA
  have h2 : (t.take i).any (fun x : Cls=>x.f0.toList == t[i].f0.toList) = false:=by
   rw [List.any_eq_false]
   intro x hx
   obtain ⟨j,hj,rfl⟩:=List.getElem_of_mem hx
   have hj2 : j < i ∧ j < t.length:=by simp at hj;omega
   rw [List.getElem_take]
   simp [hA j hj2.2 hj2.1]
  rw [h2,decide_eq_false_iff_not] at hd
  constructor
  ·intro h;exact absurd h hd
  ·intro h;exact absurd h1 h
 ·have hex : ∃ j,∃ hj : j < t.length,j < i ∧ (t[j].f0.toList == t[i].f0.toList) = true:=by
   apply Classical.byContradiction
   intro hn
   apply hA
   intro j hj hji
   cases hb : (t[j].f0.toList == t[i].f0.toList) with
   | false=>rfl
   | true=>exact absurd ⟨j,hj,hji,hb⟩ hn
  obtain ⟨j,hj,hji,hb⟩:=hex
  have h2 : (t.take i).any (fun x : Cls=>x.f0.toList == t[i].f0.toList) = true:=by
   rw [List.any_eq_true]
   exact ⟨t[j],List.mem_take_iff_getElem.2 ⟨j,by omega,rfl⟩,hb⟩
  rw [h2,decide_eq_true_eq] at hd
  constructor
  ·intro _ h
   unfold idxP at h
   cases hf : t.findIdx? (fun x : Cls=>x.f0.toList == t[i].f0.toList) with
   | none=>rw [hf] at h;simp at h
   | some m =>
    rw [hf] at h
    have hm : m = i:=by have h' : (m : Int) = (i : Int):=h;omega
    subst hm
    rw [List.findIdx?_eq_some_iff_getElem] at hf
    obtain ⟨_,_,hf⟩:=hf
    exact absurd hb (by simpa using hf j hji)
  ·intro _;exact hd
def spec_validTree.f (l0_0 : List (S70)) : Option Bool:=if smT l0_0 = true then some (vT l0_0) else none
set_option maxHeartbeats 4000000 in
set_option maxRecDepth 100000 in
theorem spec_validTree.calls (A0_0 : Option Addr) (c0_0 : Nat) (l0_0 : List (S70)) (r : Bool) (w : World) (hr0_0 : Kd.C k70 w A0_0 l0_0.length l0_0) (hc0_0 : l0_0.length ≤ c0_0) (h : spec_validTree.f l0_0 = some r) :
  Calls Try.prog 44 #[.agg #[.slice A0_0 l0_0.length c0_0]] w fun e w'=>e = .returned (.bool r) ∧ Below w.heap.size w w':=by
 have hu31:=Try.underlying25
 have hsm : smT l0_0 = true:=by
  apply Classical.byContradiction
  intro hn
  rw [spec_validTree.f,if_neg hn] at h
  cases h
 rw [spec_validTree.f,if_pos hsm] at h
 have HRr:=a0_ (Option.some.inj h)
 have HSM:=a0_ hsm
 have HR:=a0_ hr0_0
 have hmax : l0_0.length ≤ 9223372036854775807:=hr0_0.2.1
 clear h hsm hr0_0
 go_enter Try.func44,Try.ntmps44
 go_wp2
 go_loopg [3] l0_0.length (fun gg s3 wr=>∃ kk : Nat,kk ≤ l0_0.length ∧ l0_0.length - kk ≤ gg ∧ s3 = .int .i64 kk ∧ Aside0 (Below w.heap.size w wr) ∧ Aside0 (wr.heap[w.heap.size]? = some (.cells #[.slice A0_0 l0_0.length c0_0] 25 (0,0))) ∧ Aside0 (∀ j,j < kk → okCls l0_0 j (l0_0.getD j z70) = true))
 case atStart=>exact ⟨0,Nat.zero_le _,by omega,rfl,⟨below1 w _⟩,⟨heap_new1 w _⟩,⟨fun j hj=>absurd hj (Nat.not_lt_zero _)⟩⟩
 case round =>
  obtain ⟨kk,hkk,hg,rfl,BW,BK,HA⟩:=hrel
  have hcz : wr.cell? ⟨w.heap.size,0,none⟩ = some (.slice A0_0 l0_0.length c0_0):=(blk_cell BK.out 0).trans rfl
  by_cases hlt : kk < l0_0.length
  ·have hltz : (kk : Int) < (l0_0.length : Int):=by omega
   obtain ⟨ad,ea,hx0,hx1⟩:=at_T70 HR.out (kk : Int) (by omega) (by omega)
   cases ea
   have hrd : rd_T70 l0_0 (kk : Int) = l0_0[kk]:=by simp [rd_T70,hlt]
   rw [hrd] at hx0 hx1
   rw [Int.toNat_natCast] at hx0 hx1
   replace hx0:=(BW.out.cell (World.block_lt_of_cell? w _ hx0)).trans hx0
   replace hx1:=(BW.out.cell (World.block_lt_of_cell? w _ hx1)).trans hx1
   clear hrd
   generalize hy : l0_0[kk] = y at hx0 hx1
   have B:=a0_ hy
   clear hy
   go_upto_region 5 with (fail)
   have hW1:=a0_ (below_alloc BW.out (.cells #[.string y.f0,.int .i64 y.f1] 70))
   have hW2:=a0_ (blk_alloc BK.out (.cells #[.string y.f0,.int .i64 y.f1] 70))
   have hW3:=(blk_cell hW2.out 0).trans rfl
   have hW4:=(blk_cell (heap_new1 wr (.cells #[.string y.f0,.int .i64 y.f1] 70)) 0).trans rfl
   have hW5:=(blk_cell (heap_new1 wr (.cells #[.string y.f0,.int .i64 y.f1] 70)) 1).trans rfl
   clear hcz hx0 hx1 BW BK
   generalize wr.alloc (.cells #[.string y.f0,.int .i64 y.f1] 70) = W1 at hW1 hW2 hW3 hW4 hW5 ⊢
   generalize wr.heap.size = gb at hW4 hW5 ⊢
   have hy1 : y.f0.size ≤ 9223372036854775806:=by rw [← B.out];exact smT_at HSM.out kk hlt
   have A1:=a0_ (spec_validName_ev y.f0 (by omega))
   have hlen : (l0_0.take kk).length = kk:=by simp;omega
   have hcn0:=fun (W : World) (hW : Below w.heap.size w W)=>spec_classNamed.calls _ (some ad) c0_0 (l0_0.take kk) y.f0 _ W (by
    have h1:=Kd.C_take (Kd.C_below HR.out hW) (show kk ≤ l0_0.length by omega)
    exact h1) (by rw [hlen];omega) (spec_classNamed_ev (l0_0.take kk) y.f0 (by rw [hlen];omega))
   rw [hlen] at hcn0
   have hahead:=named_ahead l0_0 kk hlt
   rw [B.out] at hahead
   have hok : okCls l0_0 kk (l0_0.getD kk z70) = okCls l0_0 kk y:=by
    rw [← B.out];simp [List.getD,hlt]
   have hdef : okCls l0_0 kk y = (okName y.f0 && (decide (named l0_0 y.f0 = (kk : Int)) && (if kk = 0 then decide (y.f1 = -1) else decide (0 ≤ y.f1) && decide (y.f1 ≤ (kk : Int) - 1)))):=rfl
   generalize hnn : named (l0_0.take kk) y.f0 = nn at hcn0 hahead
   have HCN:=a0_ hcn0
   have HAH:=a0_ hahead
   have HOK:=a0_ hok
   have HDF:=a0_ hdef
   clear hcn0 hahead hok hdef hnn hlen hy1
   have hcut : ∀ W : World,(Instr.slice 23 (.slice (some ad) l0_0.length c0_0) none (some (.int .i64 (kk : Int))) none).run Try.prog W = .ok (.slice (some ad) kk c0_0) W:=by
    obtain ⟨i0,hi0,_,hsz,_⟩:=info_parts info70
    have h1:=cut_to (P:=Try.prog) 23 70 .i64 Try.underlying23 hi0 (some ad) l0_0.length c0_0 (kk : Int) (by omega) (by omega) hc0_0
    rw [Int.toNat_natCast] at h1
    exact h1
   go_cut [51] (fun v51 wc=>v51 = .bool (!okCls l0_0 kk y) ∧ Aside0 (Below w.heap.size w wc) ∧ Aside0 (wc.heap[w.heap.size]? = some (.cells #[.slice (some ad) l0_0.length c0_0] 25 (0,0))))
   case first =>
    have hw1 : IntKind.i64.wrap ((kk : Int) - 1) = (kk : Int) - 1:=by rw [IntKind.wrap_i64];omega
    have A2:=a0_ (show spec_inRange.f y.f1 0 ((kk : Int) - 1) = some (decide (0 ≤ y.f1) && decide (y.f1 ≤ (kk : Int) - 1)) by
     unfold spec_inRange.f
     by_cases h0 : 0 ≤ y.f1
     ·rw [if_pos h0];simp [h0]
     ·rw [if_neg h0];simp [h0])
    cases hb1 : okName y.f0 with
    | false =>
     rw [hb1] at A1
     have BV : okCls l0_0 kk y = false:=by rw [HDF.out,hb1];rfl
     clear HDF HAH HOK
     go_quiet (first
     | (go_at_call 55;(with_reducible refine (spec_validName.calls _ y.f0 _ _ A1.out).mono ?_);rintro e w' ⟨rfl,⟨nd,rfl⟩⟩;exact ⟨rfl,_,World.drewN_drewN _ _ _⟩)
     | (go_at_call 56;(with_reducible refine (HCN.out _ (pw_below_drewN hW1.out _)).mono ?_);rintro e w' ⟨rfl,⟨nd,rfl⟩⟩;exact ⟨rfl,_,World.drewN_drewN _ _ _⟩)
     | (go_at_call 41;(with_reducible refine (spec_inRange.calls y.f1 0 ((kk : Int) - 1) _ _ A2.out).mono ?_);rintro e w' ⟨rfl,⟨nd,rfl⟩⟩;exact ⟨rfl,_,World.drewN_drewN _ _ _⟩))
     go_wp2
     go_meet
     case rel=>exact ⟨by (rw [BV]);first | rfl | (simp [*];done),⟨pw_below_drewN hW1.out _⟩,⟨blk_drewN hW2.out _⟩⟩
    | true =>
     rw [hb1] at A1
     by_cases hb2 : nn ≥ 0
     ·have BV : okCls l0_0 kk y = false:=by rw [HDF.out,hb1,decide_eq_false (HAH.out.1 hb2)];rfl
      have d2 : decide (0 ≤ nn) = true:=decide_eq_true hb2
      clear HDF HAH HOK hb2
      go_quiet (first
     | (go_at_call 55;(with_reducible refine (spec_validName.calls _ y.f0 _ _ A1.out).mono ?_);rintro e w' ⟨rfl,⟨nd,rfl⟩⟩;exact ⟨rfl,_,World.drewN_drewN _ _ _⟩)
     | (go_at_call 56;(with_reducible refine (HCN.out _ (pw_below_drewN hW1.out _)).mono ?_);rintro e w' ⟨rfl,⟨nd,rfl⟩⟩;exact ⟨rfl,_,World.drewN_drewN _ _ _⟩)
     | (go_at_call 41;(with_reducible refine (spec_inRange.calls y.f1 0 ((kk : Int) - 1) _ _ A2.out).mono ?_);rintro e w' ⟨rfl,⟨nd,rfl⟩⟩;exact ⟨rfl,_,World.drewN_drewN _ _ _⟩))
      go_wp2
      go_meet
      case rel=>exact ⟨by (rw [BV]);first | rfl | (simp [*];done),⟨pw_below_drewN hW1.out _⟩,⟨blk_drewN hW2.out _⟩⟩
     ·have hnm : named l0_0 y.f0 = (kk : Int):=Classical.byContradiction fun hn=>hb2 (HAH.out.2 hn)
      have d2 : decide (0 ≤ nn) = false:=decide_eq_false hb2
      have BV0 : okCls l0_0 kk y = (if kk = 0 then decide (y.f1 = -1) else decide (0 ≤ y.f1) && decide (y.f1 ≤ (kk : Int) - 1)):=by rw [HDF.out,hb1,decide_eq_true hnm];rfl
      clear HDF HAH HOK hb2 hnm
      by_cases hk0 : kk = 0
      ·have BV : okCls l0_0 kk y = decide (y.f1 = -1):=by rw [BV0,if_pos hk0]
       have e0 : ((kk : Int) == 0) = true:=beq_iff_eq.2 (by omega)
       have e1 : decide (0 < (kk : Int)) = false:=decide_eq_false (by omega)
       have e1n : decide (0 < kk) = false:=decide_eq_false (by omega)
       clear BV0
       by_cases hp : y.f1 = -1
       ·have e2 : (y.f1 != -1) = false:=by rw [hp];rfl
        have e3 : (y.f1 == -1) = true:=by rw [hp];rfl
        rw [decide_eq_true hp] at BV
        clear hp hk0
        go_quiet (first
     | (go_at_call 55;(with_reducible refine (spec_validName.calls _ y.f0 _ _ A1.out).mono ?_);rintro e w' ⟨rfl,⟨nd,rfl⟩⟩;exact ⟨rfl,_,World.drewN_drewN _ _ _⟩)
     | (go_at_call 56;(with_reducible refine (HCN.out _ (pw_below_drewN hW1.out _)).mono ?_);rintro e w' ⟨rfl,⟨nd,rfl⟩⟩;exact ⟨rfl,_,World.drewN_drewN _ _ _⟩)
     | (go_at_call 41;(with_reducible refine (spec_inRange.calls y.f1 0 ((kk : Int) - 1) _ _ A2.out).mono ?_);rintro e w' ⟨rfl,⟨nd,rfl⟩⟩;exact ⟨rfl,_,World.drewN_drewN _ _ _⟩))
        go_wp2
        go_meet
        case rel=>exact ⟨by (rw [BV]);first | rfl | (simp [*];done),⟨pw_below_drewN hW1.out _⟩,⟨blk_drewN hW2.out _⟩⟩
       ·have e2 : (y.f1 != -1) = true:=bne_iff_ne.2 hp
        have e3 : (y.f1 == -1) = false:=beq_eq_false_iff_ne.2 hp
        rw [decide_eq_false hp] at BV
        clear hp hk0
        go_quiet (first
     | (go_at_call 55;(with_reducible refine (spec_validName.calls _ y.f0 _ _ A1.out).mono ?_);rintro e w' ⟨rfl,⟨nd,rfl⟩⟩;exact ⟨rfl,_,World.drewN_drewN _ _ _⟩)
     | (go_at_call 56;(with_reducible refine (HCN.out _ (pw_below_drewN hW1.out _)).mono ?_);rintro e w' ⟨rfl,⟨nd,rfl⟩⟩;exact ⟨rfl,_,World.drewN_drewN _ _ _⟩)
     | (go_at_call 41;(with_reducible refine (spec_inRange.calls y.f1 0 ((kk : Int) - 1) _ _ A2.out).mono ?_);rintro e w' ⟨rfl,⟨nd,rfl⟩⟩;exact ⟨rfl,_,World.drewN_drewN _ _ _⟩))
        go_wp2
        go_meet
        case rel=>exact ⟨by (rw [BV]);first | rfl | (simp [*];done),⟨pw_below_drewN hW1.out _⟩,⟨blk_drewN hW2.out _⟩⟩
      ·have BV : okCls l0_0 kk y = (decide (0 ≤ y.f1) && decide (y.f1 ≤ (kk : Int) - 1)):=by rw [BV0,if_neg hk0]
       have e0 : ((kk : Int) == 0) = false:=beq_eq_false_iff_ne.2 (by omega)
       have e1 : decide (0 < (kk : Int)) = true:=decide_eq_true (by omega)
       have e1n : decide (0 < kk) = true:=decide_eq_true (by omega)
       rw [← BV] at A2
       clear BV BV0 hk0
       cases BV : okCls l0_0 kk y with
       | false =>
        rw [BV] at A2
        go_quiet (first
     | (go_at_call 55;(with_reducible refine (spec_validName.calls _ y.f0 _ _ A1.out).mono ?_);rintro e w' ⟨rfl,⟨nd,rfl⟩⟩;exact ⟨rfl,_,World.drewN_drewN _ _ _⟩)
     | (go_at_call 56;(with_reducible refine (HCN.out _ (pw_below_drewN hW1.out _)).mono ?_);rintro e w' ⟨rfl,⟨nd,rfl⟩⟩;exact ⟨rfl,_,World.drewN_drewN _ _ _⟩)
     | (go_at_call 41;(with_reducible refine (spec_inRange.calls y.f1 0 ((kk : Int) - 1) _ _ A2.out).mono ?_);rintro e w' ⟨rfl,⟨nd,rfl⟩⟩;exact ⟨rfl,_,World.drewN_drewN _ _ _⟩))
        go_wp2
        go_meet
        case rel=>exact ⟨by (rw [BV]);first | rfl | (simp [*];done),⟨pw_below_drewN hW1.out _⟩,⟨blk_drewN hW2.out _⟩⟩
       | true =>
        rw [BV] at A2
        go_quiet (first
     | (go_at_call 55;(with_reducible refine (spec_validName.calls _ y.f0 _ _ A1.out).mono ?_);rintro e w' ⟨rfl,⟨nd,rfl⟩⟩;exact ⟨rfl,_,World.drewN_drewN _ _ _⟩)
     | (go_at_call 56;(with_reducible refine (HCN.out _ (pw_below_drewN hW1.out _)).mono ?_);rintro e w' ⟨rfl,⟨nd,rfl⟩⟩;exact ⟨rfl,_,World.drewN_drewN _ _ _⟩)
     | (go_at_call 41;(with_reducible refine (spec_inRange.calls y.f1 0 ((kk : Int) - 1) _ _ A2.out).mono ?_);rintro e w' ⟨rfl,⟨nd,rfl⟩⟩;exact ⟨rfl,_,World.drewN_drewN _ _ _⟩))
        go_wp2
        go_meet
        case rel=>exact ⟨by (rw [BV]);first | rfl | (simp [*];done),⟨pw_below_drewN hW1.out _⟩,⟨blk_drewN hW2.out _⟩⟩
   case rest =>
    obtain ⟨rfl,hW,hK⟩:=hcut
    have hb:=HOK.out
    cases BV : okCls l0_0 kk y with
    | false =>
     go_wp2
     go_ret
     refine ⟨?_,hW.out⟩
     rw [← HRr.out]
     have : vT l0_0 = false:=by
      cases hv : vT l0_0 with
      | false=>rfl
      | true=>have:=vT_at hv kk hlt;rw [HOK.out,BV] at this;cases this
     rw [this];rfl
    | true =>
     go_wp2
     go_roundg (l0_0.length - (kk + 1))
     case measure=>omega
     case rel =>
      refine ⟨kk + 1,by omega,by omega,by go_num,⟨hW.out⟩,⟨hK.out⟩,⟨fun j hj=>?_⟩⟩
      by_cases e : j = kk
      ·subst e;rw [HOK.out,BV]
      ·exact HA.out j (by omega)
  ·have hltz : ¬ (kk : Int) < (l0_0.length : Int):=by omega
   have : kk = l0_0.length:=by omega
   subst this
   have A3:=a0_ (show spec_inRange.f (l0_0.length : Int) 1 8 = some (vT l0_0) by
    have hall : (List.range l0_0.length).all (fun i=>okCls l0_0 i (l0_0.getD i z70)) = true:=by
     rw [List.all_eq_true];intro i hi;exact HA.out i (by simpa using hi)
    unfold spec_inRange.f vT
    rw [hall]
    by_cases h1 : (1 : Int) ≤ l0_0.length
    ·rw [if_pos h1]
     have h1' : 1 ≤ l0_0.length:=by omega
     by_cases h8 : l0_0.length ≤ 8
     ·simp [h1',h8];omega
     ·simp [h8];omega
    ·rw [if_neg h1]
     have h1' : ¬ 1 ≤ l0_0.length:=by omega
     simp [h1'])
   rw [HRr.out] at A3
   go_wp2_with (go_at_call 41;(with_reducible refine (spec_inRange.calls (l0_0.length : Int) 1 8 _ _ A3.out).mono ?_);rintro e w' ⟨rfl,⟨nd,rfl⟩⟩)
   go_ret
   exact ⟨rfl,pw_below_drewN BW.out _⟩
end Go.Proofs.Ytjdpaholpfpiiaa.P
namespace Go.Proofs.Ytjdpaholpfpiiaa.P
open Go.RowKit Go.Proofs.YtjdpaholpfpiiaaW.PrintWords Go.Proofs.YtjdpaholpfpiiaaW.PrintLast Go.Proofs.YtjdpaholpfpiiaaW.PrintMore
attribute [local go_sem] max2_int min2_int max_two min_two max_three min_three max_four min_four
set_option linter.unusedVariables false
set_option linter.unusedSimpArgs false
def spec_validGroup.f (l0_0 : List Cls) (l1 : List Prt) : Option Bool:=if smT l0_0 = true then some (vG l0_0 l1) else none
set_option maxHeartbeats 8000000 in
set_option maxRecDepth 100000 in
theorem spec_validGroup.calls (A0_0 : Option Addr) (c0_0 : Nat) (l0_0 : List (S70)) (A1 : Option Addr) (c1 : Nat) (l1 : List (S35)) (r : Bool) (w : World) (hr0_0 : Kd.C k70 w A0_0 l0_0.length l0_0) (hc0_0 : l0_0.length ≤ c0_0) (hr1 : Kd.C k35 w A1 l1.length l1) (hc1 : l1.length ≤ c1) (h : spec_validGroup.f l0_0 l1 = some r) :
  Calls Try.prog 23 #[.agg #[.slice A0_0 l0_0.length c0_0],.slice A1 l1.length c1] w fun e w'=>e = .returned (.bool r) ∧ Below w.heap.size w w':=by
 have hu31:=Try.underlying25
 have hu74:=Try.underlying35
 have hsm : smT l0_0 = true:=by
  apply Classical.byContradiction
  intro hn
  rw [spec_validGroup.f,if_neg hn] at h
  cases h
 rw [spec_validGroup.f,if_pos hsm] at h
 have HRr:=a0_ (Option.some.inj h)
 have HV:=a0_ (fun (W : World) (hb : Below w.heap.size w W)=>spec_validTree.calls A0_0 c0_0 l0_0 (vT l0_0) W (Kd.C_below hr0_0 hb) hc0_0 (by rw [spec_validTree.f,if_pos hsm]))
 have HH:=a0_ (fun (a : Int) (W : World) (hb : Below w.heap.size w W)=>spec_hasClass.calls A0_0 c0_0 l0_0 a (hasC l0_0 a) W (Kd.C_below hr0_0 hb) hc0_0 (spec_hasClass_ev l0_0 a hr0_0.2.1))
 have HR:=a0_ hr1
 have HC1:=a0_ hc1
 have hmax : l1.length ≤ 9223372036854775807:=hr1.2.1
 clear h hsm hr0_0 hr1
 go_enter Try.func23,Try.ntmps23
 go_wp2
 go_loopg [5] l1.length (fun gg s5 wr=>∃ kk : Nat,kk ≤ l1.length ∧ l1.length - kk ≤ gg ∧ s5 = .int .i64 kk ∧ Aside0 (Below w.heap.size w wr) ∧ Aside0 (wr.heap[w.heap.size]? = some (.cells #[.slice A0_0 l0_0.length c0_0] 25 (0,0))) ∧ Aside0 (∀ j,j < kk → okP l0_0 l1 j (l1.getD j z35) = true))
 case atStart=>exact ⟨0,Nat.zero_le _,by omega,rfl,⟨below1 w _⟩,⟨heap_new1 w _⟩,⟨fun j hj=>absurd hj (Nat.not_lt_zero _)⟩⟩
 case round =>
  obtain ⟨kk,hkk,hg,rfl,BW,BK,HA⟩:=hrel
  have hcz : wr.cell? ⟨w.heap.size,0,none⟩ = some (.slice A0_0 l0_0.length c0_0):=(blk_cell BK.out 0).trans rfl
  by_cases hlt : kk < l1.length
  ·have hltz : (kk : Int) < (l1.length : Int):=by omega
   obtain ⟨ad,ea,hx0,hx1,hx2,hx3⟩:=at_T35 HR.out (kk : Int) (by omega) (by omega)
   cases ea
   have hrd : rd_T35 l1 (kk : Int) = l1.getD kk z35:=by simp [rd_T35]
   rw [hrd] at hx0 hx1 hx2 hx3
   rw [Int.toNat_natCast] at hx0 hx1 hx2 hx3
   replace hx0:=(BW.out.cell (World.block_lt_of_cell? w _ hx0)).trans hx0
   replace hx1:=(BW.out.cell (World.block_lt_of_cell? w _ hx1)).trans hx1
   replace hx2:=(BW.out.cell (World.block_lt_of_cell? w _ hx2)).trans hx2
   replace hx3:=(BW.out.cell (World.block_lt_of_cell? w _ hx3)).trans hx3
   clear hrd
   obtain ⟨kE,hkE⟩:=Ev.out (spec_endOf_ev l1 kk hlt hmax)
   have HEN:=a0_ (fun (W : World) (hb : Below w.heap.size w W)=>spec_endOf.calls kE (some ad) c1 l1 (kk : Int) ((endG l1 kk : Nat) : Int) W (Kd.C_below HR.out hb) HC1.out hkE)
   clear hkE
   have hdf : okP l0_0 l1 kk (l1.getD kk z35) = (okP1 l0_0 kk (l1.getD kk z35) && ((if kk = 0 then true else okUp (l1.getD (kk - 1) z35) (l1.getD kk z35)) && !((l1.getD kk z35).f1 && ((endG l1 kk : Int) == (kk : Int) + 1)))):=rfl
   generalize hy : l1.getD kk z35 = y at hx0 hx1 hx2 hx3 hdf
   have B:=a0_ hy
   clear hy
   obtain ⟨y0,y1,y2,y3⟩:=y
   go_upto_region 5 with (fail)
   have hW1:=a0_ (below_alloc BW.out (.cells #[.int .i64 y0,.bool y1,.int .i64 y2,.int .i64 y3] 35))
   have hW2:=a0_ (blk_alloc BK.out (.cells #[.int .i64 y0,.bool y1,.int .i64 y2,.int .i64 y3] 35))
   have hW3:=a0_ (heap_new1 wr (.cells #[.int .i64 y0,.bool y1,.int .i64 y2,.int .i64 y3] 35))
   clear hcz hx0 hx1 hx2 hx3 BW BK
   generalize wr.alloc (.cells #[.int .i64 y0,.bool y1,.int .i64 y2,.int .i64 y3] 35) = W1 at hW1 hW2 hW3 ⊢
   generalize wr.heap.size = gb at hW3 ⊢
   generalize hq1 : okP1 l0_0 kk ⟨y0,y1,y2,y3⟩ = q1 at hdf
   have hdf1 : okP1 l0_0 kk ⟨y0,y1,y2,y3⟩ = ((decide (0 ≤ y3) && decide (y3 ≤ 99)) && ((decide (0 ≤ y0) && decide (y0 ≤ 5)) && (!(y1 && !(y2 == 0)) && (!(!y1 && !hasC l0_0 y2) && ((y0 == 0) == ((kk : Int) == 0)))))):=rfl
   rw [hq1] at hdf1
   have HDF:=a0_ hdf
   clear hdf hq1
   go_cut [55] (fun v55 WC=>v55 = .bool (!q1) ∧ Aside0 (Below w.heap.size w WC) ∧ Aside0 (WC.heap[w.heap.size]? = some (.cells #[.slice A0_0 l0_0.length c0_0] 25 (0,0))) ∧ Aside0 (WC.heap[gb]? = some (.cells #[.int .i64 y0,.bool y1,.int .i64 y2,.int .i64 y3] 35 (0,0))))
   case first =>
    have A1:=spec_inRange_ev y3 0 99
    have A2:=spec_inRange_ev y0 0 5
    have H3:=HH.out y2
    generalize (decide (0 ≤ y3) && decide (y3 ≤ 99)) = b1 at A1 hdf1
    generalize (decide (0 ≤ y0) && decide (y0 ≤ 5)) = b2 at A2 hdf1
    generalize hasC l0_0 y2 = b4 at H3 hdf1
    replace A1:=a0_ A1
    replace A2:=a0_ A2
    replace H3:=a0_ H3
    have HB:=hW1
    have BK:=hW2
    have BY:=hW3
    clear hW1 hW2 hW3 HDF HEN HH HV HA HRr
    have hcz : W1.cell? ⟨w.heap.size,0,none⟩ = some (.slice A0_0 l0_0.length c0_0):=(blk_cell BK.out 0).trans rfl
    have e0 : W1.cell? ⟨gb,0,none⟩ = some (.int .i64 y0):=(blk_cell BY.out 0).trans rfl
    have e1 : W1.cell? ⟨gb,1,none⟩ = some (.bool y1):=(blk_cell BY.out 1).trans rfl
    have e2 : W1.cell? ⟨gb,2,none⟩ = some (.int .i64 y2):=(blk_cell BY.out 2).trans rfl
    have e3 : W1.cell? ⟨gb,3,none⟩ = some (.int .i64 y3):=(blk_cell BY.out 3).trans rfl
    cases b1 with
    | false =>
     have BV:=a0_ (show q1 = false from hdf1.trans (by simp))
     clear hdf1
     go_wp2_with (first
     | (go_at_call 41;(first | (with_reducible refine (spec_inRange.calls y3 0 99 _ _ A1.out).mono ?_) | (with_reducible refine (spec_inRange.calls y0 0 5 _ _ A2.out).mono ?_));rintro e w' ⟨rfl,hd'⟩;have hb':=hd'.below;clear hd';replace HB:=a0_ (below_step HB.out hb');replace BK:=a0_ (blk_keptB BK.out hb');replace BY:=a0_ (blk_keptB BY.out hb');clear hb' hcz e0 e1 e2 e3;have hcz : w'.cell? ⟨w.heap.size,0,none⟩ = some (.slice A0_0 l0_0.length c0_0):=(blk_cell BK.out 0).trans rfl;have e0 : w'.cell? ⟨gb,0,none⟩ = some (.int .i64 y0):=(blk_cell BY.out 0).trans rfl;have e1 : w'.cell? ⟨gb,1,none⟩ = some (.bool y1):=(blk_cell BY.out 1).trans rfl;have e2 : w'.cell? ⟨gb,2,none⟩ = some (.int .i64 y2):=(blk_cell BY.out 2).trans rfl;have e3 : w'.cell? ⟨gb,3,none⟩ = some (.int .i64 y3):=(blk_cell BY.out 3).trans rfl)
     | (go_at_call 42;refine (H3.out _ HB.out).mono ?_;rintro e w' ⟨rfl,hb'⟩;replace HB:=a0_ (below_step HB.out hb');replace BK:=a0_ (blk_keptB BK.out hb');replace BY:=a0_ (blk_keptB BY.out hb');clear hb' hcz e0 e1 e2 e3;have hcz : w'.cell? ⟨w.heap.size,0,none⟩ = some (.slice A0_0 l0_0.length c0_0):=(blk_cell BK.out 0).trans rfl;have e0 : w'.cell? ⟨gb,0,none⟩ = some (.int .i64 y0):=(blk_cell BY.out 0).trans rfl;have e1 : w'.cell? ⟨gb,1,none⟩ = some (.bool y1):=(blk_cell BY.out 1).trans rfl;have e2 : w'.cell? ⟨gb,2,none⟩ = some (.int .i64 y2):=(blk_cell BY.out 2).trans rfl;have e3 : w'.cell? ⟨gb,3,none⟩ = some (.int .i64 y3):=(blk_cell BY.out 3).trans rfl))
     go_meet
     case rel=>exact ⟨by rw [BV.out];first | rfl | (simp;done),HB,BK,BY⟩
    | true =>
     cases b2 with
     | false =>
      have BV:=a0_ (show q1 = false from hdf1.trans (by simp))
      clear hdf1
      go_wp2_with (first
     | (go_at_call 41;(first | (with_reducible refine (spec_inRange.calls y3 0 99 _ _ A1.out).mono ?_) | (with_reducible refine (spec_inRange.calls y0 0 5 _ _ A2.out).mono ?_));rintro e w' ⟨rfl,hd'⟩;have hb':=hd'.below;clear hd';replace HB:=a0_ (below_step HB.out hb');replace BK:=a0_ (blk_keptB BK.out hb');replace BY:=a0_ (blk_keptB BY.out hb');clear hb' hcz e0 e1 e2 e3;have hcz : w'.cell? ⟨w.heap.size,0,none⟩ = some (.slice A0_0 l0_0.length c0_0):=(blk_cell BK.out 0).trans rfl;have e0 : w'.cell? ⟨gb,0,none⟩ = some (.int .i64 y0):=(blk_cell BY.out 0).trans rfl;have e1 : w'.cell? ⟨gb,1,none⟩ = some (.bool y1):=(blk_cell BY.out 1).trans rfl;have e2 : w'.cell? ⟨gb,2,none⟩ = some (.int .i64 y2):=(blk_cell BY.out 2).trans rfl;have e3 : w'.cell? ⟨gb,3,none⟩ = some (.int .i64 y3):=(blk_cell BY.out 3).trans rfl)
     | (go_at_call 42;refine (H3.out _ HB.out).mono ?_;rintro e w' ⟨rfl,hb'⟩;replace HB:=a0_ (below_step HB.out hb');replace BK:=a0_ (blk_keptB BK.out hb');replace BY:=a0_ (blk_keptB BY.out hb');clear hb' hcz e0 e1 e2 e3;have hcz : w'.cell? ⟨w.heap.size,0,none⟩ = some (.slice A0_0 l0_0.length c0_0):=(blk_cell BK.out 0).trans rfl;have e0 : w'.cell? ⟨gb,0,none⟩ = some (.int .i64 y0):=(blk_cell BY.out 0).trans rfl;have e1 : w'.cell? ⟨gb,1,none⟩ = some (.bool y1):=(blk_cell BY.out 1).trans rfl;have e2 : w'.cell? ⟨gb,2,none⟩ = some (.int .i64 y2):=(blk_cell BY.out 2).trans rfl;have e3 : w'.cell? ⟨gb,3,none⟩ = some (.int .i64 y3):=(blk_cell BY.out 3).trans rfl))
      go_meet
      case rel=>exact ⟨by rw [BV.out];first | rfl | (simp;done),HB,BK,BY⟩
     | true =>
      cases y1 with
      | true =>
       cases hz2 : (y2 == (0 : Int)) with
       | false =>
        have hz2n : (y2 != (0 : Int)) = true:=by rw [bne,hz2];rfl
        rw [hz2] at hdf1
        have BV:=a0_ (show q1 = false from hdf1.trans (by simp))
        clear hdf1
        go_wp2_with (first
     | (go_at_call 41;(first | (with_reducible refine (spec_inRange.calls y3 0 99 _ _ A1.out).mono ?_) | (with_reducible refine (spec_inRange.calls y0 0 5 _ _ A2.out).mono ?_));rintro e w' ⟨rfl,hd'⟩;have hb':=hd'.below;clear hd';replace HB:=a0_ (below_step HB.out hb');replace BK:=a0_ (blk_keptB BK.out hb');replace BY:=a0_ (blk_keptB BY.out hb');clear hb' hcz e0 e1 e2 e3;have hcz : w'.cell? ⟨w.heap.size,0,none⟩ = some (.slice A0_0 l0_0.length c0_0):=(blk_cell BK.out 0).trans rfl;have e0 : w'.cell? ⟨gb,0,none⟩ = some (.int .i64 y0):=(blk_cell BY.out 0).trans rfl;have e1 : w'.cell? ⟨gb,1,none⟩ = some (.bool true):=(blk_cell BY.out 1).trans rfl;have e2 : w'.cell? ⟨gb,2,none⟩ = some (.int .i64 y2):=(blk_cell BY.out 2).trans rfl;have e3 : w'.cell? ⟨gb,3,none⟩ = some (.int .i64 y3):=(blk_cell BY.out 3).trans rfl)
     | (go_at_call 42;refine (H3.out _ HB.out).mono ?_;rintro e w' ⟨rfl,hb'⟩;replace HB:=a0_ (below_step HB.out hb');replace BK:=a0_ (blk_keptB BK.out hb');replace BY:=a0_ (blk_keptB BY.out hb');clear hb' hcz e0 e1 e2 e3;have hcz : w'.cell? ⟨w.heap.size,0,none⟩ = some (.slice A0_0 l0_0.length c0_0):=(blk_cell BK.out 0).trans rfl;have e0 : w'.cell? ⟨gb,0,none⟩ = some (.int .i64 y0):=(blk_cell BY.out 0).trans rfl;have e1 : w'.cell? ⟨gb,1,none⟩ = some (.bool true):=(blk_cell BY.out 1).trans rfl;have e2 : w'.cell? ⟨gb,2,none⟩ = some (.int .i64 y2):=(blk_cell BY.out 2).trans rfl;have e3 : w'.cell? ⟨gb,3,none⟩ = some (.int .i64 y3):=(blk_cell BY.out 3).trans rfl))
        go_meet
        case rel=>exact ⟨by rw [BV.out];first | rfl | (simp;done),HB,BK,BY⟩
       | true =>
        have hz2n : (y2 != (0 : Int)) = false:=by rw [bne,hz2];rfl
        rw [hz2] at hdf1
        cases hz : (y0 == (0 : Int)) <;> cases hk : ((kk : Int) == 0) <;> rw [hz,hk] at hdf1
        ·
         have BV:=a0_ (show q1 = true from hdf1.trans (by first | rfl | (cases b4 <;> rfl) | simp))
         clear hdf1
         go_wp2_with (first
     | (go_at_call 41;(first | (with_reducible refine (spec_inRange.calls y3 0 99 _ _ A1.out).mono ?_) | (with_reducible refine (spec_inRange.calls y0 0 5 _ _ A2.out).mono ?_));rintro e w' ⟨rfl,hd'⟩;have hb':=hd'.below;clear hd';replace HB:=a0_ (below_step HB.out hb');replace BK:=a0_ (blk_keptB BK.out hb');replace BY:=a0_ (blk_keptB BY.out hb');clear hb' hcz e0 e1 e2 e3;have hcz : w'.cell? ⟨w.heap.size,0,none⟩ = some (.slice A0_0 l0_0.length c0_0):=(blk_cell BK.out 0).trans rfl;have e0 : w'.cell? ⟨gb,0,none⟩ = some (.int .i64 y0):=(blk_cell BY.out 0).trans rfl;have e1 : w'.cell? ⟨gb,1,none⟩ = some (.bool true):=(blk_cell BY.out 1).trans rfl;have e2 : w'.cell? ⟨gb,2,none⟩ = some (.int .i64 y2):=(blk_cell BY.out 2).trans rfl;have e3 : w'.cell? ⟨gb,3,none⟩ = some (.int .i64 y3):=(blk_cell BY.out 3).trans rfl)
     | (go_at_call 42;refine (H3.out _ HB.out).mono ?_;rintro e w' ⟨rfl,hb'⟩;replace HB:=a0_ (below_step HB.out hb');replace BK:=a0_ (blk_keptB BK.out hb');replace BY:=a0_ (blk_keptB BY.out hb');clear hb' hcz e0 e1 e2 e3;have hcz : w'.cell? ⟨w.heap.size,0,none⟩ = some (.slice A0_0 l0_0.length c0_0):=(blk_cell BK.out 0).trans rfl;have e0 : w'.cell? ⟨gb,0,none⟩ = some (.int .i64 y0):=(blk_cell BY.out 0).trans rfl;have e1 : w'.cell? ⟨gb,1,none⟩ = some (.bool true):=(blk_cell BY.out 1).trans rfl;have e2 : w'.cell? ⟨gb,2,none⟩ = some (.int .i64 y2):=(blk_cell BY.out 2).trans rfl;have e3 : w'.cell? ⟨gb,3,none⟩ = some (.int .i64 y3):=(blk_cell BY.out 3).trans rfl))
         go_meet
         case rel=>exact ⟨by rw [BV.out];first | rfl | (simp;done),HB,BK,BY⟩
        ·
         have BV:=a0_ (show q1 = false from hdf1.trans (by first | rfl | (cases b4 <;> rfl) | simp))
         clear hdf1
         go_wp2_with (first
     | (go_at_call 41;(first | (with_reducible refine (spec_inRange.calls y3 0 99 _ _ A1.out).mono ?_) | (with_reducible refine (spec_inRange.calls y0 0 5 _ _ A2.out).mono ?_));rintro e w' ⟨rfl,hd'⟩;have hb':=hd'.below;clear hd';replace HB:=a0_ (below_step HB.out hb');replace BK:=a0_ (blk_keptB BK.out hb');replace BY:=a0_ (blk_keptB BY.out hb');clear hb' hcz e0 e1 e2 e3;have hcz : w'.cell? ⟨w.heap.size,0,none⟩ = some (.slice A0_0 l0_0.length c0_0):=(blk_cell BK.out 0).trans rfl;have e0 : w'.cell? ⟨gb,0,none⟩ = some (.int .i64 y0):=(blk_cell BY.out 0).trans rfl;have e1 : w'.cell? ⟨gb,1,none⟩ = some (.bool true):=(blk_cell BY.out 1).trans rfl;have e2 : w'.cell? ⟨gb,2,none⟩ = some (.int .i64 y2):=(blk_cell BY.out 2).trans rfl;have e3 : w'.cell? ⟨gb,3,none⟩ = some (.int .i64 y3):=(blk_cell BY.out 3).trans rfl)
     | (go_at_call 42;refine (H3.out _ HB.out).mono ?_;rintro e w' ⟨rfl,hb'⟩;replace HB:=a0_ (below_step HB.out hb');replace BK:=a0_ (blk_keptB BK.out hb');replace BY:=a0_ (blk_keptB BY.out hb');clear hb' hcz e0 e1 e2 e3;have hcz : w'.cell? ⟨w.heap.size,0,none⟩ = some (.slice A0_0 l0_0.length c0_0):=(blk_cell BK.out 0).trans rfl;have e0 : w'.cell? ⟨gb,0,none⟩ = some (.int .i64 y0):=(blk_cell BY.out 0).trans rfl;have e1 : w'.cell? ⟨gb,1,none⟩ = some (.bool true):=(blk_cell BY.out 1).trans rfl;have e2 : w'.cell? ⟨gb,2,none⟩ = some (.int .i64 y2):=(blk_cell BY.out 2).trans rfl;have e3 : w'.cell? ⟨gb,3,none⟩ = some (.int .i64 y3):=(blk_cell BY.out 3).trans rfl))
         go_meet
         case rel=>exact ⟨by rw [BV.out];first | rfl | (simp;done),HB,BK,BY⟩
        ·
         have BV:=a0_ (show q1 = false from hdf1.trans (by first | rfl | (cases b4 <;> rfl) | simp))
         clear hdf1
         go_wp2_with (first
     | (go_at_call 41;(first | (with_reducible refine (spec_inRange.calls y3 0 99 _ _ A1.out).mono ?_) | (with_reducible refine (spec_inRange.calls y0 0 5 _ _ A2.out).mono ?_));rintro e w' ⟨rfl,hd'⟩;have hb':=hd'.below;clear hd';replace HB:=a0_ (below_step HB.out hb');replace BK:=a0_ (blk_keptB BK.out hb');replace BY:=a0_ (blk_keptB BY.out hb');clear hb' hcz e0 e1 e2 e3;have hcz : w'.cell? ⟨w.heap.size,0,none⟩ = some (.slice A0_0 l0_0.length c0_0):=(blk_cell BK.out 0).trans rfl;have e0 : w'.cell? ⟨gb,0,none⟩ = some (.int .i64 y0):=(blk_cell BY.out 0).trans rfl;have e1 : w'.cell? ⟨gb,1,none⟩ = some (.bool true):=(blk_cell BY.out 1).trans rfl;have e2 : w'.cell? ⟨gb,2,none⟩ = some (.int .i64 y2):=(blk_cell BY.out 2).trans rfl;have e3 : w'.cell? ⟨gb,3,none⟩ = some (.int .i64 y3):=(blk_cell BY.out 3).trans rfl)
     | (go_at_call 42;refine (H3.out _ HB.out).mono ?_;rintro e w' ⟨rfl,hb'⟩;replace HB:=a0_ (below_step HB.out hb');replace BK:=a0_ (blk_keptB BK.out hb');replace BY:=a0_ (blk_keptB BY.out hb');clear hb' hcz e0 e1 e2 e3;have hcz : w'.cell? ⟨w.heap.size,0,none⟩ = some (.slice A0_0 l0_0.length c0_0):=(blk_cell BK.out 0).trans rfl;have e0 : w'.cell? ⟨gb,0,none⟩ = some (.int .i64 y0):=(blk_cell BY.out 0).trans rfl;have e1 : w'.cell? ⟨gb,1,none⟩ = some (.bool true):=(blk_cell BY.out 1).trans rfl;have e2 : w'.cell? ⟨gb,2,none⟩ = some (.int .i64 y2):=(blk_cell BY.out 2).trans rfl;have e3 : w'.cell? ⟨gb,3,none⟩ = some (.int .i64 y3):=(blk_cell BY.out 3).trans rfl))
         go_meet
         case rel=>exact ⟨by rw [BV.out];first | rfl | (simp;done),HB,BK,BY⟩
        ·
         have BV:=a0_ (show q1 = true from hdf1.trans (by first | rfl | (cases b4 <;> rfl) | simp))
         clear hdf1
         go_wp2_with (first
     | (go_at_call 41;(first | (with_reducible refine (spec_inRange.calls y3 0 99 _ _ A1.out).mono ?_) | (with_reducible refine (spec_inRange.calls y0 0 5 _ _ A2.out).mono ?_));rintro e w' ⟨rfl,hd'⟩;have hb':=hd'.below;clear hd';replace HB:=a0_ (below_step HB.out hb');replace BK:=a0_ (blk_keptB BK.out hb');replace BY:=a0_ (blk_keptB BY.out hb');clear hb' hcz e0 e1 e2 e3;have hcz : w'.cell? ⟨w.heap.size,0,none⟩ = some (.slice A0_0 l0_0.length c0_0):=(blk_cell BK.out 0).trans rfl;have e0 : w'.cell? ⟨gb,0,none⟩ = some (.int .i64 y0):=(blk_cell BY.out 0).trans rfl;have e1 : w'.cell? ⟨gb,1,none⟩ = some (.bool true):=(blk_cell BY.out 1).trans rfl;have e2 : w'.cell? ⟨gb,2,none⟩ = some (.int .i64 y2):=(blk_cell BY.out 2).trans rfl;have e3 : w'.cell? ⟨gb,3,none⟩ = some (.int .i64 y3):=(blk_cell BY.out 3).trans rfl)
     | (go_at_call 42;refine (H3.out _ HB.out).mono ?_;rintro e w' ⟨rfl,hb'⟩;replace HB:=a0_ (below_step HB.out hb');replace BK:=a0_ (blk_keptB BK.out hb');replace BY:=a0_ (blk_keptB BY.out hb');clear hb' hcz e0 e1 e2 e3;have hcz : w'.cell? ⟨w.heap.size,0,none⟩ = some (.slice A0_0 l0_0.length c0_0):=(blk_cell BK.out 0).trans rfl;have e0 : w'.cell? ⟨gb,0,none⟩ = some (.int .i64 y0):=(blk_cell BY.out 0).trans rfl;have e1 : w'.cell? ⟨gb,1,none⟩ = some (.bool true):=(blk_cell BY.out 1).trans rfl;have e2 : w'.cell? ⟨gb,2,none⟩ = some (.int .i64 y2):=(blk_cell BY.out 2).trans rfl;have e3 : w'.cell? ⟨gb,3,none⟩ = some (.int .i64 y3):=(blk_cell BY.out 3).trans rfl))
         go_meet
         case rel=>exact ⟨by rw [BV.out];first | rfl | (simp;done),HB,BK,BY⟩
      | false =>
       cases b4 with
       | false =>
        have BV:=a0_ (show q1 = false from hdf1.trans (by simp))
        clear hdf1
        go_wp2_with (first
     | (go_at_call 41;(first | (with_reducible refine (spec_inRange.calls y3 0 99 _ _ A1.out).mono ?_) | (with_reducible refine (spec_inRange.calls y0 0 5 _ _ A2.out).mono ?_));rintro e w' ⟨rfl,hd'⟩;have hb':=hd'.below;clear hd';replace HB:=a0_ (below_step HB.out hb');replace BK:=a0_ (blk_keptB BK.out hb');replace BY:=a0_ (blk_keptB BY.out hb');clear hb' hcz e0 e1 e2 e3;have hcz : w'.cell? ⟨w.heap.size,0,none⟩ = some (.slice A0_0 l0_0.length c0_0):=(blk_cell BK.out 0).trans rfl;have e0 : w'.cell? ⟨gb,0,none⟩ = some (.int .i64 y0):=(blk_cell BY.out 0).trans rfl;have e1 : w'.cell? ⟨gb,1,none⟩ = some (.bool false):=(blk_cell BY.out 1).trans rfl;have e2 : w'.cell? ⟨gb,2,none⟩ = some (.int .i64 y2):=(blk_cell BY.out 2).trans rfl;have e3 : w'.cell? ⟨gb,3,none⟩ = some (.int .i64 y3):=(blk_cell BY.out 3).trans rfl)
     | (go_at_call 42;refine (H3.out _ HB.out).mono ?_;rintro e w' ⟨rfl,hb'⟩;replace HB:=a0_ (below_step HB.out hb');replace BK:=a0_ (blk_keptB BK.out hb');replace BY:=a0_ (blk_keptB BY.out hb');clear hb' hcz e0 e1 e2 e3;have hcz : w'.cell? ⟨w.heap.size,0,none⟩ = some (.slice A0_0 l0_0.length c0_0):=(blk_cell BK.out 0).trans rfl;have e0 : w'.cell? ⟨gb,0,none⟩ = some (.int .i64 y0):=(blk_cell BY.out 0).trans rfl;have e1 : w'.cell? ⟨gb,1,none⟩ = some (.bool false):=(blk_cell BY.out 1).trans rfl;have e2 : w'.cell? ⟨gb,2,none⟩ = some (.int .i64 y2):=(blk_cell BY.out 2).trans rfl;have e3 : w'.cell? ⟨gb,3,none⟩ = some (.int .i64 y3):=(blk_cell BY.out 3).trans rfl))
        go_meet
        case rel=>exact ⟨by rw [BV.out];first | rfl | (simp;done),HB,BK,BY⟩
       | true =>
        generalize (y2 == (0 : Int)) = z2 at hdf1
        cases hz : (y0 == (0 : Int)) <;> cases hk : ((kk : Int) == 0) <;> rw [hz,hk] at hdf1
        ·
         have BV:=a0_ (show q1 = true from hdf1.trans (by first | rfl | (cases b4 <;> rfl) | simp))
         clear hdf1
         go_wp2_with (first
     | (go_at_call 41;(first | (with_reducible refine (spec_inRange.calls y3 0 99 _ _ A1.out).mono ?_) | (with_reducible refine (spec_inRange.calls y0 0 5 _ _ A2.out).mono ?_));rintro e w' ⟨rfl,hd'⟩;have hb':=hd'.below;clear hd';replace HB:=a0_ (below_step HB.out hb');replace BK:=a0_ (blk_keptB BK.out hb');replace BY:=a0_ (blk_keptB BY.out hb');clear hb' hcz e0 e1 e2 e3;have hcz : w'.cell? ⟨w.heap.size,0,none⟩ = some (.slice A0_0 l0_0.length c0_0):=(blk_cell BK.out 0).trans rfl;have e0 : w'.cell? ⟨gb,0,none⟩ = some (.int .i64 y0):=(blk_cell BY.out 0).trans rfl;have e1 : w'.cell? ⟨gb,1,none⟩ = some (.bool false):=(blk_cell BY.out 1).trans rfl;have e2 : w'.cell? ⟨gb,2,none⟩ = some (.int .i64 y2):=(blk_cell BY.out 2).trans rfl;have e3 : w'.cell? ⟨gb,3,none⟩ = some (.int .i64 y3):=(blk_cell BY.out 3).trans rfl)
     | (go_at_call 42;refine (H3.out _ HB.out).mono ?_;rintro e w' ⟨rfl,hb'⟩;replace HB:=a0_ (below_step HB.out hb');replace BK:=a0_ (blk_keptB BK.out hb');replace BY:=a0_ (blk_keptB BY.out hb');clear hb' hcz e0 e1 e2 e3;have hcz : w'.cell? ⟨w.heap.size,0,none⟩ = some (.slice A0_0 l0_0.length c0_0):=(blk_cell BK.out 0).trans rfl;have e0 : w'.cell? ⟨gb,0,none⟩ = some (.int .i64 y0):=(blk_cell BY.out 0).trans rfl;have e1 : w'.cell? ⟨gb,1,none⟩ = some (.bool false):=(blk_cell BY.out 1).trans rfl;have e2 : w'.cell? ⟨gb,2,none⟩ = some (.int .i64 y2):=(blk_cell BY.out 2).trans rfl;have e3 : w'.cell? ⟨gb,3,none⟩ = some (.int .i64 y3):=(blk_cell BY.out 3).trans rfl))
         go_meet
         case rel=>exact ⟨by rw [BV.out];first | rfl | (simp;done),HB,BK,BY⟩
        ·
         have BV:=a0_ (show q1 = false from hdf1.trans (by first | rfl | (cases b4 <;> rfl) | simp))
         clear hdf1
         go_wp2_with (first
     | (go_at_call 41;(first | (with_reducible refine (spec_inRange.calls y3 0 99 _ _ A1.out).mono ?_) | (with_reducible refine (spec_inRange.calls y0 0 5 _ _ A2.out).mono ?_));rintro e w' ⟨rfl,hd'⟩;have hb':=hd'.below;clear hd';replace HB:=a0_ (below_step HB.out hb');replace BK:=a0_ (blk_keptB BK.out hb');replace BY:=a0_ (blk_keptB BY.out hb');clear hb' hcz e0 e1 e2 e3;have hcz : w'.cell? ⟨w.heap.size,0,none⟩ = some (.slice A0_0 l0_0.length c0_0):=(blk_cell BK.out 0).trans rfl;have e0 : w'.cell? ⟨gb,0,none⟩ = some (.int .i64 y0):=(blk_cell BY.out 0).trans rfl;have e1 : w'.cell? ⟨gb,1,none⟩ = some (.bool false):=(blk_cell BY.out 1).trans rfl;have e2 : w'.cell? ⟨gb,2,none⟩ = some (.int .i64 y2):=(blk_cell BY.out 2).trans rfl;have e3 : w'.cell? ⟨gb,3,none⟩ = some (.int .i64 y3):=(blk_cell BY.out 3).trans rfl)
     | (go_at_call 42;refine (H3.out _ HB.out).mono ?_;rintro e w' ⟨rfl,hb'⟩;replace HB:=a0_ (below_step HB.out hb');replace BK:=a0_ (blk_keptB BK.out hb');replace BY:=a0_ (blk_keptB BY.out hb');clear hb' hcz e0 e1 e2 e3;have hcz : w'.cell? ⟨w.heap.size,0,none⟩ = some (.slice A0_0 l0_0.length c0_0):=(blk_cell BK.out 0).trans rfl;have e0 : w'.cell? ⟨gb,0,none⟩ = some (.int .i64 y0):=(blk_cell BY.out 0).trans rfl;have e1 : w'.cell? ⟨gb,1,none⟩ = some (.bool false):=(blk_cell BY.out 1).trans rfl;have e2 : w'.cell? ⟨gb,2,none⟩ = some (.int .i64 y2):=(blk_cell BY.out 2).trans rfl;have e3 : w'.cell? ⟨gb,3,none⟩ = some (.int .i64 y3):=(blk_cell BY.out 3).trans rfl))
         go_meet
         case rel=>exact ⟨by rw [BV.out];first | rfl | (simp;done),HB,BK,BY⟩
        ·
         have BV:=a0_ (show q1 = false from hdf1.trans (by first | rfl | (cases b4 <;> rfl) | simp))
         clear hdf1
         go_wp2_with (first
     | (go_at_call 41;(first | (with_reducible refine (spec_inRange.calls y3 0 99 _ _ A1.out).mono ?_) | (with_reducible refine (spec_inRange.calls y0 0 5 _ _ A2.out).mono ?_));rintro e w' ⟨rfl,hd'⟩;have hb':=hd'.below;clear hd';replace HB:=a0_ (below_step HB.out hb');replace BK:=a0_ (blk_keptB BK.out hb');replace BY:=a0_ (blk_keptB BY.out hb');clear hb' hcz e0 e1 e2 e3;have hcz : w'.cell? ⟨w.heap.size,0,none⟩ = some (.slice A0_0 l0_0.length c0_0):=(blk_cell BK.out 0).trans rfl;have e0 : w'.cell? ⟨gb,0,none⟩ = some (.int .i64 y0):=(blk_cell BY.out 0).trans rfl;have e1 : w'.cell? ⟨gb,1,none⟩ = some (.bool false):=(blk_cell BY.out 1).trans rfl;have e2 : w'.cell? ⟨gb,2,none⟩ = some (.int .i64 y2):=(blk_cell BY.out 2).trans rfl;have e3 : w'.cell? ⟨gb,3,none⟩ = some (.int .i64 y3):=(blk_cell BY.out 3).trans rfl)
     | (go_at_call 42;refine (H3.out _ HB.out).mono ?_;rintro e w' ⟨rfl,hb'⟩;replace HB:=a0_ (below_step HB.out hb');replace BK:=a0_ (blk_keptB BK.out hb');replace BY:=a0_ (blk_keptB BY.out hb');clear hb' hcz e0 e1 e2 e3;have hcz : w'.cell? ⟨w.heap.size,0,none⟩ = some (.slice A0_0 l0_0.length c0_0):=(blk_cell BK.out 0).trans rfl;have e0 : w'.cell? ⟨gb,0,none⟩ = some (.int .i64 y0):=(blk_cell BY.out 0).trans rfl;have e1 : w'.cell? ⟨gb,1,none⟩ = some (.bool false):=(blk_cell BY.out 1).trans rfl;have e2 : w'.cell? ⟨gb,2,none⟩ = some (.int .i64 y2):=(blk_cell BY.out 2).trans rfl;have e3 : w'.cell? ⟨gb,3,none⟩ = some (.int .i64 y3):=(blk_cell BY.out 3).trans rfl))
         go_meet
         case rel=>exact ⟨by rw [BV.out];first | rfl | (simp;done),HB,BK,BY⟩
        ·
         have BV:=a0_ (show q1 = true from hdf1.trans (by first | rfl | (cases b4 <;> rfl) | simp))
         clear hdf1
         go_wp2_with (first
     | (go_at_call 41;(first | (with_reducible refine (spec_inRange.calls y3 0 99 _ _ A1.out).mono ?_) | (with_reducible refine (spec_inRange.calls y0 0 5 _ _ A2.out).mono ?_));rintro e w' ⟨rfl,hd'⟩;have hb':=hd'.below;clear hd';replace HB:=a0_ (below_step HB.out hb');replace BK:=a0_ (blk_keptB BK.out hb');replace BY:=a0_ (blk_keptB BY.out hb');clear hb' hcz e0 e1 e2 e3;have hcz : w'.cell? ⟨w.heap.size,0,none⟩ = some (.slice A0_0 l0_0.length c0_0):=(blk_cell BK.out 0).trans rfl;have e0 : w'.cell? ⟨gb,0,none⟩ = some (.int .i64 y0):=(blk_cell BY.out 0).trans rfl;have e1 : w'.cell? ⟨gb,1,none⟩ = some (.bool false):=(blk_cell BY.out 1).trans rfl;have e2 : w'.cell? ⟨gb,2,none⟩ = some (.int .i64 y2):=(blk_cell BY.out 2).trans rfl;have e3 : w'.cell? ⟨gb,3,none⟩ = some (.int .i64 y3):=(blk_cell BY.out 3).trans rfl)
     | (go_at_call 42;refine (H3.out _ HB.out).mono ?_;rintro e w' ⟨rfl,hb'⟩;replace HB:=a0_ (below_step HB.out hb');replace BK:=a0_ (blk_keptB BK.out hb');replace BY:=a0_ (blk_keptB BY.out hb');clear hb' hcz e0 e1 e2 e3;have hcz : w'.cell? ⟨w.heap.size,0,none⟩ = some (.slice A0_0 l0_0.length c0_0):=(blk_cell BK.out 0).trans rfl;have e0 : w'.cell? ⟨gb,0,none⟩ = some (.int .i64 y0):=(blk_cell BY.out 0).trans rfl;have e1 : w'.cell? ⟨gb,1,none⟩ = some (.bool false):=(blk_cell BY.out 1).trans rfl;have e2 : w'.cell? ⟨gb,2,none⟩ = some (.int .i64 y2):=(blk_cell BY.out 2).trans rfl;have e3 : w'.cell? ⟨gb,3,none⟩ = some (.int .i64 y3):=(blk_cell BY.out 3).trans rfl))
         go_meet
         case rel=>exact ⟨by rw [BV.out];first | rfl | (simp;done),HB,BK,BY⟩
   case rest =>
    clear hW1 hW2 hW3 hdf1
    obtain ⟨rfl,HB,BK,BY⟩:=hcut
    cases q1 with
    | false =>
     go_wp2
     go_ret
     refine ⟨?_,HB.out⟩
     rw [← HRr.out,vG_false hlt (by rw [B.out,HDF.out];rfl)]
     rfl
    | true =>
     go_upto_region 7 with (fail)
     have hdf2:=HDF.out
     rw [Bool.true_and] at hdf2
     clear HDF
     generalize hq2 : okP l0_0 l1 kk ⟨y0,y1,y2,y3⟩ = q2 at hdf2
     have HQ:=a0_ hq2
     clear hq2
     go_cut [101] (fun v101 wd=>v101 = .bool (!q2) ∧ Aside0 (Below w.heap.size w wd) ∧ Aside0 (wd.heap[w.heap.size]? = some (.cells #[.slice A0_0 l0_0.length c0_0] 25 (0,0))))
     case first =>
      have e0:=(blk_cell BY.out 0).trans rfl
      have e1:=(blk_cell BY.out 1).trans rfl
      have hw2 : IntKind.i64.wrap ((kk : Int) + 1) = (kk : Int) + 1:=by rw [IntKind.wrap_i64];omega
      generalize endG l1 kk = en at HEN hdf2
      by_cases hk0 : kk = 0
      ·
       have d0 : decide (0 < (kk : Int)) = false:=decide_eq_false (by omega)
       have d0n : decide (0 < kk) = false:=decide_eq_false (by omega)
       rw [if_pos hk0,Bool.true_and] at hdf2
       clear hk0 HA HRr HV HH
       cases y1 with
       | false =>
        have BV:=a0_ (show q2 = true from hdf2.trans (by first | rfl | simp))
        clear hdf2
        go_quiet (first | (go_at_call 43;(with_reducible refine (HEN.out _ (pw_below_drewN HB.out _)).mono ?_);rintro e w' ⟨rfl,⟨nd,rfl⟩⟩;exact ⟨rfl,_,World.drewN_drewN _ _ _⟩))
        go_wp2
        go_meet
        case rel=>exact ⟨by rw [BV.out];first | rfl | (simp [*];done),⟨pw_below_drewN HB.out _⟩,⟨blk_drewN BK.out _⟩⟩
       | true =>
        cases h7 : ((en : Int) == (kk : Int) + 1) <;> rw [h7] at hdf2
        ·
         have BV:=a0_ (show q2 = true from hdf2.trans (by first | rfl | simp))
         clear hdf2
         go_quiet (first | (go_at_call 43;(with_reducible refine (HEN.out _ (pw_below_drewN HB.out _)).mono ?_);rintro e w' ⟨rfl,⟨nd,rfl⟩⟩;exact ⟨rfl,_,World.drewN_drewN _ _ _⟩))
         go_wp2
         go_meet
         case rel=>exact ⟨by rw [BV.out];first | rfl | (simp [*];done),⟨pw_below_drewN HB.out _⟩,⟨blk_drewN BK.out _⟩⟩
        ·
         have BV:=a0_ (show q2 = false from hdf2.trans (by first | rfl | simp))
         clear hdf2
         go_quiet (first | (go_at_call 43;(with_reducible refine (HEN.out _ (pw_below_drewN HB.out _)).mono ?_);rintro e w' ⟨rfl,⟨nd,rfl⟩⟩;exact ⟨rfl,_,World.drewN_drewN _ _ _⟩))
         go_wp2
         go_meet
         case rel=>exact ⟨by rw [BV.out];first | rfl | (simp [*];done),⟨pw_below_drewN HB.out _⟩,⟨blk_drewN BK.out _⟩⟩
      ·
       have d0 : decide (0 < (kk : Int)) = true:=decide_eq_true (by omega)
       have d0n : decide (0 < kk) = true:=decide_eq_true (by omega)
       rw [if_neg hk0] at hdf2
       obtain ⟨m,hm⟩ : ∃ m,m = kk - 1:=⟨_,rfl⟩
       rw [← hm] at hdf2
       obtain ⟨ad',ea',hp0,hp1,hp2,hp3⟩:=at_T35 HR.out (m : Int) (by omega) (by omega)
       cases ea'
       have hrd : rd_T35 l1 (m : Int) = l1.getD m z35:=by simp [rd_T35]
       have hdep:=okP_depth (HA.out m (by omega))
       rw [hrd] at hp0 hp1
       rw [Int.toNat_natCast] at hp0 hp1
       generalize l1.getD m z35 = q at hp0 hp1 hdep hdf2
       obtain ⟨q0,q1,q2',q3⟩:=q
       replace hp0:=(HB.out.cell (World.block_lt_of_cell? w _ hp0)).trans hp0
       replace hp1:=(HB.out.cell (World.block_lt_of_cell? w _ hp1)).trans hp1
       have hw1 : IntKind.i64.wrap ((kk : Int) - 1) = (m : Int):=by rw [IntKind.wrap_i64];omega
       have hw3 : IntKind.i64.wrap (q0 + 1) = q0 + 1:=by have:=hdep.1;have:=hdep.2;simp only at *;rw [IntKind.wrap_i64];omega
       have g0 : (0 : Int) ≤ (m : Int):=by omega
       have g1 : (m : Int) < (l1.length : Int):=by omega
       clear hp2 hp3 hrd hdep hk0 hm HA HRr HV HH
       cases hu1 : decide (q0 + 1 < y0)
       ·
        cases hu2 : decide (q0 < y0)
        ·
         rw [show okUp ⟨q0,q1,q2',q3⟩ ⟨y0,y1,y2,y3⟩ = true from (by unfold okUp;simp only [hu1,hu2];rfl),Bool.true_and] at hdf2
         cases y1 with
         | false =>
          have BV:=a0_ (show q2 = true from hdf2.trans (by first | rfl | simp))
          clear hdf2
          go_quiet (first | (go_at_call 43;(with_reducible refine (HEN.out _ (pw_below_drewN HB.out _)).mono ?_);rintro e w' ⟨rfl,⟨nd,rfl⟩⟩;exact ⟨rfl,_,World.drewN_drewN _ _ _⟩))
          go_wp2
          go_meet
          case rel=>exact ⟨by rw [BV.out];first | rfl | (simp [*];done),⟨pw_below_drewN HB.out _⟩,⟨blk_drewN BK.out _⟩⟩
         | true =>
          cases h7 : ((en : Int) == (kk : Int) + 1) <;> rw [h7] at hdf2
          ·
           have BV:=a0_ (show q2 = true from hdf2.trans (by first | rfl | simp))
           clear hdf2
           go_quiet (first | (go_at_call 43;(with_reducible refine (HEN.out _ (pw_below_drewN HB.out _)).mono ?_);rintro e w' ⟨rfl,⟨nd,rfl⟩⟩;exact ⟨rfl,_,World.drewN_drewN _ _ _⟩))
           go_wp2
           go_meet
           case rel=>exact ⟨by rw [BV.out];first | rfl | (simp [*];done),⟨pw_below_drewN HB.out _⟩,⟨blk_drewN BK.out _⟩⟩
          ·
           have BV:=a0_ (show q2 = false from hdf2.trans (by first | rfl | simp))
           clear hdf2
           go_quiet (first | (go_at_call 43;(with_reducible refine (HEN.out _ (pw_below_drewN HB.out _)).mono ?_);rintro e w' ⟨rfl,⟨nd,rfl⟩⟩;exact ⟨rfl,_,World.drewN_drewN _ _ _⟩))
           go_wp2
           go_meet
           case rel=>exact ⟨by rw [BV.out];first | rfl | (simp [*];done),⟨pw_below_drewN HB.out _⟩,⟨blk_drewN BK.out _⟩⟩
        ·
         cases q1 with
         | false =>
          rw [show okUp ⟨q0,false,q2',q3⟩ ⟨y0,y1,y2,y3⟩ = false from (by unfold okUp;simp only [hu1,hu2];rfl),Bool.false_and] at hdf2
          have BV:=a0_ (show q2 = false from hdf2.trans (by first | rfl | simp))
          clear hdf2
          go_quiet (first | (go_at_call 43;(with_reducible refine (HEN.out _ (pw_below_drewN HB.out _)).mono ?_);rintro e w' ⟨rfl,⟨nd,rfl⟩⟩;exact ⟨rfl,_,World.drewN_drewN _ _ _⟩))
          go_wp2
          go_meet
          case rel=>exact ⟨by rw [BV.out];first | rfl | (simp [*];done),⟨pw_below_drewN HB.out _⟩,⟨blk_drewN BK.out _⟩⟩
         | true =>
          rw [show okUp ⟨q0,true,q2',q3⟩ ⟨y0,y1,y2,y3⟩ = true from (by unfold okUp;simp only [hu1,hu2];rfl),Bool.true_and] at hdf2
          cases y1 with
          | false =>
           have BV:=a0_ (show q2 = true from hdf2.trans (by first | rfl | simp))
           clear hdf2
           go_quiet (first | (go_at_call 43;(with_reducible refine (HEN.out _ (pw_below_drewN HB.out _)).mono ?_);rintro e w' ⟨rfl,⟨nd,rfl⟩⟩;exact ⟨rfl,_,World.drewN_drewN _ _ _⟩))
           go_wp2
           go_meet
           case rel=>exact ⟨by rw [BV.out];first | rfl | (simp [*];done),⟨pw_below_drewN HB.out _⟩,⟨blk_drewN BK.out _⟩⟩
          | true =>
           cases h7 : ((en : Int) == (kk : Int) + 1) <;> rw [h7] at hdf2
           ·
            have BV:=a0_ (show q2 = true from hdf2.trans (by first | rfl | simp))
            clear hdf2
            go_quiet (first | (go_at_call 43;(with_reducible refine (HEN.out _ (pw_below_drewN HB.out _)).mono ?_);rintro e w' ⟨rfl,⟨nd,rfl⟩⟩;exact ⟨rfl,_,World.drewN_drewN _ _ _⟩))
            go_wp2
            go_meet
            case rel=>exact ⟨by rw [BV.out];first | rfl | (simp [*];done),⟨pw_below_drewN HB.out _⟩,⟨blk_drewN BK.out _⟩⟩
           ·
            have BV:=a0_ (show q2 = false from hdf2.trans (by first | rfl | simp))
            clear hdf2
            go_quiet (first | (go_at_call 43;(with_reducible refine (HEN.out _ (pw_below_drewN HB.out _)).mono ?_);rintro e w' ⟨rfl,⟨nd,rfl⟩⟩;exact ⟨rfl,_,World.drewN_drewN _ _ _⟩))
            go_wp2
            go_meet
            case rel=>exact ⟨by rw [BV.out];first | rfl | (simp [*];done),⟨pw_below_drewN HB.out _⟩,⟨blk_drewN BK.out _⟩⟩
       ·
        rw [show okUp ⟨q0,q1,q2',q3⟩ ⟨y0,y1,y2,y3⟩ = false from (by unfold okUp;simp only [hu1];rfl),Bool.false_and] at hdf2
        have BV:=a0_ (show q2 = false from hdf2.trans (by first | rfl | simp))
        clear hdf2
        go_quiet (first | (go_at_call 43;(with_reducible refine (HEN.out _ (pw_below_drewN HB.out _)).mono ?_);rintro e w' ⟨rfl,⟨nd,rfl⟩⟩;exact ⟨rfl,_,World.drewN_drewN _ _ _⟩))
        go_wp2
        go_meet
        case rel=>exact ⟨by rw [BV.out];first | rfl | (simp [*];done),⟨pw_below_drewN HB.out _⟩,⟨blk_drewN BK.out _⟩⟩
     case rest =>
      clear HB BK hdf2
      obtain ⟨rfl,HB,BK⟩:=hcut
      cases q2 with
      | false =>
       go_wp2
       go_ret
       refine ⟨?_,HB.out⟩
       rw [← HRr.out,vG_false hlt (by rw [B.out,HQ.out])]
       rfl
      | true =>
       go_wp2
       go_roundg (l1.length - (kk + 1))
       case measure=>omega
       case rel =>
        refine ⟨kk + 1,by omega,by omega,by go_num,⟨HB.out⟩,⟨BK.out⟩,⟨fun j hj=>?_⟩⟩
        by_cases e : j = kk
        ·subst e;rw [B.out,HQ.out]
        ·exact HA.out j (by omega)
  ·have hltz : ¬ (kk : Int) < (l1.length : Int):=by omega
   have : kk = l1.length:=by omega
   subst this
   have hps:=psG_of HA.out
   have A3:=spec_inRange_ev (l1.length : Int) 1 16
   have hvg : vG l0_0 l1 = (vT l0_0 && (decide ((1 : Int) ≤ (l1.length : Int)) && decide ((l1.length : Int) ≤ 16))):=by unfold vG;rw [hps,Bool.true_and];congr 2 <;> exact decide_eq_decide.2 (by omega)
   rw [HRr.out] at hvg
   generalize (decide ((1 : Int) ≤ (l1.length : Int)) && decide ((l1.length : Int) ≤ 16)) = b16 at A3 hvg
   have A3:=a0_ A3
   have HVG:=a0_ hvg
   clear hvg hps HRr HA HH HR
   cases hv : vT l0_0 with
   | false =>
    rw [hv] at HV HVG
    clear hv
    go_wp2_with (first | (go_at_call 44;refine (HV.out _ BW.out).mono ?_;rintro e w1 ⟨rfl,hb1⟩;replace BW:=a0_ (below_step BW.out hb1)) | (go_at_call 41;(with_reducible refine (spec_inRange.calls (l1.length : Int) 1 16 _ _ A3.out).mono ?_);rintro e w' ⟨rfl,hd'⟩;replace BW:=a0_ (below_step BW.out hd'.below)))
    go_ret
    exact ⟨by rw [HVG.out];first | rfl | (simp;done),BW.out⟩
   | true =>
    rw [hv] at HV HVG
    clear hv
    go_wp2_with (first | (go_at_call 44;refine (HV.out _ BW.out).mono ?_;rintro e w1 ⟨rfl,hb1⟩;replace BW:=a0_ (below_step BW.out hb1)) | (go_at_call 41;(with_reducible refine (spec_inRange.calls (l1.length : Int) 1 16 _ _ A3.out).mono ?_);rintro e w' ⟨rfl,hd'⟩;replace BW:=a0_ (below_step BW.out hd'.below)))
    go_ret
    exact ⟨by rw [HVG.out];first | rfl | (simp;done),BW.out⟩
end Go.Proofs.Ytjdpaholpfpiiaa.P
