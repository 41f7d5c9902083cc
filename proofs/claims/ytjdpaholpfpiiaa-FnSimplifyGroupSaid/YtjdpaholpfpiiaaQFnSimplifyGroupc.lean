/- Texts under the proof of FnSimplifyGroup: helper words, the functions' contracts and the plain laws. No condition. -/
import Derived.Test.YtjdpaholpfpiiaaQFnSimplifyGroupa
import Derived.Test.YtjdpaholpfpiiaaQFnSimplifyGroupb
namespace Go.Proofs.Ytjdpaholpfpiiaa.P
open Go.RowKit Go.Proofs.YtjdpaholpfpiiaaW.PrintWords Go.Proofs.YtjdpaholpfpiiaaW.PrintLast Go.Proofs.YtjdpaholpfpiiaaW.PrintMore
attribute [local go_sem] max2_int min2_int max_two min_two max_three min_three max_four min_four
set_option linter.unusedVariables false
set_option linter.unusedSimpArgs false
mutual
def spec_someGroup.j1 : Nat → List (S35) → List Int → Int → List (S70) → Option ((List (S70)) × (List (S35)) × Int)
 | 0,_,_,_,_=>none
 | k + 1,x5,x1000,x1001,x7000=>(spec_reader_pick.f k x1000 x1001 (x5.length : Int)).bind fun bt20=>((spec_reader_pick.f k x1000 bt20.2 24).bind fun bt22=>(if bt22.1 = 0 then ((spec_reader_one.f k x1000 bt22.2 (([(-1),6,0,1] : List Int))).bind fun bt27=>(if 0 ≤ bt20.1 then (if bt20.1 < (x5.length : Int) then (some (x7000,(x5.set (bt20.1 : Int).toNat (⟨bt27.1,(rd_T35 x5 bt20.1).f1,(rd_T35 x5 bt20.1).f2,(rd_T35 x5 bt20.1).f3⟩ : S35)),bt27.2)) else (none)) else (none))) else (if bt22.1 = 1 then ((spec_reader_one.f k x1000 bt22.2 (([(-1),8,1] : List Int))).bind fun bt33=>(if 0 ≤ bt20.1 then (if bt20.1 < (x5.length : Int) then (some (x7000,(x5.set (bt20.1 : Int).toNat (⟨(rd_T35 x5 bt20.1).f0,(rd_T35 x5 bt20.1).f1,bt33.1,(rd_T35 x5 bt20.1).f3⟩ : S35)),bt33.2)) else (none)) else (none))) else (if bt22.1 = 2 then ((spec_reader_one.f k x1000 bt22.2 (([(-1),100] : List Int))).bind fun bt39=>(if 0 ≤ bt20.1 then (if bt20.1 < (x5.length : Int) then (some (x7000,(x5.set (bt20.1 : Int).toNat (⟨(rd_T35 x5 bt20.1).f0,(rd_T35 x5 bt20.1).f1,(rd_T35 x5 bt20.1).f2,bt39.1⟩ : S35)),bt39.2)) else (none)) else (none))) else (if bt22.1 = 3 then (if 0 ≤ bt20.1 then (if bt20.1 < (x5.length : Int) then (some (x7000,(x5.set (bt20.1 : Int).toNat (⟨(rd_T35 x5 bt20.1).f0,!((rd_T35 x5 bt20.1).f1),(rd_T35 x5 bt20.1).f2,(rd_T35 x5 bt20.1).f3⟩ : S35)),bt22.2)) else (none)) else (none)) else (some (x7000,x5,bt22.2)))))))
def spec_someGroup.l0 : Nat → List (S35) → Int → List Int → Int → List (S70) → Option ((List (S70)) × (List (S35)) × Int)
 | 0,_,_,_,_,_=>none
 | k + 1,x5,x6,x1000,x1001,x7000=>if x6 < (x5.length : Int) then (if 0 ≤ x6 then (spec_someGroup.l0 k (x5.set (x6 : Int).toNat (⟨wrap64 (((rd_T35 x5 x6).f0) - 2),(rd_T35 x5 x6).f1,(rd_T35 x5 x6).f2,(rd_T35 x5 x6).f3⟩ : S35)) (wrap64 (x6 + 1)) x1000 x1001 x7000) else (none)) else (spec_someGroup.j1 k x5 x1000 x1001 x7000)
end
def spec_someGroup.f (k : Nat) (s0_0 : List Int) (s0_1 : Int) : Option ((List (S70)) × (List (S35)) × Int):=(spec_someTree.f k s0_0 s0_1).bind fun bt2=>(if (bt2.1.length : Int) = 0 then (some (bt2.1,(([(⟨0,false,0,0⟩ : S35)] : List (S35))),bt2.2)) else ((spec_goodGroup.f k s0_0 bt2.2 bt2.1 0).bind fun bt10=>(if (bt10.1.length : Int) > 16 then ((spec_goodGroup.f k s0_0 bt10.2 bt2.1 2).bind fun bt14=>(spec_someGroup.l0 k bt14.1 0 s0_0 bt14.2 bt2.1)) else (spec_someGroup.j1 k bt10.1 s0_0 bt10.2 bt2.1))))
theorem spec_someGroup.mono_l : ∀ k,(∀ y0 y1 y2 y3,LeO (spec_someGroup.j1 k y0 y1 y2 y3) (spec_someGroup.j1 (k + 1) y0 y1 y2 y3)) ∧ (∀ y0 y1 y2 y3 y4,LeO (spec_someGroup.l0 k y0 y1 y2 y3 y4) (spec_someGroup.l0 (k + 1) y0 y1 y2 y3 y4))
 | 0=>⟨fun _ _ _ _ r h=>by simp [spec_someGroup.j1] at h,fun _ _ _ _ _ r h=>by simp [spec_someGroup.l0] at h⟩
 | k + 1=>by
  obtain ⟨ih0,ih1⟩:=spec_someGroup.mono_l k
  refine ⟨?_,?_⟩
  ·intro y0 y1 y2 y3
   unfold spec_someGroup.j1
   repeat' first
   | (with_reducible exact ih0 _ _ _ _)
   | (with_reducible exact ih1 _ _ _ _ _)
   | (with_reducible exact spec_goodGroup.mono _ _ _ _ _)
   | (with_reducible exact spec_reader_one.mono _ _ _ _)
   | (with_reducible exact spec_reader_pick.mono _ _ _ _)
   | (with_reducible exact spec_someTree.mono _ _ _)
   | (with_reducible exact LeO.refl _)
   | (with_reducible exact LeO.none _)
   | (with_reducible refine LeO.ite ?_ ?_)
   | (with_reducible refine LeO.bind ?_ (fun _=>?_))
   | exact ih0 _ _ _ _
   | exact ih1 _ _ _ _ _
   | exact spec_goodGroup.mono _ _ _ _ _
   | exact spec_reader_one.mono _ _ _ _
   | exact spec_reader_pick.mono _ _ _ _
   | exact spec_someTree.mono _ _ _
   | exact LeO.none _
   | refine LeO.ite ?_ ?_
   | refine LeO.bind ?_ (fun _=>?_)
  ·intro y0 y1 y2 y3 y4
   unfold spec_someGroup.l0
   repeat' first
   | (with_reducible exact ih0 _ _ _ _)
   | (with_reducible exact ih1 _ _ _ _ _)
   | (with_reducible exact spec_goodGroup.mono _ _ _ _ _)
   | (with_reducible exact spec_reader_one.mono _ _ _ _)
   | (with_reducible exact spec_reader_pick.mono _ _ _ _)
   | (with_reducible exact spec_someTree.mono _ _ _)
   | (with_reducible exact LeO.refl _)
   | (with_reducible exact LeO.none _)
   | (with_reducible refine LeO.ite ?_ ?_)
   | (with_reducible refine LeO.bind ?_ (fun _=>?_))
   | exact ih0 _ _ _ _
   | exact ih1 _ _ _ _ _
   | exact spec_goodGroup.mono _ _ _ _ _
   | exact spec_reader_one.mono _ _ _ _
   | exact spec_reader_pick.mono _ _ _ _
   | exact spec_someTree.mono _ _ _
   | exact LeO.none _
   | refine LeO.ite ?_ ?_
   | refine LeO.bind ?_ (fun _=>?_)
theorem spec_someGroup.mono : ∀ a0 a1 k,LeO (spec_someGroup.f k a0 a1) (spec_someGroup.f (k + 1) a0 a1):=by
 intro a0 a1 k
 obtain ⟨ih0,ih1⟩:=spec_someGroup.mono_l k
 unfold spec_someGroup.f
 repeat' first
   | (with_reducible exact ih0 _ _ _ _)
   | (with_reducible exact ih1 _ _ _ _ _)
   | (with_reducible exact spec_goodGroup.mono _ _ _ _ _)
   | (with_reducible exact spec_reader_one.mono _ _ _ _)
   | (with_reducible exact spec_reader_pick.mono _ _ _ _)
   | (with_reducible exact spec_someTree.mono _ _ _)
   | (with_reducible exact LeO.refl _)
   | (with_reducible exact LeO.none _)
   | (with_reducible refine LeO.ite ?_ ?_)
   | (with_reducible refine LeO.bind ?_ (fun _=>?_))
   | exact ih0 _ _ _ _
   | exact ih1 _ _ _ _ _
   | exact spec_goodGroup.mono _ _ _ _ _
   | exact spec_reader_one.mono _ _ _ _
   | exact spec_reader_pick.mono _ _ _ _
   | exact spec_someTree.mono _ _ _
   | exact LeO.none _
   | refine LeO.ite ?_ ?_
   | refine LeO.bind ?_ (fun _=>?_)
set_option maxHeartbeats 8000000 in
set_option maxRecDepth 100000 in
theorem spec_someGroup.calls (k : Nat) (g : Nat) (s0_0 : List Int) (s0_1 : Int) (r1 : List (S70)) (r2 : List (S35)) (r3 : Int) (w0 w : World) (hI : IsS63 w0 w g s0_0 s0_1) (hB : Below w0.heap.size w0 w) (h : spec_someGroup.f k s0_0 s0_1 = some (r1,r2,r3)) :
  Calls Try.prog 20 #[.pointer (some ⟨g,0,none⟩)] w fun e w'=>∃ v0_ v1_ : Value,e = .returned (.tuple #[.agg #[v0_],v1_]) ∧ Kd.R k70 70 w' w.heap.size (fun _=>True) v0_ r1 ∧ Kd.R k35 35 w' w.heap.size (fun _=>True) v1_ r2 ∧ IsS63 w0 w' g s0_0 r3 ∧ Below w0.heap.size w0 w' ∧ KeepBut w w' g none:=by
 have hu25:=Try.underlying25
 have hu35:=Try.underlying35
 have HI0:=a0_ hI
 have HK:=a0_ (KeepBut.refl w g none)
 have HL:=a0_ hB.size
 clear hI
 have HW0:=a0_ hB.size
 have HB:=a0_ hB
 clear hB
 have H : ((spec_someTree.f k s0_0 s0_1).bind fun bt2=>(if (bt2.1.length : Int) = 0 then (some (bt2.1,(([(⟨0,false,0,0⟩ : S35)] : List (S35))),bt2.2)) else ((spec_goodGroup.f k s0_0 bt2.2 bt2.1 0).bind fun bt10=>(if (bt10.1.length : Int) > 16 then ((spec_goodGroup.f k s0_0 bt10.2 bt2.1 2).bind fun bt14=>(spec_someGroup.l0 k bt14.1 0 s0_0 bt14.2 bt2.1)) else (spec_someGroup.j1 k bt10.1 s0_0 bt10.2 bt2.1))))) = some (r1,r2,r3):=h
 clear h
 replace H:=Option.bind_eq_some_iff.mp H
 obtain ⟨⟨t2,t5⟩,A20,H⟩:=H
 try dsimp only at H
 have A2:=a0_ A20
 clear A20
 by_cases c3 : (t2.length : Int) = 0
 ·rw [if_pos c3] at H
  have c3b0 : ((t2.length : Int) == 0) = true:=beq_iff_eq.mpr c3
  have c3b1 : ((t2.length : Int) != 0) = false:=bne_eq_false_iff_eq.mpr c3
  clear c3
  obtain ⟨y7,hy7⟩ : ∃ y_ : List (S35),y_ = (([(⟨0,false,0,0⟩ : S35)] : List (S35))):=⟨_,rfl⟩
  replace H : (some (t2,y7,t5)) = some (r1,r2,r3):=by first | (rw [hy7];with_reducible exact H) | (have H2_:=(Option.bind_some _ _).symm.trans H;rw [hy7];with_reducible exact H2_) | (have H2_:=(Option.bind_some _ _).symm.trans H;with_reducible exact H2_) | with_reducible exact H | (rw [hy7];exact H) | exact H
  have Ny7:=a0_ hy7
  clear hy7
  simp only [Option.some.injEq,Prod.mk.injEq] at H
  obtain ⟨rfl,rfl,rfl⟩:=H
  go_enter Try.func20,Try.ntmps20
  go_wp2_with (first | ((with_reducible refine gate_dst (N:=2) rfl ?_);refine box_event ?hg (N:=2) ?hd (cs:=#[.slice none 0 0]) (t:=25) ?hr ?_;(case hd=>rfl);(case hg=>rfl);(case hr=>first | (go_simp;done) | (go_simp;rfl));intro gb1 hg w4 hbox hb;have n0_:=a0_ (IsS63.below is0_ hb);have n1_:=a0_ (KeepBut.trans (w:=w) hk_ (KeepBut.of_below hb g none) (.inl rfl));have n2_:=a0_ (below_step hbi0_ hb);have n3_:=a0_ (hbox);have n4_:=a0_ ((by rw [hg];exact (keep_size (w:=w) (g:=g) (row:=none) hk_) : w.heap.size ≤ gb1));have n5_:=a0_ ((Nat.le_trans HW0.out (by rw [hg];exact (keep_size (w:=w) (g:=g) (row:=none) hk_) : w.heap.size ≤ gb1) : w0.heap.size ≤ gb1));have n6_:=a0_ ((by rw [hg];exact Nat.ne_of_lt (IsS63.lt (is0_ : IsS63 w0 _ g s0_0 s0_1)) : g ≠ gb1));have n7_:=a0_ ((by rw [hg];exact Nat.ne_of_gt (IsS63.lt (is0_ : IsS63 w0 _ g s0_0 s0_1)) : gb1 ≠ g));clear HI0 HK HB;have HI0:=n0_;have HK:=n1_;have HB:=n2_;have BK1:=n3_;have GW1:=n4_;have GE1:=n5_;have NB0_1:=n6_;have NB1_0:=n7_;clear n0_ n1_ n2_ n3_ n4_ n5_ n6_ n7_;clear hb hbox hg) | ((with_reducible refine gate_callee (f:=37) rfl ?_);refine goesL_ (some 9) rfl rfl Try.func37 (by kernel_rfl) rfl #[.pointer (some ⟨g,0,none⟩)] rfl lm_ ?_;(with_reducible refine (spec_someTree.calls k g s0_0 s0_1 t2 t5 w0 _ ?side1 ?side2 A2.out).mono ?_);(case side1=>exact is0_);(case side2=>exact hbi0_);rintro e w5 ⟨v3,rfl,ho0,hi,hb,hk⟩;refine ⟨_,rfl,?_⟩;replace BK1:=kk_ hk BK1 NB1_0;have HO4:=a0_ (Kd.R_lower ho0 (keep_size (w:=w) (g:=g) (row:=none) hk_));replace HK:=a0_ (KeepBut.trans (w:=w) hk_ hk (.inl rfl));replace HI0:=a0_ (hi);replace HB:=a0_ (hb);(try clear hb);(try clear ho0)) | ((with_reducible refine gate_dst (N:=4) rfl ?_);refine box_event ?hg (N:=4) ?hd (cs:=#[.slice none 0 0]) (t:=25) ?hr ?_;(case hd=>rfl);(case hg=>rfl);(case hr=>first | (go_simp;done) | (go_simp;rfl));intro gb6 hg w6 hbox hb;have n0_:=rb_ HO4 hb;have n1_:=a0_ (IsS63.below is0_ hb);have n2_:=kb_ BK1 hb;have n3_:=a0_ (KeepBut.trans (w:=w) hk_ (KeepBut.of_below hb g none) (.inl rfl));have n4_:=a0_ (below_step hbi0_ hb);have n5_:=a0_ (hbox);have n6_:=a0_ ((by rw [hg];exact (keep_size (w:=w) (g:=g) (row:=none) hk_) : w.heap.size ≤ gb6));have n7_:=a0_ ((Nat.le_trans HW0.out (by rw [hg];exact (keep_size (w:=w) (g:=g) (row:=none) hk_) : w.heap.size ≤ gb6) : w0.heap.size ≤ gb6));have n8_:=a0_ ((by rw [hg];exact Nat.ne_of_lt (blk_lt (bb_ BK1.out)) : gb1 ≠ gb6));have n9_:=a0_ ((by rw [hg];exact Nat.ne_of_gt (blk_lt (bb_ BK1.out)) : gb6 ≠ gb1));have n10_:=a0_ ((by rw [hg];exact Nat.ne_of_lt (IsS63.lt (is0_ : IsS63 w0 _ g s0_0 t5)) : g ≠ gb6));have n11_:=a0_ ((by rw [hg];exact Nat.ne_of_gt (IsS63.lt (is0_ : IsS63 w0 _ g s0_0 t5)) : gb6 ≠ g));clear HO4 HI0;clear BK1 HK HB;have HO4:=n0_;have HI0:=n1_;have BK1:=n2_;have HK:=n3_;have HB:=n4_;have BK6:=n5_;have GW6:=n6_;have GE6:=n7_;have NB1_6:=n8_;have NB6_1:=n9_;have NB0_6:=n10_;have NB6_0:=n11_;clear n0_ n1_ n2_ n3_ n4_ n5_ n6_ n7_ n8_ n9_ n10_ n11_;clear hb hbox hg;obtain ⟨Ao7,co7,eo7⟩:=Kd.R_slice HO4.out;subst eo7;have hnb8:=NB6_1.out;have hnc8:=NB1_6.out;have hnb9:=NB6_0.out;have hnc9:=NB0_6.out;have hcz10_0 : w6.cell? ⟨gb6,0,none⟩ = some (.slice none 0 0):=(blk_cell BK6.out 0).trans rfl;have hfz10_0:=blk_frozen BK6.out 0) | ((with_reducible refine gate_dst (N:=16) rfl ?_);refine Kd.R_lit k35 _ 35 ?hg (N:=16) ?hd (xs:=([(⟨0,false,0,0⟩ : S35)] : List (S35))) (inner:=[.int .i64 0,.bool false,.int .i64 0,.int .i64 0]) (ok:=fun _=>True) (okp:=fun _=>True) ?hr ?hp (fun _ hk=>hk) trivial (Below.refl _ _) (Nat.le_refl _) (by simp) ?_;(case hd=>rfl);(case hg=>rfl);(case hr=>first | (go_simp;done) | (go_simp;rfl));(case hp=>exact (Reps.c4 (show Kd.M k35 _ _ _ (⟨0,false,0,0⟩ : S35) [.int .i64 0,.bool false,.int .i64 0,.int .i64 0] from (k35_mkM _ _ _ (⟨0,false,0,0⟩ : S35) )) (Reps.none _ _)));intro v8 w11 ho12 hb hg_ hnew_;clear hg_ hnew_;(first | rw [← Ny7.out] at ho12 | (simp only [Int.reduceToNat] at ho12;rw [← Ny7.out] at ho12));have n0_:=a0_ (Kd.R_below (by (with_reducible repeat (first | apply Kd.R_alloc | apply Kd.R_drewN | apply Kd.R_drew));exact (Kd.R_mono (Kd.R_far (p:=⟨gb6,0,none⟩) (Kd.R_types HO4.out BK6.out (by decide)) (fun _ hk=>hk.2) (.slice Ao7 t2.length co7)) (fun _ h_=>h_.1))) hb);have n1_:=a0_ (Kd.R_lower ho12 (keep_size (w:=w) (g:=g) (row:=none) hk_));have n2_:=a0_ (IsS63.below (is0_ : IsS63 w0 (w6.setCell ⟨gb6,0,none⟩ (.slice Ao7 t2.length co7)) g s0_0 t5) hb);have n3_:=kf_ BK1 NB1_6 hb;have n4_:=a0_ (blk_below (g:=gb6) (o:=.cells #[.slice Ao7 t2.length co7] 25 (0,0)) (by (with_reducible repeat (first | refine blk_drewN ?_ _ | refine blk_drew ?_ | refine blk_alloc ?_ _));refine blk_put (cs:=#[.slice none 0 0]) ?_ 0 _ rfl;(with_reducible repeat (first | refine blk_drewN ?_ _ | refine blk_drew ?_ | refine blk_alloc ?_ _));exact BK6.out) hb);have n5_:=a0_ (KeepBut.trans (w:=w) hk_ (KeepBut.of_below hb g none) (.inl rfl));have n6_:=a0_ (below_step hbi0_ hb);clear HO4 HI0;clear BK1 BK6;clear HK HB;have HO4:=n0_;have HO9:=n1_;have HI0:=n2_;have BK1:=n3_;have BK6:=n4_;have HK:=n5_;have HB:=n6_;clear n0_ n1_ n2_ n3_ n4_ n5_ n6_;clear hb ho12;have hnb13:=NB1_0.out;have hnc13:=NB0_1.out;have hcz14_0 : w11.cell? ⟨gb1,0,none⟩ = some (.slice none 0 0):=(blk_cell BK1.out 0).trans rfl;have hfz14_0:=blk_frozen BK1.out 0))
  refine bodyPost_ret (results_ct rfl _ _ gb1 25 #[.slice Ao7 t2.length co7] (0,0) _ rfl (by (with_reducible repeat (first | refine blk_drewN ?_ _ | refine blk_drew ?_ | refine blk_alloc ?_ _));refine blk_put (cs:=#[.slice none 0 0]) ?_ 0 _ rfl;(with_reducible repeat (first | refine blk_drewN ?_ _ | refine blk_drew ?_ | refine blk_alloc ?_ _));exact BK1.out) Try.underlying25 rfl (by kernel_rfl)) rfl ?_
  exact ⟨_,_,by first | rfl | (simp [errW_none,errW_some] <;> rfl) | (simp [*,errW_none,errW_some] <;> rfl),by (with_reducible repeat (first | apply Kd.R_alloc | apply Kd.R_drewN | apply Kd.R_drew));exact Kd.R_mono (Kd.R_far (p:=⟨gb1,0,none⟩) (Kd.R_types HO4.out BK1.out (by decide)) (fun _ hk=>hk.2) (.slice Ao7 t2.length co7)) (fun _ hk=>trivial),by (with_reducible repeat (first | apply Kd.R_alloc | apply Kd.R_drewN | apply Kd.R_drew));exact Kd.R_mono (Kd.R_far (p:=⟨gb1,0,none⟩) (Kd.R_types HO9.out BK1.out (by decide)) (fun _ hk=>hk.2) (.slice Ao7 t2.length co7)) (fun _ hk=>trivial),is0_,hbi0_,hk_⟩
 ·rw [if_neg c3] at H
  have c3b0 : ((t2.length : Int) == 0) = false:=beq_eq_false_iff_ne.mpr c3
  have c3b1 : ((t2.length : Int) != 0) = true:=bne_iff_ne.mpr c3
  have c3b2 : ¬ (t2 = []):=fun h_=>c3 (by rw [h_];rfl)
  replace H:=Option.bind_eq_some_iff.mp H
  obtain ⟨⟨t10,t13⟩,A150,H⟩:=H
  try dsimp only at H
  have A15:=a0_ A150
  clear A150
  have HC16:=a0_ H
  clear H
  go_enter Try.func20,Try.ntmps20
  go_upto_if 22 with (first | ((with_reducible refine gate_dst (N:=2) rfl ?_);refine box_event ?hg (N:=2) ?hd (cs:=#[.slice none 0 0]) (t:=25) ?hr ?_;(case hd=>rfl);(case hg=>rfl);(case hr=>first | (go_simp;done) | (go_simp;rfl));intro gb1 hg w17 hbox hb;have n0_:=a0_ (IsS63.below is0_ hb);have n1_:=a0_ (KeepBut.trans (w:=w) hk_ (KeepBut.of_below hb g none) (.inl rfl));have n2_:=a0_ (below_step hbi0_ hb);have n3_:=a0_ (hbox);have n4_:=a0_ ((by rw [hg];exact (keep_size (w:=w) (g:=g) (row:=none) hk_) : w.heap.size ≤ gb1));have n5_:=a0_ ((Nat.le_trans HW0.out (by rw [hg];exact (keep_size (w:=w) (g:=g) (row:=none) hk_) : w.heap.size ≤ gb1) : w0.heap.size ≤ gb1));have n6_:=a0_ ((by rw [hg];exact Nat.ne_of_lt (IsS63.lt (is0_ : IsS63 w0 _ g s0_0 s0_1)) : g ≠ gb1));have n7_:=a0_ ((by rw [hg];exact Nat.ne_of_gt (IsS63.lt (is0_ : IsS63 w0 _ g s0_0 s0_1)) : gb1 ≠ g));clear HI0 HK HB;have HI0:=n0_;have HK:=n1_;have HB:=n2_;have BK1:=n3_;have GW1:=n4_;have GE1:=n5_;have NB0_1:=n6_;have NB1_0:=n7_;clear n0_ n1_ n2_ n3_ n4_ n5_ n6_ n7_;clear hb hbox hg) | ((with_reducible refine gate_callee (f:=37) rfl ?_);refine goesL_ (some 9) rfl rfl Try.func37 (by kernel_rfl) rfl #[.pointer (some ⟨g,0,none⟩)] rfl lm_ ?_;(with_reducible refine (spec_someTree.calls k g s0_0 s0_1 t2 t5 w0 _ ?side1 ?side2 A2.out).mono ?_);(case side1=>exact is0_);(case side2=>exact hbi0_);rintro e w18 ⟨v3,rfl,ho0,hi,hb,hk⟩;refine ⟨_,rfl,?_⟩;replace BK1:=kk_ hk BK1 NB1_0;have HO4:=a0_ (Kd.R_lower ho0 (keep_size (w:=w) (g:=g) (row:=none) hk_));replace HK:=a0_ (KeepBut.trans (w:=w) hk_ hk (.inl rfl));replace HI0:=a0_ (hi);replace HB:=a0_ (hb);(try clear hb);(try clear ho0)) | ((with_reducible refine gate_dst (N:=4) rfl ?_);refine box_event ?hg (N:=4) ?hd (cs:=#[.slice none 0 0]) (t:=25) ?hr ?_;(case hd=>rfl);(case hg=>rfl);(case hr=>first | (go_simp;done) | (go_simp;rfl));intro gb6 hg w19 hbox hb;have n0_:=rb_ HO4 hb;have n1_:=a0_ (IsS63.below is0_ hb);have n2_:=kb_ BK1 hb;have n3_:=a0_ (KeepBut.trans (w:=w) hk_ (KeepBut.of_below hb g none) (.inl rfl));have n4_:=a0_ (below_step hbi0_ hb);have n5_:=a0_ (hbox);have n6_:=a0_ ((by rw [hg];exact (keep_size (w:=w) (g:=g) (row:=none) hk_) : w.heap.size ≤ gb6));have n7_:=a0_ ((Nat.le_trans HW0.out (by rw [hg];exact (keep_size (w:=w) (g:=g) (row:=none) hk_) : w.heap.size ≤ gb6) : w0.heap.size ≤ gb6));have n8_:=a0_ ((by rw [hg];exact Nat.ne_of_lt (blk_lt (bb_ BK1.out)) : gb1 ≠ gb6));have n9_:=a0_ ((by rw [hg];exact Nat.ne_of_gt (blk_lt (bb_ BK1.out)) : gb6 ≠ gb1));have n10_:=a0_ ((by rw [hg];exact Nat.ne_of_lt (IsS63.lt (is0_ : IsS63 w0 _ g s0_0 t5)) : g ≠ gb6));have n11_:=a0_ ((by rw [hg];exact Nat.ne_of_gt (IsS63.lt (is0_ : IsS63 w0 _ g s0_0 t5)) : gb6 ≠ g));clear HO4 HI0;clear BK1 HK HB;have HO4:=n0_;have HI0:=n1_;have BK1:=n2_;have HK:=n3_;have HB:=n4_;have BK6:=n5_;have GW6:=n6_;have GE6:=n7_;have NB1_6:=n8_;have NB6_1:=n9_;have NB0_6:=n10_;have NB6_0:=n11_;clear n0_ n1_ n2_ n3_ n4_ n5_ n6_ n7_ n8_ n9_ n10_ n11_;clear hb hbox hg;obtain ⟨Ao20,co20,eo20⟩:=Kd.R_slice HO4.out;subst eo20;have hnb21:=NB6_1.out;have hnc21:=NB1_6.out;have hnb22:=NB6_0.out;have hnc22:=NB0_6.out;have hcz23_0 : w19.cell? ⟨gb6,0,none⟩ = some (.slice none 0 0):=(blk_cell BK6.out 0).trans rfl;have hfz23_0:=blk_frozen BK6.out 0) | ((with_reducible refine gate_callee (f:=30) rfl ?_);refine goesL_ (some 19) rfl rfl Try.func30 (by kernel_rfl) rfl #[.pointer (some ⟨g,0,none⟩),.agg #[.slice Ao20 t2.length co20],.int .i64 0] rfl lm_ ?_;(with_reducible refine (spec_goodGroup.calls k g s0_0 t5 _ _ t2 0 t10 t13 w0 _ ?side1 ?side2 ?side3 ?side4 A15.out).mono ?_);(case side1=>exact is0_);(case side2=>exact hbi0_);(case side3=>exact Kd.C_foot_own (IsS63.apart (is0_ : IsS63 w0 _ g s0_0 t5) (by (with_reducible repeat (first | apply Kd.R_alloc | apply Kd.R_drewN | apply Kd.R_drew));exact (Kd.R_mono (Kd.R_far (p:=⟨gb6,0,none⟩) (Kd.R_types HO4.out BK6.out (by decide)) (fun _ hk=>hk.2) (.slice Ao20 t2.length co20)) (fun _ h_=>h_.1))) (by decide)) (fun _ h_=>h_.2));(case side4=>exact (Kd.R_reads' HO4.out).2.1);rintro e w24 ⟨v11,rfl,ho0,hi,hb,hk⟩;refine ⟨_,rfl,?_⟩;replace BK1:=kk_ hk BK1 NB1_0;replace HO4:=a0_ (Kd.R_mono (Kd.R_keep (IsS63.apart (is0_ : IsS63 w0 _ g s0_0 t5) (by (with_reducible repeat (first | apply Kd.R_alloc | apply Kd.R_drewN | apply Kd.R_drew));exact (Kd.R_mono (Kd.R_far (p:=⟨gb6,0,none⟩) (Kd.R_types HO4.out BK6.out (by decide)) (fun _ hk=>hk.2) (.slice Ao20 t2.length co20)) (fun _ h_=>h_.1))) (by decide)) hk (fun _ h=>h.2)) (fun _ h=>h.1));replace BK6:=a0_ (KeepBut.blk hk (g':=gb6) (o:=.cells #[.slice Ao20 t2.length co20] 25 (0,0)) (by (with_reducible repeat (first | refine blk_drewN ?_ _ | refine blk_drew ?_ | refine blk_alloc ?_ _));refine blk_put (cs:=#[.slice none 0 0]) ?_ 0 _ rfl;(with_reducible repeat (first | refine blk_drewN ?_ _ | refine blk_drew ?_ | refine blk_alloc ?_ _));exact BK6.out) NB6_0.out (by simp));have HO12:=a0_ (Kd.R_lower ho0 (keep_size (w:=w) (g:=g) (row:=none) hk_));replace HK:=a0_ (KeepBut.trans (w:=w) hk_ hk (.inl rfl));replace HI0:=a0_ (hi);replace HB:=a0_ (hb);(try clear hb);(try clear ho0);obtain ⟨Ao25,co25,eo25⟩:=Kd.R_slice HO12.out;subst eo25))
  (try simp only [Act.put,s1_,s2_,s3_])
  go_cut [5] (fun v5 wc=>∃ (kq : Nat) (x5_15 : List (S35)) (x1001_15 : Int),Aside0 (spec_someGroup.j1 kq x5_15 s0_0 x1001_15 t2 = some (r1,r2,r3)) ∧ Aside0 (kq ≤ k) ∧ Aside0 (Kd.R k35 35 wc w.heap.size (fun _=>True) v5 x5_15) ∧ Aside0 (Kd.R k70 70 wc w.heap.size (fun _=>True) (.slice Ao20 t2.length co20) t2) ∧ Aside0 (wc.heap[gb1]? = some (.cells #[(.slice none 0 0)] 25 (0,0))) ∧ Aside0 (wc.heap[gb6]? = some (.cells #[(.slice Ao20 t2.length co20)] 25 (0,0))) ∧ Aside0 (IsS63 w0 wc g s0_0 x1001_15) ∧ Aside0 (KeepBut w wc g none) ∧ Aside0 (Below w0.heap.size w0 wc))
  case first =>
   have H:=HC16.out
   clear HC16
   by_cases c26 : (t10.length : Int) > 16
   ·rw [if_pos c26] at H
    have c26b0 : decide (16 < (t10.length : Int)) = true:=decide_eq_true c26
    have c26b1 : decide (16 < t10.length) = true:=decide_eq_true (by omega)
    clear c26
    (first | rw [c26b0] | (simp only [i64_w,i32_w];rw [c26b0]) | skip)
    replace H:=Option.bind_eq_some_iff.mp H
    obtain ⟨⟨t14,t17⟩,A270,H⟩:=H
    replace H : (spec_someGroup.l0 k t14 0 s0_0 t17 t2) = some (r1,r2,r3):=H
    have A27:=a0_ A270
    clear A270
    have H':=a0_ H
    clear H
    have hnb28:=NB6_1.out
    have hnc28:=NB1_6.out
    have hnb29:=NB6_0.out
    have hnc29:=NB0_6.out
    have hcz30_0 : w24.cell? ⟨gb6,0,none⟩ = some (.slice Ao20 t2.length co20):=(blk_cell BK6.out 0).trans rfl
    have hfz30_0:=blk_frozen BK6.out 0
    go_wp2_with (first | ((with_reducible refine gate_callee (f:=30) rfl ?_);refine goesL_ (some 25) rfl rfl Try.func30 (by kernel_rfl) rfl #[.pointer (some ⟨g,0,none⟩),.agg #[.slice Ao20 t2.length co20],.int .i64 2] rfl lm_ ?_;(with_reducible refine (spec_goodGroup.calls k g s0_0 t13 _ _ t2 2 t14 t17 w0 _ ?side1 ?side2 ?side3 ?side4 A27.out).mono ?_);(case side1=>exact is0_);(case side2=>exact hbi0_);(case side3=>exact Kd.C_foot_own (IsS63.apart (is0_ : IsS63 w0 _ g s0_0 t13) (rr_ HO4.out) (by decide)) (fun _ h_=>h_.2));(case side4=>exact (Kd.R_reads' HO4.out).2.1);rintro e w31 ⟨v15,rfl,ho0,hi,hb,hk⟩;refine ⟨_,rfl,?_⟩;have n0_:=kk_ hk BK1 NB1_0;have n1_:=a0_ (Kd.R_mono (Kd.R_keep (IsS63.apart (is0_ : IsS63 w0 _ g s0_0 t13) (rr_ HO4.out) (by decide)) hk (fun _ h=>h.2)) (fun _ h=>h.1));have n2_:=kk_ hk BK6 NB6_0;have n3_:=a0_ (Kd.R_mono (Kd.R_told (Kd.R_oldK (IsS63.apart (is0_ : IsS63 w0 _ g s0_0 t13) (rr_ HO12.out) (by decide)) hk) (Kd.R_base ho0)) (fun _ h_=>h_.1));have n4_:=a0_ (Kd.R_lower (Kd.R_new' ho0 (Kd.R_lt (rr_ HO12.out))) (keep_size (w:=w) (g:=g) (row:=none) hk_));have n5_:=a0_ (KeepBut.trans (w:=w) hk_ hk (.inl rfl));have n6_:=a0_ (hb);have n7_:=a0_ (hi);clear BK1 HO4;clear BK6 HO12;clear HK HB HI0;have BK1:=n0_;have HO4:=n1_;have BK6:=n2_;have HO12:=n3_;have HO16:=n4_;have HK:=n5_;have HB:=n6_;have HI0:=n7_;clear n0_ n1_ n2_ n3_ n4_ n5_ n6_ n7_;(try clear hb);(try clear ho0)))
    go_loopg [6] k (fun kq v6 w'=>∃ (x5_1 : List (S35)) (x6_1 : Int),v6 = .int .i64 x6_1 ∧ Aside0 (spec_someGroup.l0 kq x5_1 x6_1 s0_0 t17 t2 = some (r1,r2,r3)) ∧ Aside0 (kq ≤ k) ∧ Aside0 (Kd.R k35 35 w' w.heap.size (fun _=>True) v15 x5_1) ∧ Aside0 (Kd.R k70 70 w' w.heap.size (fun _=>True) (.slice Ao20 t2.length co20) t2) ∧ Aside0 (w'.heap[gb1]? = some (.cells #[(.slice none 0 0)] 25 (0,0))) ∧ Aside0 (w'.heap[gb6]? = some (.cells #[(.slice Ao20 t2.length co20)] 25 (0,0))) ∧ Aside0 (IsS63 w0 w' g s0_0 t17) ∧ Aside0 (KeepBut w w' g none) ∧ Aside0 (Below w0.heap.size w0 w'))
    case atStart=>exact ⟨(t14),(0),(by first | rfl | (simp;done) | (simp [*];done)),H',⟨Nat.le_refl _⟩,⟨by (with_reducible repeat (first | apply Kd.R_alloc | apply Kd.R_drewN | apply Kd.R_drew));exact Kd.R_mono HO16.out (fun _ hk=>trivial)⟩,⟨by (with_reducible repeat (first | apply Kd.R_alloc | apply Kd.R_drewN | apply Kd.R_drew));exact HO4.out⟩,⟨by (with_reducible repeat (first | refine blk_drewN ?_ _ | refine blk_drew ?_ | refine blk_alloc ?_ _));exact BK1.out⟩,⟨by (with_reducible repeat (first | refine blk_drewN ?_ _ | refine blk_drew ?_ | refine blk_alloc ?_ _));exact BK6.out⟩,⟨is0_⟩,⟨hk_⟩,⟨hbi0_⟩⟩
    case round =>
     clear H'
     try clear c1
     try clear c2
     try clear p2
     try clear c3
     try clear c3b0
     try clear c3b1
     try clear c3b2
     try clear c4
     try clear c8
     try clear c9
     try clear c13
     try clear c20
     try clear c21
     try clear c22
     try clear c26
     try clear c26b0
     try clear c26b1
     try clear c28
     try clear c29
     try clear c30
     try clear hcz10_0
     try clear hcz14_0
     try clear hcz23_0
     try clear hcz30_0
     try clear hfz10_0
     try clear hfz14_0
     try clear hfz23_0
     try clear hfz30_0
     obtain ⟨x5_1,x6_1,rfl,HA,HK1,HO_5,Z7,BK1,BK6,HI0,HK,HB⟩:=hrel
     cases gk with
     | zero=>exact absurd HA.out (by simp [spec_someGroup.l0])
     | succ k1 =>
      have H:=HA.out
      clear HA
      simp only [spec_someGroup.l0] at H
      by_cases c32 : x6_1 < (x5_1.length : Int)
      ·rw [if_pos c32] at H
       have c32b0 : decide (x6_1 < (x5_1.length : Int)) = true:=decide_eq_true c32
       clear c32
       by_cases c33 : 0 ≤ x6_1
       ·rw [if_pos c33] at H
        have c33b0 : decide (0 ≤ x6_1) = true:=decide_eq_true c33
        clear c33
        obtain ⟨y19,hy19⟩ : ∃ y_ : List (S35),y_ = (x5_1.set (x6_1 : Int).toNat (⟨wrap64 (((rd_T35 x5_1 x6_1).f0) - 2),(rd_T35 x5_1 x6_1).f1,(rd_T35 x5_1 x6_1).f2,(rd_T35 x5_1 x6_1).f3⟩ : S35)):=⟨_,rfl⟩
        replace H : (spec_someGroup.l0 k1 y19 (wrap64 (x6_1 + 1)) s0_0 t17 t2) = some (r1,r2,r3):=by first | (rw [hy19];with_reducible exact H) | (have H2_:=(Option.bind_some _ _).symm.trans H;rw [hy19];with_reducible exact H2_) | (have H2_:=(Option.bind_some _ _).symm.trans H;with_reducible exact H2_) | with_reducible exact H | (rw [hy19];exact H) | exact H
        have Ny19:=a0_ hy19
        clear hy19
        have H':=a0_ H
        clear H
        obtain ⟨Ao35,co35,eo35⟩:=Kd.R_slice HO_5.out
        subst eo35
        have p18 : 0 ≤ (x6_1 : Int):=of_decide_eq_true (by first | (with_reducible assumption) | assumption)
        have q18 : x6_1 < (x5_1.length : Int):=of_decide_eq_true (by first | (with_reducible assumption) | assumption)
        obtain ⟨ad18,e18,hx18_0,hx18_1,hx18_2,hx18_3⟩:=at_T35 (Kd.R_reads' HO_5.out).2.2 x6_1 p18 q18
        cases e18
        replace p18:=eq_true p18
        replace q18:=eq_true q18
        have p34 : 0 ≤ (x6_1 : Int):=of_decide_eq_true (by first | (with_reducible assumption) | assumption)
        have q34 : (x6_1 : Int) < ((x5_1.length : Int) : Int):=of_decide_eq_true (by first | (with_reducible assumption) | assumption)
        obtain ⟨go34,co34,eo34,gb34,gl34,cl34,HG34⟩:=Kd.R_form HO_5.out (by omega)
        (first | cases eo34 | (injection eo34 with ea_ en_ ec_;(first | subst ea_ | (injection ea_ with ea_;subst ea_));subst ec_;clear en_))
        have GB34:=a0_ gb34
        have GG34:=a0_ HG34
        clear gb34 gl34 HG34
        (first | simp only [add_plain] at hx18_0 | skip)
        (first | simp only [add_plain] at hx18_1 | skip)
        (first | simp only [add_plain] at hx18_2 | skip)
        (first | simp only [add_plain] at hx18_3 | skip)
        obtain ⟨ce34,hcl34,hM34,hcc34,hfr34⟩:=Kd.R_elem HO_5.out z35 (x6_1 : Int) p34 q34
        obtain rfl:=k35_openM hM34
        have hx34_0 : wr.cell? ⟨go34,(x6_1 : Int).toNat * 4,none⟩ = some (.int .i64 ((rd_T35 x5_1 x6_1).f0)):=hcc34 0 _ rfl
        have hx34_1 : wr.cell? ⟨go34,(x6_1 : Int).toNat * 4 + 1,none⟩ = some (.bool ((rd_T35 x5_1 x6_1).f1)):=hcc34 1 _ rfl
        have hx34_2 : wr.cell? ⟨go34,(x6_1 : Int).toNat * 4 + 2,none⟩ = some (.int .i64 ((rd_T35 x5_1 x6_1).f2)):=hcc34 2 _ rfl
        have hx34_3 : wr.cell? ⟨go34,(x6_1 : Int).toNat * 4 + 3,none⟩ = some (.int .i64 ((rd_T35 x5_1 x6_1).f3)):=hcc34 3 _ rfl
        have hf34_0 : wr.frozen? ⟨go34,(x6_1 : Int).toNat * 4,none⟩ = false:=hfr34 0
        have hf34_1 : wr.frozen? ⟨go34,(x6_1 : Int).toNat * 4 + 1,none⟩ = false:=hfr34 1
        have hf34_2 : wr.frozen? ⟨go34,(x6_1 : Int).toNat * 4 + 2,none⟩ = false:=hfr34 2
        have hf34_3 : wr.frozen? ⟨go34,(x6_1 : Int).toNat * 4 + 3,none⟩ = false:=hfr34 3
        clear hcl34 hcc34 hfr34 hM34
        replace p34:=eq_true p34
        replace q34:=eq_true q34
        have HX36:=a0_ (show Kd.R k35 35 wr w.heap.size (fun _=>True) (.slice (some ⟨go34,0,none⟩) x5_1.length co35) x5_1 from (rr_ HO_5.out))
        obtain ⟨ce36,hcl36,hM36,hcc36,hfr36⟩:=Kd.R_elem HX36.out z35 (x6_1 : Int) (of_decide_eq_true (by first | (with_reducible assumption) | assumption)) (by have h_ : (x6_1 : Int) < ((x5_1.length : Int) : Int):=of_decide_eq_true (by first | (with_reducible assumption) | assumption);first | exact h_ | (have e_:=(Kd.R_reads' HO_5.out).1;omega) | simpa using h_)
        obtain rfl:=k35_openM hM36
        have HP36:=Kd.R_seg HX36.out (x6_1 : Int) (of_decide_eq_true (by first | (with_reducible assumption) | assumption)) (by have h_ : (x6_1 : Int) < ((x5_1.length : Int) : Int):=of_decide_eq_true (by first | (with_reducible assumption) | assumption);first | exact h_ | (have e_:=(Kd.R_reads' HO_5.out).1;omega) | simpa using h_) (seg:=[.int .i64 (wrap64 (((rd_T35 x5_1 x6_1).f0) - 2))]) (j:=0) hcl36 hcc36 (show 1 ≤ 4 from by decide) (x':=(⟨wrap64 (((rd_T35 x5_1 x6_1).f0) - 2),(rd_T35 x5_1 x6_1).f1,(rd_T35 x5_1 x6_1).f2,(rd_T35 x5_1 x6_1).f3⟩ : S35)) (k35_mkM _ _ _ (⟨wrap64 (((rd_T35 x5_1 x6_1).f0) - 2),(rd_T35 x5_1 x6_1).f1,(rd_T35 x5_1 x6_1).f2,(rd_T35 x5_1 x6_1).f3⟩ : S35) ) (fun _ hk=>hk)
        have hx36_0:=hcc36 0 _ rfl
        (try simp only [show (k35).sz = 4 from rfl,Nat.mul_one,Nat.add_zero] at hx36_0)
        have hf36_0:=hfr36 0
        (try simp only [show (k35).sz = 4 from rfl,Nat.mul_one,Nat.add_zero] at hf36_0)
        clear hcl36 hcc36 hfr36 hM36
        go_wp2_with (first | ((with_reducible refine gate_store (t:=3) (p:=41) rfl ?_);refine store_event (t:=3) (p:=41) (v:=?vo_w37) (w1:=(wr.setCell ⟨go34,(x6_1 : Int).toNat * 4,none⟩ (.int .i64 (wrap64 (((rd_T35 x5_1 x6_1).f0) - 2))))) ?hg ?ho ?hn ?hr ?_;(case ho=>rfl);(case hg=>rfl);(case hn=>rfl);(case hr=>first | (go_simp;done) | (go_simp;rfl));intro w37 hw;have hg : wr.grownBy w37 (some go34):=(by rw [hw];exact HP36.2);have hp_ : Kd.R k35 35 w37 w.heap.size (fun _=>True) (.slice (some ⟨go34,0,none⟩) x5_1.length co35) y19:=(by rw [hw,Ny19.out];exact HP36.1);clear HP36;have n0_:=a0_ (hp_);have n1_:=a0_ (Kd.R_over' (v:=(.slice (some ⟨go34,0,none⟩) x5_1.length co35)) (rr_ Z7.out) (Kd.R_typed HO_5.out) (by decide) hg);have n2_:=a0_ (blk_grown (bb_ BK1.out) hg (Kd.R_ne HO_5.out BK1.out (by decide)));have n3_:=a0_ (blk_grown (bb_ BK6.out) hg (Kd.R_ne HO_5.out BK6.out (by decide)));have n4_:=a0_ (IsS63.grown is0_ hg (IsS63.own_ne HI0.out HO_5.out (by decide)));have n5_:=a0_ ((by rw [hw];exact below_set (HB.out) (Nat.le_trans HL.out GB34.out) : Below w0.heap.size w0 w37));have n6_:=a0_ (KeepBut.trans (w:=w) hk_ (KeepBut.of_grown hg g) (Kd.R_base2 HO_5.out));clear HO_5 Z7;clear BK1 BK6;clear HI0 HB HK;have HO_5:=n0_;have Z7:=n1_;have BK1:=n2_;have BK6:=n3_;have HI0:=n4_;have HB:=n5_;have HK:=n6_;clear n0_ n1_ n2_ n3_ n4_ n5_ n6_;clear hg hw hp_))
        go_roundg k1
        case measure=>have:=HK1.out;omega
        case rel=>exact ⟨(y19),(wrap64 (x6_1 + 1)),(by first | rfl | (simp;done) | (simp [*];done)),H',⟨by have:=HK1.out;omega⟩,⟨by (with_reducible repeat (first | apply Kd.R_alloc | apply Kd.R_drewN | apply Kd.R_drew));exact HO_5.out⟩,⟨by (with_reducible repeat (first | apply Kd.R_alloc | apply Kd.R_drewN | apply Kd.R_drew));exact Z7.out⟩,⟨by (with_reducible repeat (first | refine blk_drewN ?_ _ | refine blk_drew ?_ | refine blk_alloc ?_ _));exact BK1.out⟩,⟨by (with_reducible repeat (first | refine blk_drewN ?_ _ | refine blk_drew ?_ | refine blk_alloc ?_ _));exact BK6.out⟩,⟨is0_⟩,⟨hk_⟩,⟨hbi0_⟩⟩
       ·rw [if_neg c33] at H
        exact absurd H (by simp)
      ·rw [if_neg c32] at H
       have c32b0 : decide (x6_1 < (x5_1.length : Int)) = false:=decide_eq_false c32
       clear c32
       have H':=a0_ H
       clear H
       obtain ⟨Ao38,co38,eo38⟩:=Kd.R_slice HO_5.out
       subst eo38
       go_wp2
       go_meet
       case rel=>exact ⟨_,(x5_1),(t17),H',⟨by have:=HK1.out;first | omega | exact Nat.le_refl _⟩,⟨by (with_reducible repeat (first | apply Kd.R_alloc | apply Kd.R_drewN | apply Kd.R_drew));exact HO_5.out⟩,⟨by (with_reducible repeat (first | apply Kd.R_alloc | apply Kd.R_drewN | apply Kd.R_drew));exact Z7.out⟩,⟨by (with_reducible repeat (first | refine blk_drewN ?_ _ | refine blk_drew ?_ | refine blk_alloc ?_ _));exact BK1.out⟩,⟨by (with_reducible repeat (first | refine blk_drewN ?_ _ | refine blk_drew ?_ | refine blk_alloc ?_ _));exact BK6.out⟩,⟨is0_⟩,⟨hk_⟩,⟨hbi0_⟩⟩
   ·rw [if_neg c26] at H
    have c26b0 : decide (16 < (t10.length : Int)) = false:=decide_eq_false c26
    have c26b1 : decide (16 < t10.length) = false:=decide_eq_false (by omega)
    clear c26
    (first | rw [c26b0] | (simp only [i64_w,i32_w];rw [c26b0]) | skip)
    have H':=a0_ H
    clear H
    go_wp2
    go_meet
    case rel=>exact ⟨_,(t10),(t13),H',⟨by first | omega | exact Nat.le_refl _⟩,⟨by (with_reducible repeat (first | apply Kd.R_alloc | apply Kd.R_drewN | apply Kd.R_drew));exact HO12.out⟩,⟨by (with_reducible repeat (first | apply Kd.R_alloc | apply Kd.R_drewN | apply Kd.R_drew));exact HO4.out⟩,⟨by (with_reducible repeat (first | refine blk_drewN ?_ _ | refine blk_drew ?_ | refine blk_alloc ?_ _));exact BK1.out⟩,⟨by (with_reducible repeat (first | refine blk_drewN ?_ _ | refine blk_drew ?_ | refine blk_alloc ?_ _));exact BK6.out⟩,⟨is0_⟩,⟨hk_⟩,⟨hbi0_⟩⟩
  case rest =>
   clear HC16
   try clear c1
   try clear p1
   try clear q1
   try clear hx1
   try clear c2
   try clear p2
   try clear c3
   try clear c3b0
   try clear c3b1
   try clear c3b2
   try clear p3
   try clear q3
   try clear hx3
   try clear hf3
   try clear c4
   try clear p6
   try clear c8
   try clear c9
   try clear c13
   try clear p18
   try clear q18
   try clear hx18
   try clear c20
   try clear c21
   try clear c22
   try clear c26
   try clear c26b0
   try clear c26b1
   try clear c28
   try clear c29
   try clear c30
   try clear c32
   try clear c32b0
   try clear c33
   try clear c33b0
   try clear c34
   try clear p34
   try clear q34
   try clear hx34
   try clear hf34
   try clear c36
   try clear hx36
   try clear hf36
   try clear c37
   try clear hcz10_0
   try clear hcz14_0
   try clear hcz23_0
   try clear hcz30_0
   try clear hfz10_0
   try clear hfz14_0
   try clear hfz23_0
   try clear hfz30_0
   try clear hx18_0
   try clear hx18_1
   try clear hx18_2
   try clear hx18_3
   try clear hx34_0
   try clear hx34_1
   try clear hx34_2
   try clear hx34_3
   try clear hx36_0
   try clear p18
   try clear p2
   try clear p34
   try clear q18
   try clear q34
   obtain ⟨kq,x5_15,x1001_15,HA,HJ15,HO_5,Z7,BK1,BK6,HI0,HK,HB⟩:=hcut
   cases kq with
   | zero=>exact absurd HA.out (by simp [spec_someGroup.j1])
   | succ kj15 =>
    have H:=HA.out
    clear HA
    simp only [spec_someGroup.j1] at H
    replace H:=Option.bind_eq_some_iff.mp H
    obtain ⟨⟨t20,t21⟩,A390,H⟩:=H
    try dsimp only at H
    have A39:=a0_ A390
    clear A390
    replace H:=Option.bind_eq_some_iff.mp H
    obtain ⟨⟨t22,t23⟩,A400,H⟩:=H
    try dsimp only at H
    have A40:=a0_ A400
    clear A400
    by_cases c41 : t22 = 0
    ·rw [if_pos c41] at H
     have c41b0 : (t22 == 0) = true:=beq_iff_eq.mpr c41
     have c41b1 : (t22 != 0) = false:=bne_eq_false_iff_eq.mpr c41
     clear c41
     obtain ⟨y24,hy24⟩ : ∃ y_ : List Int,y_ = (([(-1),6,0,1] : List Int)):=⟨_,rfl⟩
     replace H : ((spec_reader_one.f kj15 s0_0 t23 y24).bind fun bt27=>(if 0 ≤ t20 then (if t20 < (x5_15.length : Int) then (some (t2,(x5_15.set (t20 : Int).toNat (⟨bt27.1,(rd_T35 x5_15 t20).f1,(rd_T35 x5_15 t20).f2,(rd_T35 x5_15 t20).f3⟩ : S35)),bt27.2)) else (none)) else (none))) = some (r1,r2,r3):=by first | (rw [hy24];with_reducible exact H) | (have H2_:=(Option.bind_some _ _).symm.trans H;rw [hy24];with_reducible exact H2_) | (have H2_:=(Option.bind_some _ _).symm.trans H;with_reducible exact H2_) | with_reducible exact H | (rw [hy24];exact H) | exact H
     have Ny24:=a0_ hy24
     clear hy24
     replace H:=Option.bind_eq_some_iff.mp H
     obtain ⟨⟨t27,t28⟩,A420,H⟩:=H
     try dsimp only at H
     have A42:=a0_ A420
     clear A420
     by_cases c43 : 0 ≤ t20
     ·rw [if_pos c43] at H
      have c43b0 : decide (0 ≤ t20) = true:=decide_eq_true c43
      clear c43
      by_cases c44 : t20 < (x5_15.length : Int)
      ·rw [if_pos c44] at H
       have c44b0 : decide (t20 < (x5_15.length : Int)) = true:=decide_eq_true c44
       clear c44
       obtain ⟨y29,hy29⟩ : ∃ y_ : List (S35),y_ = (x5_15.set (t20 : Int).toNat (⟨t27,(rd_T35 x5_15 t20).f1,(rd_T35 x5_15 t20).f2,(rd_T35 x5_15 t20).f3⟩ : S35)):=⟨_,rfl⟩
       replace H : (some (t2,y29,t28)) = some (r1,r2,r3):=by first | (rw [hy29];with_reducible exact H) | (have H2_:=(Option.bind_some _ _).symm.trans H;rw [hy29];with_reducible exact H2_) | (have H2_:=(Option.bind_some _ _).symm.trans H;with_reducible exact H2_) | with_reducible exact H | (rw [hy29];exact H) | exact H
       have Ny29:=a0_ hy29
       clear hy29
       simp only [Option.some.injEq,Prod.mk.injEq] at H
       obtain ⟨rfl,rfl,rfl⟩:=H
       obtain ⟨Ao46,co46,eo46⟩:=Kd.R_slice HO_5.out
       subst eo46
       go_wp2_with (first | ((with_reducible refine gate_callee (f:=28) rfl ?_);refine goesL_ (some 45) rfl rfl Try.func28 (by kernel_rfl) rfl #[.pointer (some ⟨g,0,none⟩),.int .i64 (x5_15.length : Int)] rfl lm_ ?_;(with_reducible refine (spec_reader_pick.calls kj15 g s0_0 x1001_15 (x5_15.length : Int) t20 t21 w0 _ ?side1 ?side2 A39.out).mono ?_);(case side1=>exact is0_);(case side2=>exact hbi0_);rintro e w47 ⟨rfl,hi,hb,hk⟩;refine ⟨_,rfl,?_⟩;replace HO_5:=a0_ (Kd.R_mono (Kd.R_keep (IsS63.apart (is0_ : IsS63 w0 _ g s0_0 x1001_15) (rr_ HO_5.out) (by decide)) hk (fun _ h=>h.2)) (fun _ h=>h.1));replace Z7:=a0_ (Kd.R_mono (Kd.R_keep (IsS63.apart (is0_ : IsS63 w0 _ g s0_0 x1001_15) (rr_ Z7.out) (by decide)) hk (fun _ h=>h.2)) (fun _ h=>h.1));replace BK1:=kk_ hk BK1 NB1_0;replace BK6:=kk_ hk BK6 NB6_0;replace HK:=a0_ (KeepBut.trans (w:=w) hk_ hk (.inl rfl));replace HI0:=a0_ (hi);replace HB:=a0_ (hb);(try clear hb);(try clear hb2);(try clear hk);(try clear hi)) | ((with_reducible refine gate_callee (f:=28) rfl ?_);refine goesL_ (some 47) rfl rfl Try.func28 (by kernel_rfl) rfl #[.pointer (some ⟨g,0,none⟩),.int .i64 24] rfl lm_ ?_;(with_reducible refine (spec_reader_pick.calls kj15 g s0_0 t21 24 t22 t23 w0 _ ?side1 ?side2 A40.out).mono ?_);(case side1=>exact is0_);(case side2=>exact hbi0_);rintro e w48 ⟨rfl,hi,hb,hk⟩;refine ⟨_,rfl,?_⟩;replace HO_5:=a0_ (Kd.R_mono (Kd.R_keep (IsS63.apart (is0_ : IsS63 w0 _ g s0_0 t21) (rr_ HO_5.out) (by decide)) hk (fun _ h=>h.2)) (fun _ h=>h.1));replace Z7:=a0_ (Kd.R_mono (Kd.R_keep (IsS63.apart (is0_ : IsS63 w0 _ g s0_0 t21) (rr_ Z7.out) (by decide)) hk (fun _ h=>h.2)) (fun _ h=>h.1));replace BK1:=kk_ hk BK1 NB1_0;replace BK6:=kk_ hk BK6 NB6_0;replace HK:=a0_ (KeepBut.trans (w:=w) hk_ hk (.inl rfl));replace HI0:=a0_ (hi);replace HB:=a0_ (hb);(try clear hb);(try clear hb2);(try clear hk);(try clear hi)) | ((with_reducible refine gate_dst (N:=53) rfl ?_);refine Kd.R_lit (Kd.int .i64) _ 3 ?hg (N:=53) ?hd (xs:=([(-1),6,0,1] : List Int)) (inner:=[.int .i64 (-1),.int .i64 6,.int .i64 0,.int .i64 1]) (ok:=fun _=>True) (okp:=fun _=>True) ?hr ?hp (fun _ hk=>hk) trivial (Below.refl _ _) (Nat.le_refl _) (by simp) ?_;(case hd=>rfl);(case hg=>rfl);(case hr=>first | (go_simp;done) | (go_simp;rfl));(case hp=>exact (Reps.one (show Kd.M (Kd.int .i64) _ _ _ (-1) [.int .i64 (-1)] from rfl) (Reps.one (show Kd.M (Kd.int .i64) _ _ _ 6 [.int .i64 6] from rfl) (Reps.one (show Kd.M (Kd.int .i64) _ _ _ 0 [.int .i64 0] from rfl) (Reps.one (show Kd.M (Kd.int .i64) _ _ _ 1 [.int .i64 1] from rfl) (Reps.none _ _))))));intro v25 w49 ho50 hb hg_ hnew_;clear hg_ hnew_;(first | rw [← Ny24.out] at ho50 | (simp only [Int.reduceToNat] at ho50;rw [← Ny24.out] at ho50));have n0_:=rb_ HO_5 hb;have n1_:=rb_ Z7 hb;have n2_:=a0_ (Kd.R_lower ho50 (keep_size (w:=w) (g:=g) (row:=none) hk_));have n3_:=kb_ BK1 hb;have n4_:=kb_ BK6 hb;have n5_:=a0_ (IsS63.below is0_ hb);have n6_:=a0_ (KeepBut.trans (w:=w) hk_ (KeepBut.of_below hb g none) (.inl rfl));have n7_:=a0_ (below_step hbi0_ hb);clear HO_5 Z7;clear BK1 BK6;clear HI0 HK HB;have HO_5:=n0_;have Z7:=n1_;have HO26:=n2_;have BK1:=n3_;have BK6:=n4_;have HI0:=n5_;have HK:=n6_;have HB:=n7_;clear n0_ n1_ n2_ n3_ n4_ n5_ n6_ n7_;clear hb ho50;obtain ⟨Ao51,co51,eo51⟩:=Kd.R_slice HO26.out;subst eo51) | ((with_reducible refine gate_callee (f:=31) rfl ?_);refine goesL_ (some 54) rfl rfl Try.func31 (by kernel_rfl) rfl #[.pointer (some ⟨g,0,none⟩),.slice Ao51 y24.length co51] rfl lm_ ?_;(with_reducible refine (spec_reader_one.calls kj15 g s0_0 t23 _ _ y24 t27 t28 w0 _ ?side1 ?side2 ?side3 ?side4 ?side5 A42.out).mono ?_);(case side1=>exact is0_);(case side2=>exact hbi0_);(case side3=>exact cc_ (Kd.R_reads' HO26.out).2.2);(case side4=>exact (Kd.R_reads' HO26.out).2.1);(case side5=>exact far_slice (IsS63.own_ne HI0.out HO26.out (by decide)));rintro e w52 ⟨rfl,hi,hb,hk⟩;refine ⟨_,rfl,?_⟩;replace HO_5:=a0_ (Kd.R_mono (Kd.R_keep (IsS63.apart (is0_ : IsS63 w0 _ g s0_0 t23) (rr_ HO_5.out) (by decide)) hk (fun _ h=>h.2)) (fun _ h=>h.1));replace Z7:=a0_ (Kd.R_mono (Kd.R_keep (IsS63.apart (is0_ : IsS63 w0 _ g s0_0 t23) (rr_ Z7.out) (by decide)) hk (fun _ h=>h.2)) (fun _ h=>h.1));replace BK1:=kk_ hk BK1 NB1_0;replace BK6:=kk_ hk BK6 NB6_0;replace HO26:=a0_ (Kd.R_mono (Kd.R_keep (IsS63.apart (is0_ : IsS63 w0 _ g s0_0 t23) (rr_ HO26.out) (by decide)) hk (fun _ h=>h.2)) (fun _ h=>h.1));replace HK:=a0_ (KeepBut.trans (w:=w) hk_ hk (.inl rfl));replace HI0:=a0_ (hi);replace HB:=a0_ (hb);(try clear hb);have p45 : 0 ≤ (t20 : Int):=of_decide_eq_true (by first | (with_reducible assumption) | assumption);have q45 : (t20 : Int) < ((x5_15.length : Int) : Int):=of_decide_eq_true (by first | (with_reducible assumption) | assumption);obtain ⟨go45,co45,eo45,gb45,gl45,cl45,HG45⟩:=Kd.R_form HO_5.out (by omega);(first | cases eo45 | (injection eo45 with ea_ en_ ec_;(first | subst ea_ | (injection ea_ with ea_;subst ea_));subst ec_;clear en_));have GB45:=a0_ gb45;have GG45:=a0_ HG45;clear gb45 gl45 HG45;obtain ⟨ce45,hcl45,hM45,hcc45,hfr45⟩:=Kd.R_elem HO_5.out z35 (t20 : Int) p45 q45;obtain rfl:=k35_openM hM45;have hx45_0 : w52.cell? ⟨go45,(t20 : Int).toNat * 4,none⟩ = some (.int .i64 ((rd_T35 x5_15 t20).f0)):=hcc45 0 _ rfl;have hx45_1 : w52.cell? ⟨go45,(t20 : Int).toNat * 4 + 1,none⟩ = some (.bool ((rd_T35 x5_15 t20).f1)):=hcc45 1 _ rfl;have hx45_2 : w52.cell? ⟨go45,(t20 : Int).toNat * 4 + 2,none⟩ = some (.int .i64 ((rd_T35 x5_15 t20).f2)):=hcc45 2 _ rfl;have hx45_3 : w52.cell? ⟨go45,(t20 : Int).toNat * 4 + 3,none⟩ = some (.int .i64 ((rd_T35 x5_15 t20).f3)):=hcc45 3 _ rfl;have hf45_0 : w52.frozen? ⟨go45,(t20 : Int).toNat * 4,none⟩ = false:=hfr45 0;have hf45_1 : w52.frozen? ⟨go45,(t20 : Int).toNat * 4 + 1,none⟩ = false:=hfr45 1;have hf45_2 : w52.frozen? ⟨go45,(t20 : Int).toNat * 4 + 2,none⟩ = false:=hfr45 2;have hf45_3 : w52.frozen? ⟨go45,(t20 : Int).toNat * 4 + 3,none⟩ = false:=hfr45 3;clear hcl45 hcc45 hfr45 hM45;replace p45:=eq_true p45;replace q45:=eq_true q45;have HX53:=a0_ (show Kd.R k35 35 w52 w.heap.size (fun _=>True) (.slice (some ⟨go45,0,none⟩) x5_15.length co46) x5_15 from (rr_ HO_5.out));obtain ⟨ce53,hcl53,hM53,hcc53,hfr53⟩:=Kd.R_elem HX53.out z35 (t20 : Int) (of_decide_eq_true (by first | (with_reducible assumption) | assumption)) (by have h_ : (t20 : Int) < ((x5_15.length : Int) : Int):=of_decide_eq_true (by first | (with_reducible assumption) | assumption);first | exact h_ | (have e_:=(Kd.R_reads' HO_5.out).1;omega) | simpa using h_);obtain rfl:=k35_openM hM53;have HP53:=Kd.R_seg HX53.out (t20 : Int) (of_decide_eq_true (by first | (with_reducible assumption) | assumption)) (by have h_ : (t20 : Int) < ((x5_15.length : Int) : Int):=of_decide_eq_true (by first | (with_reducible assumption) | assumption);first | exact h_ | (have e_:=(Kd.R_reads' HO_5.out).1;omega) | simpa using h_) (seg:=[.int .i64 t27]) (j:=0) hcl53 hcc53 (show 1 ≤ 4 from by decide) (x':=(⟨t27,(rd_T35 x5_15 t20).f1,(rd_T35 x5_15 t20).f2,(rd_T35 x5_15 t20).f3⟩ : S35)) (k35_mkM _ _ _ (⟨t27,(rd_T35 x5_15 t20).f1,(rd_T35 x5_15 t20).f2,(rd_T35 x5_15 t20).f3⟩ : S35) ) (fun _ hk=>hk);have hx53_0:=hcc53 0 _ rfl;(try simp only [show (k35).sz = 4 from rfl,Nat.mul_one,Nat.add_zero] at hx53_0);have hf53_0:=hfr53 0;(try simp only [show (k35).sz = 4 from rfl,Nat.mul_one,Nat.add_zero] at hf53_0);clear hcl53 hcc53 hfr53 hM53) | ((with_reducible refine gate_store (t:=3) (p:=56) rfl ?_);refine store_event (t:=3) (p:=56) (v:=?vo_w54) (w1:=(w52.setCell ⟨go45,(t20 : Int).toNat * 4,none⟩ (.int .i64 t27))) ?hg ?ho ?hn ?hr ?_;(case ho=>rfl);(case hg=>rfl);(case hn=>rfl);(case hr=>first | (go_simp;done) | (go_simp;rfl));intro w54 hw;have hg : w52.grownBy w54 (some go45):=(by rw [hw];exact HP53.2);have hp_ : Kd.R k35 35 w54 w.heap.size (fun _=>True) (.slice (some ⟨go45,0,none⟩) x5_15.length co46) y29:=(by rw [hw,Ny29.out];exact HP53.1);clear HP53;have n0_:=a0_ (hp_);have n1_:=a0_ (Kd.R_over' (v:=(.slice (some ⟨go45,0,none⟩) x5_15.length co46)) (rr_ Z7.out) (Kd.R_typed HO_5.out) (by decide) hg);have n2_:=a0_ (blk_grown (bb_ BK1.out) hg (Kd.R_ne HO_5.out BK1.out (by decide)));have n3_:=a0_ (blk_grown (bb_ BK6.out) hg (Kd.R_ne HO_5.out BK6.out (by decide)));have n4_:=a0_ (IsS63.grown is0_ hg (IsS63.own_ne HI0.out HO_5.out (by decide)));have n5_:=a0_ (Kd.R_over' (v:=(.slice (some ⟨go45,0,none⟩) x5_15.length co46)) (rr_ HO26.out) (Kd.R_typed HO_5.out) (by decide) hg);have n6_:=a0_ ((by rw [hw];exact below_set (HB.out) (Nat.le_trans HL.out GB45.out) : Below w0.heap.size w0 w54));have n7_:=a0_ (KeepBut.trans (w:=w) hk_ (KeepBut.of_grown hg g) (Kd.R_base2 HO_5.out));clear HO_5 Z7;clear BK1 BK6;clear HI0 HO26;clear HB HK;have HO_5:=n0_;have Z7:=n1_;have BK1:=n2_;have BK6:=n3_;have HI0:=n4_;have HO26:=n5_;have HB:=n6_;have HK:=n7_;clear n0_ n1_ n2_ n3_ n4_ n5_ n6_ n7_;clear hg hw hp_;have hnb55:=NB6_1.out;have hnc55:=NB1_6.out;have hnb56:=NB6_0.out;have hnc56:=NB0_6.out;have hcz57_0 : w54.cell? ⟨gb6,0,none⟩ = some (.slice Ao20 t2.length co20):=(blk_cell BK6.out 0).trans rfl;have hfz57_0:=blk_frozen BK6.out 0;have hnb58:=NB1_0.out;have hnc58:=NB0_1.out;have hcz59_0 : w54.cell? ⟨gb1,0,none⟩ = some (.slice none 0 0):=(blk_cell BK1.out 0).trans rfl;have hfz59_0:=blk_frozen BK1.out 0))
       refine bodyPost_ret (results_ct rfl _ _ gb1 25 #[.slice Ao20 t2.length co20] (0,0) _ rfl (by (with_reducible repeat (first | refine blk_drewN ?_ _ | refine blk_drew ?_ | refine blk_alloc ?_ _));refine blk_put (cs:=#[.slice none 0 0]) ?_ 0 _ rfl;(with_reducible repeat (first | refine blk_drewN ?_ _ | refine blk_drew ?_ | refine blk_alloc ?_ _));exact BK1.out) Try.underlying25 rfl (by kernel_rfl)) rfl ?_
       exact ⟨_,_,by first | rfl | (simp [errW_none,errW_some] <;> rfl) | (simp [*,errW_none,errW_some] <;> rfl),by (with_reducible repeat (first | apply Kd.R_alloc | apply Kd.R_drewN | apply Kd.R_drew));exact Kd.R_mono (Kd.R_far (p:=⟨gb1,0,none⟩) (Kd.R_types Z7.out BK1.out (by decide)) (fun _ hk=>hk.2) (.slice Ao20 t2.length co20)) (fun _ hk=>trivial),by (with_reducible repeat (first | apply Kd.R_alloc | apply Kd.R_drewN | apply Kd.R_drew));exact Kd.R_mono (Kd.R_far (p:=⟨gb1,0,none⟩) (Kd.R_types HO_5.out BK1.out (by decide)) (fun _ hk=>hk.2) (.slice Ao20 t2.length co20)) (fun _ hk=>trivial),is0_,hbi0_,hk_⟩
      ·rw [if_neg c44] at H
       exact absurd H (by simp)
     ·rw [if_neg c43] at H
      exact absurd H (by simp)
    ·rw [if_neg c41] at H
     have c41b0 : (t22 == 0) = false:=beq_eq_false_iff_ne.mpr c41
     have c41b1 : (t22 != 0) = true:=bne_iff_ne.mpr c41
     by_cases c60 : t22 = 1
     ·rw [if_pos c60] at H
      have c60b0 : (t22 == 1) = true:=beq_iff_eq.mpr c60
      have c60b1 : (t22 != 1) = false:=bne_eq_false_iff_eq.mpr c60
      clear c60
      obtain ⟨y30,hy30⟩ : ∃ y_ : List Int,y_ = (([(-1),8,1] : List Int)):=⟨_,rfl⟩
      replace H : ((spec_reader_one.f kj15 s0_0 t23 y30).bind fun bt33=>(if 0 ≤ t20 then (if t20 < (x5_15.length : Int) then (some (t2,(x5_15.set (t20 : Int).toNat (⟨(rd_T35 x5_15 t20).f0,(rd_T35 x5_15 t20).f1,bt33.1,(rd_T35 x5_15 t20).f3⟩ : S35)),bt33.2)) else (none)) else (none))) = some (r1,r2,r3):=by first | (rw [hy30];with_reducible exact H) | (have H2_:=(Option.bind_some _ _).symm.trans H;rw [hy30];with_reducible exact H2_) | (have H2_:=(Option.bind_some _ _).symm.trans H;with_reducible exact H2_) | with_reducible exact H | (rw [hy30];exact H) | exact H
      have Ny30:=a0_ hy30
      clear hy30
      replace H:=Option.bind_eq_some_iff.mp H
      obtain ⟨⟨t33,t34⟩,A610,H⟩:=H
      try dsimp only at H
      have A61:=a0_ A610
      clear A610
      by_cases c62 : 0 ≤ t20
      ·rw [if_pos c62] at H
       have c62b0 : decide (0 ≤ t20) = true:=decide_eq_true c62
       clear c62
       by_cases c63 : t20 < (x5_15.length : Int)
       ·rw [if_pos c63] at H
        have c63b0 : decide (t20 < (x5_15.length : Int)) = true:=decide_eq_true c63
        clear c63
        obtain ⟨y35,hy35⟩ : ∃ y_ : List (S35),y_ = (x5_15.set (t20 : Int).toNat (⟨(rd_T35 x5_15 t20).f0,(rd_T35 x5_15 t20).f1,t33,(rd_T35 x5_15 t20).f3⟩ : S35)):=⟨_,rfl⟩
        replace H : (some (t2,y35,t34)) = some (r1,r2,r3):=by first | (rw [hy35];with_reducible exact H) | (have H2_:=(Option.bind_some _ _).symm.trans H;rw [hy35];with_reducible exact H2_) | (have H2_:=(Option.bind_some _ _).symm.trans H;with_reducible exact H2_) | with_reducible exact H | (rw [hy35];exact H) | exact H
        have Ny35:=a0_ hy35
        clear hy35
        simp only [Option.some.injEq,Prod.mk.injEq] at H
        obtain ⟨rfl,rfl,rfl⟩:=H
        obtain ⟨Ao65,co65,eo65⟩:=Kd.R_slice HO_5.out
        subst eo65
        go_wp2_with (first | ((with_reducible refine gate_callee (f:=28) rfl ?_);refine goesL_ (some 45) rfl rfl Try.func28 (by kernel_rfl) rfl #[.pointer (some ⟨g,0,none⟩),.int .i64 (x5_15.length : Int)] rfl lm_ ?_;(with_reducible refine (spec_reader_pick.calls kj15 g s0_0 x1001_15 (x5_15.length : Int) t20 t21 w0 _ ?side1 ?side2 A39.out).mono ?_);(case side1=>exact is0_);(case side2=>exact hbi0_);rintro e w66 ⟨rfl,hi,hb,hk⟩;refine ⟨_,rfl,?_⟩;replace HO_5:=a0_ (Kd.R_mono (Kd.R_keep (IsS63.apart (is0_ : IsS63 w0 _ g s0_0 x1001_15) (rr_ HO_5.out) (by decide)) hk (fun _ h=>h.2)) (fun _ h=>h.1));replace Z7:=a0_ (Kd.R_mono (Kd.R_keep (IsS63.apart (is0_ : IsS63 w0 _ g s0_0 x1001_15) (rr_ Z7.out) (by decide)) hk (fun _ h=>h.2)) (fun _ h=>h.1));replace BK1:=kk_ hk BK1 NB1_0;replace BK6:=kk_ hk BK6 NB6_0;replace HK:=a0_ (KeepBut.trans (w:=w) hk_ hk (.inl rfl));replace HI0:=a0_ (hi);replace HB:=a0_ (hb);(try clear hb);(try clear hb2);(try clear hk);(try clear hi)) | ((with_reducible refine gate_callee (f:=28) rfl ?_);refine goesL_ (some 47) rfl rfl Try.func28 (by kernel_rfl) rfl #[.pointer (some ⟨g,0,none⟩),.int .i64 24] rfl lm_ ?_;(with_reducible refine (spec_reader_pick.calls kj15 g s0_0 t21 24 t22 t23 w0 _ ?side1 ?side2 A40.out).mono ?_);(case side1=>exact is0_);(case side2=>exact hbi0_);rintro e w67 ⟨rfl,hi,hb,hk⟩;refine ⟨_,rfl,?_⟩;replace HO_5:=a0_ (Kd.R_mono (Kd.R_keep (IsS63.apart (is0_ : IsS63 w0 _ g s0_0 t21) (rr_ HO_5.out) (by decide)) hk (fun _ h=>h.2)) (fun _ h=>h.1));replace Z7:=a0_ (Kd.R_mono (Kd.R_keep (IsS63.apart (is0_ : IsS63 w0 _ g s0_0 t21) (rr_ Z7.out) (by decide)) hk (fun _ h=>h.2)) (fun _ h=>h.1));replace BK1:=kk_ hk BK1 NB1_0;replace BK6:=kk_ hk BK6 NB6_0;replace HK:=a0_ (KeepBut.trans (w:=w) hk_ hk (.inl rfl));replace HI0:=a0_ (hi);replace HB:=a0_ (hb);(try clear hb);(try clear hb2);(try clear hk);(try clear hi)) | ((with_reducible refine gate_dst (N:=62) rfl ?_);refine Kd.R_lit (Kd.int .i64) _ 3 ?hg (N:=62) ?hd (xs:=([(-1),8,1] : List Int)) (inner:=[.int .i64 (-1),.int .i64 8,.int .i64 1]) (ok:=fun _=>True) (okp:=fun _=>True) ?hr ?hp (fun _ hk=>hk) trivial (Below.refl _ _) (Nat.le_refl _) (by simp) ?_;(case hd=>rfl);(case hg=>rfl);(case hr=>first | (go_simp;done) | (go_simp;rfl));(case hp=>exact (Reps.one (show Kd.M (Kd.int .i64) _ _ _ (-1) [.int .i64 (-1)] from rfl) (Reps.one (show Kd.M (Kd.int .i64) _ _ _ 8 [.int .i64 8] from rfl) (Reps.one (show Kd.M (Kd.int .i64) _ _ _ 1 [.int .i64 1] from rfl) (Reps.none _ _)))));intro v31 w68 ho69 hb hg_ hnew_;clear hg_ hnew_;(first | rw [← Ny30.out] at ho69 | (simp only [Int.reduceToNat] at ho69;rw [← Ny30.out] at ho69));have n0_:=rb_ HO_5 hb;have n1_:=rb_ Z7 hb;have n2_:=a0_ (Kd.R_lower ho69 (keep_size (w:=w) (g:=g) (row:=none) hk_));have n3_:=kb_ BK1 hb;have n4_:=kb_ BK6 hb;have n5_:=a0_ (IsS63.below is0_ hb);have n6_:=a0_ (KeepBut.trans (w:=w) hk_ (KeepBut.of_below hb g none) (.inl rfl));have n7_:=a0_ (below_step hbi0_ hb);clear HO_5 Z7;clear BK1 BK6;clear HI0 HK HB;have HO_5:=n0_;have Z7:=n1_;have HO32:=n2_;have BK1:=n3_;have BK6:=n4_;have HI0:=n5_;have HK:=n6_;have HB:=n7_;clear n0_ n1_ n2_ n3_ n4_ n5_ n6_ n7_;clear hb ho69;obtain ⟨Ao70,co70,eo70⟩:=Kd.R_slice HO32.out;subst eo70) | ((with_reducible refine gate_callee (f:=31) rfl ?_);refine goesL_ (some 63) rfl rfl Try.func31 (by kernel_rfl) rfl #[.pointer (some ⟨g,0,none⟩),.slice Ao70 y30.length co70] rfl lm_ ?_;(with_reducible refine (spec_reader_one.calls kj15 g s0_0 t23 _ _ y30 t33 t34 w0 _ ?side1 ?side2 ?side3 ?side4 ?side5 A61.out).mono ?_);(case side1=>exact is0_);(case side2=>exact hbi0_);(case side3=>exact cc_ (Kd.R_reads' HO32.out).2.2);(case side4=>exact (Kd.R_reads' HO32.out).2.1);(case side5=>exact far_slice (IsS63.own_ne HI0.out HO32.out (by decide)));rintro e w71 ⟨rfl,hi,hb,hk⟩;refine ⟨_,rfl,?_⟩;replace HO_5:=a0_ (Kd.R_mono (Kd.R_keep (IsS63.apart (is0_ : IsS63 w0 _ g s0_0 t23) (rr_ HO_5.out) (by decide)) hk (fun _ h=>h.2)) (fun _ h=>h.1));replace Z7:=a0_ (Kd.R_mono (Kd.R_keep (IsS63.apart (is0_ : IsS63 w0 _ g s0_0 t23) (rr_ Z7.out) (by decide)) hk (fun _ h=>h.2)) (fun _ h=>h.1));replace BK1:=kk_ hk BK1 NB1_0;replace BK6:=kk_ hk BK6 NB6_0;replace HO32:=a0_ (Kd.R_mono (Kd.R_keep (IsS63.apart (is0_ : IsS63 w0 _ g s0_0 t23) (rr_ HO32.out) (by decide)) hk (fun _ h=>h.2)) (fun _ h=>h.1));replace HK:=a0_ (KeepBut.trans (w:=w) hk_ hk (.inl rfl));replace HI0:=a0_ (hi);replace HB:=a0_ (hb);(try clear hb);have p64 : 0 ≤ (t20 : Int):=of_decide_eq_true (by first | (with_reducible assumption) | assumption);have q64 : (t20 : Int) < ((x5_15.length : Int) : Int):=of_decide_eq_true (by first | (with_reducible assumption) | assumption);obtain ⟨go64,co64,eo64,gb64,gl64,cl64,HG64⟩:=Kd.R_form HO_5.out (by omega);(first | cases eo64 | (injection eo64 with ea_ en_ ec_;(first | subst ea_ | (injection ea_ with ea_;subst ea_));subst ec_;clear en_));have GB64:=a0_ gb64;have GG64:=a0_ HG64;clear gb64 gl64 HG64;obtain ⟨ce64,hcl64,hM64,hcc64,hfr64⟩:=Kd.R_elem HO_5.out z35 (t20 : Int) p64 q64;obtain rfl:=k35_openM hM64;have hx64_0 : w71.cell? ⟨go64,(t20 : Int).toNat * 4,none⟩ = some (.int .i64 ((rd_T35 x5_15 t20).f0)):=hcc64 0 _ rfl;have hx64_1 : w71.cell? ⟨go64,(t20 : Int).toNat * 4 + 1,none⟩ = some (.bool ((rd_T35 x5_15 t20).f1)):=hcc64 1 _ rfl;have hx64_2 : w71.cell? ⟨go64,(t20 : Int).toNat * 4 + 2,none⟩ = some (.int .i64 ((rd_T35 x5_15 t20).f2)):=hcc64 2 _ rfl;have hx64_3 : w71.cell? ⟨go64,(t20 : Int).toNat * 4 + 3,none⟩ = some (.int .i64 ((rd_T35 x5_15 t20).f3)):=hcc64 3 _ rfl;have hf64_0 : w71.frozen? ⟨go64,(t20 : Int).toNat * 4,none⟩ = false:=hfr64 0;have hf64_1 : w71.frozen? ⟨go64,(t20 : Int).toNat * 4 + 1,none⟩ = false:=hfr64 1;have hf64_2 : w71.frozen? ⟨go64,(t20 : Int).toNat * 4 + 2,none⟩ = false:=hfr64 2;have hf64_3 : w71.frozen? ⟨go64,(t20 : Int).toNat * 4 + 3,none⟩ = false:=hfr64 3;clear hcl64 hcc64 hfr64 hM64;replace p64:=eq_true p64;replace q64:=eq_true q64;have HX72:=a0_ (show Kd.R k35 35 w71 w.heap.size (fun _=>True) (.slice (some ⟨go64,0,none⟩) x5_15.length co65) x5_15 from (rr_ HO_5.out));obtain ⟨ce72,hcl72,hM72,hcc72,hfr72⟩:=Kd.R_elem HX72.out z35 (t20 : Int) (of_decide_eq_true (by first | (with_reducible assumption) | assumption)) (by have h_ : (t20 : Int) < ((x5_15.length : Int) : Int):=of_decide_eq_true (by first | (with_reducible assumption) | assumption);first | exact h_ | (have e_:=(Kd.R_reads' HO_5.out).1;omega) | simpa using h_);obtain rfl:=k35_openM hM72;have HP72:=Kd.R_seg HX72.out (t20 : Int) (of_decide_eq_true (by first | (with_reducible assumption) | assumption)) (by have h_ : (t20 : Int) < ((x5_15.length : Int) : Int):=of_decide_eq_true (by first | (with_reducible assumption) | assumption);first | exact h_ | (have e_:=(Kd.R_reads' HO_5.out).1;omega) | simpa using h_) (seg:=[.int .i64 t33]) (j:=2) hcl72 hcc72 (show 3 ≤ 4 from by decide) (x':=(⟨(rd_T35 x5_15 t20).f0,(rd_T35 x5_15 t20).f1,t33,(rd_T35 x5_15 t20).f3⟩ : S35)) (k35_mkM _ _ _ (⟨(rd_T35 x5_15 t20).f0,(rd_T35 x5_15 t20).f1,t33,(rd_T35 x5_15 t20).f3⟩ : S35) ) (fun _ hk=>hk);have hx72_2:=hcc72 2 _ rfl;(try simp only [show (k35).sz = 4 from rfl,Nat.mul_one,Nat.add_zero] at hx72_2);have hf72_2:=hfr72 2;(try simp only [show (k35).sz = 4 from rfl,Nat.mul_one,Nat.add_zero] at hf72_2);clear hcl72 hcc72 hfr72 hM72) | ((with_reducible refine gate_store (t:=3) (p:=65) rfl ?_);refine store_event (t:=3) (p:=65) (v:=?vo_w73) (w1:=(w71.setCell ⟨go64,(t20 : Int).toNat * 4 + 2,none⟩ (.int .i64 t33))) ?hg ?ho ?hn ?hr ?_;(case ho=>rfl);(case hg=>rfl);(case hn=>rfl);(case hr=>first | (go_simp;done) | (go_simp;rfl));intro w73 hw;have hg : w71.grownBy w73 (some go64):=(by rw [hw];exact HP72.2);have hp_ : Kd.R k35 35 w73 w.heap.size (fun _=>True) (.slice (some ⟨go64,0,none⟩) x5_15.length co65) y35:=(by rw [hw,Ny35.out];exact HP72.1);clear HP72;have n0_:=a0_ (hp_);have n1_:=a0_ (Kd.R_over' (v:=(.slice (some ⟨go64,0,none⟩) x5_15.length co65)) (rr_ Z7.out) (Kd.R_typed HO_5.out) (by decide) hg);have n2_:=a0_ (blk_grown (bb_ BK1.out) hg (Kd.R_ne HO_5.out BK1.out (by decide)));have n3_:=a0_ (blk_grown (bb_ BK6.out) hg (Kd.R_ne HO_5.out BK6.out (by decide)));have n4_:=a0_ (IsS63.grown is0_ hg (IsS63.own_ne HI0.out HO_5.out (by decide)));have n5_:=a0_ (Kd.R_over' (v:=(.slice (some ⟨go64,0,none⟩) x5_15.length co65)) (rr_ HO32.out) (Kd.R_typed HO_5.out) (by decide) hg);have n6_:=a0_ ((by rw [hw];exact below_set (HB.out) (Nat.le_trans HL.out GB64.out) : Below w0.heap.size w0 w73));have n7_:=a0_ (KeepBut.trans (w:=w) hk_ (KeepBut.of_grown hg g) (Kd.R_base2 HO_5.out));clear HO_5 Z7;clear BK1 BK6;clear HI0 HO32;clear HB HK;have HO_5:=n0_;have Z7:=n1_;have BK1:=n2_;have BK6:=n3_;have HI0:=n4_;have HO32:=n5_;have HB:=n6_;have HK:=n7_;clear n0_ n1_ n2_ n3_ n4_ n5_ n6_ n7_;clear hg hw hp_;have hnb74:=NB6_1.out;have hnc74:=NB1_6.out;have hnb75:=NB6_0.out;have hnc75:=NB0_6.out;have hcz76_0 : w73.cell? ⟨gb6,0,none⟩ = some (.slice Ao20 t2.length co20):=(blk_cell BK6.out 0).trans rfl;have hfz76_0:=blk_frozen BK6.out 0;have hnb77:=NB1_0.out;have hnc77:=NB0_1.out;have hcz78_0 : w73.cell? ⟨gb1,0,none⟩ = some (.slice none 0 0):=(blk_cell BK1.out 0).trans rfl;have hfz78_0:=blk_frozen BK1.out 0))
        refine bodyPost_ret (results_ct rfl _ _ gb1 25 #[.slice Ao20 t2.length co20] (0,0) _ rfl (by (with_reducible repeat (first | refine blk_drewN ?_ _ | refine blk_drew ?_ | refine blk_alloc ?_ _));refine blk_put (cs:=#[.slice none 0 0]) ?_ 0 _ rfl;(with_reducible repeat (first | refine blk_drewN ?_ _ | refine blk_drew ?_ | refine blk_alloc ?_ _));exact BK1.out) Try.underlying25 rfl (by kernel_rfl)) rfl ?_
        exact ⟨_,_,by first | rfl | (simp [errW_none,errW_some] <;> rfl) | (simp [*,errW_none,errW_some] <;> rfl),by (with_reducible repeat (first | apply Kd.R_alloc | apply Kd.R_drewN | apply Kd.R_drew));exact Kd.R_mono (Kd.R_far (p:=⟨gb1,0,none⟩) (Kd.R_types Z7.out BK1.out (by decide)) (fun _ hk=>hk.2) (.slice Ao20 t2.length co20)) (fun _ hk=>trivial),by (with_reducible repeat (first | apply Kd.R_alloc | apply Kd.R_drewN | apply Kd.R_drew));exact Kd.R_mono (Kd.R_far (p:=⟨gb1,0,none⟩) (Kd.R_types HO_5.out BK1.out (by decide)) (fun _ hk=>hk.2) (.slice Ao20 t2.length co20)) (fun _ hk=>trivial),is0_,hbi0_,hk_⟩
       ·rw [if_neg c63] at H
        exact absurd H (by simp)
      ·rw [if_neg c62] at H
       exact absurd H (by simp)
     ·rw [if_neg c60] at H
      have c60b0 : (t22 == 1) = false:=beq_eq_false_iff_ne.mpr c60
      have c60b1 : (t22 != 1) = true:=bne_iff_ne.mpr c60
      by_cases c79 : t22 = 2
      ·rw [if_pos c79] at H
       have c79b0 : (t22 == 2) = true:=beq_iff_eq.mpr c79
       have c79b1 : (t22 != 2) = false:=bne_eq_false_iff_eq.mpr c79
       clear c79
       obtain ⟨y36,hy36⟩ : ∃ y_ : List Int,y_ = (([(-1),100] : List Int)):=⟨_,rfl⟩
       replace H : ((spec_reader_one.f kj15 s0_0 t23 y36).bind fun bt39=>(if 0 ≤ t20 then (if t20 < (x5_15.length : Int) then (some (t2,(x5_15.set (t20 : Int).toNat (⟨(rd_T35 x5_15 t20).f0,(rd_T35 x5_15 t20).f1,(rd_T35 x5_15 t20).f2,bt39.1⟩ : S35)),bt39.2)) else (none)) else (none))) = some (r1,r2,r3):=by first | (rw [hy36];with_reducible exact H) | (have H2_:=(Option.bind_some _ _).symm.trans H;rw [hy36];with_reducible exact H2_) | (have H2_:=(Option.bind_some _ _).symm.trans H;with_reducible exact H2_) | with_reducible exact H | (rw [hy36];exact H) | exact H
       have Ny36:=a0_ hy36
       clear hy36
       replace H:=Option.bind_eq_some_iff.mp H
       obtain ⟨⟨t39,t40⟩,A800,H⟩:=H
       try dsimp only at H
       have A80:=a0_ A800
       clear A800
       by_cases c81 : 0 ≤ t20
       ·rw [if_pos c81] at H
        have c81b0 : decide (0 ≤ t20) = true:=decide_eq_true c81
        clear c81
        by_cases c82 : t20 < (x5_15.length : Int)
        ·rw [if_pos c82] at H
         have c82b0 : decide (t20 < (x5_15.length : Int)) = true:=decide_eq_true c82
         clear c82
         obtain ⟨y41,hy41⟩ : ∃ y_ : List (S35),y_ = (x5_15.set (t20 : Int).toNat (⟨(rd_T35 x5_15 t20).f0,(rd_T35 x5_15 t20).f1,(rd_T35 x5_15 t20).f2,t39⟩ : S35)):=⟨_,rfl⟩
         replace H : (some (t2,y41,t40)) = some (r1,r2,r3):=by first | (rw [hy41];with_reducible exact H) | (have H2_:=(Option.bind_some _ _).symm.trans H;rw [hy41];with_reducible exact H2_) | (have H2_:=(Option.bind_some _ _).symm.trans H;with_reducible exact H2_) | with_reducible exact H | (rw [hy41];exact H) | exact H
         have Ny41:=a0_ hy41
         clear hy41
         simp only [Option.some.injEq,Prod.mk.injEq] at H
         obtain ⟨rfl,rfl,rfl⟩:=H
         obtain ⟨Ao84,co84,eo84⟩:=Kd.R_slice HO_5.out
         subst eo84
         go_wp2_with (first | ((with_reducible refine gate_callee (f:=28) rfl ?_);refine goesL_ (some 45) rfl rfl Try.func28 (by kernel_rfl) rfl #[.pointer (some ⟨g,0,none⟩),.int .i64 (x5_15.length : Int)] rfl lm_ ?_;(with_reducible refine (spec_reader_pick.calls kj15 g s0_0 x1001_15 (x5_15.length : Int) t20 t21 w0 _ ?side1 ?side2 A39.out).mono ?_);(case side1=>exact is0_);(case side2=>exact hbi0_);rintro e w85 ⟨rfl,hi,hb,hk⟩;refine ⟨_,rfl,?_⟩;replace HO_5:=a0_ (Kd.R_mono (Kd.R_keep (IsS63.apart (is0_ : IsS63 w0 _ g s0_0 x1001_15) (rr_ HO_5.out) (by decide)) hk (fun _ h=>h.2)) (fun _ h=>h.1));replace Z7:=a0_ (Kd.R_mono (Kd.R_keep (IsS63.apart (is0_ : IsS63 w0 _ g s0_0 x1001_15) (rr_ Z7.out) (by decide)) hk (fun _ h=>h.2)) (fun _ h=>h.1));replace BK1:=kk_ hk BK1 NB1_0;replace BK6:=kk_ hk BK6 NB6_0;replace HK:=a0_ (KeepBut.trans (w:=w) hk_ hk (.inl rfl));replace HI0:=a0_ (hi);replace HB:=a0_ (hb);(try clear hb);(try clear hb2);(try clear hk);(try clear hi)) | ((with_reducible refine gate_callee (f:=28) rfl ?_);refine goesL_ (some 47) rfl rfl Try.func28 (by kernel_rfl) rfl #[.pointer (some ⟨g,0,none⟩),.int .i64 24] rfl lm_ ?_;(with_reducible refine (spec_reader_pick.calls kj15 g s0_0 t21 24 t22 t23 w0 _ ?side1 ?side2 A40.out).mono ?_);(case side1=>exact is0_);(case side2=>exact hbi0_);rintro e w86 ⟨rfl,hi,hb,hk⟩;refine ⟨_,rfl,?_⟩;replace HO_5:=a0_ (Kd.R_mono (Kd.R_keep (IsS63.apart (is0_ : IsS63 w0 _ g s0_0 t21) (rr_ HO_5.out) (by decide)) hk (fun _ h=>h.2)) (fun _ h=>h.1));replace Z7:=a0_ (Kd.R_mono (Kd.R_keep (IsS63.apart (is0_ : IsS63 w0 _ g s0_0 t21) (rr_ Z7.out) (by decide)) hk (fun _ h=>h.2)) (fun _ h=>h.1));replace BK1:=kk_ hk BK1 NB1_0;replace BK6:=kk_ hk BK6 NB6_0;replace HK:=a0_ (KeepBut.trans (w:=w) hk_ hk (.inl rfl));replace HI0:=a0_ (hi);replace HB:=a0_ (hb);(try clear hb);(try clear hb2);(try clear hk);(try clear hi)) | ((with_reducible refine gate_dst (N:=71) rfl ?_);refine Kd.R_lit (Kd.int .i64) _ 3 ?hg (N:=71) ?hd (xs:=([(-1),100] : List Int)) (inner:=[.int .i64 (-1),.int .i64 100]) (ok:=fun _=>True) (okp:=fun _=>True) ?hr ?hp (fun _ hk=>hk) trivial (Below.refl _ _) (Nat.le_refl _) (by simp) ?_;(case hd=>rfl);(case hg=>rfl);(case hr=>first | (go_simp;done) | (go_simp;rfl));(case hp=>exact (Reps.one (show Kd.M (Kd.int .i64) _ _ _ (-1) [.int .i64 (-1)] from rfl) (Reps.one (show Kd.M (Kd.int .i64) _ _ _ 100 [.int .i64 100] from rfl) (Reps.none _ _))));intro v37 w87 ho88 hb hg_ hnew_;clear hg_ hnew_;(first | rw [← Ny36.out] at ho88 | (simp only [Int.reduceToNat] at ho88;rw [← Ny36.out] at ho88));have n0_:=rb_ HO_5 hb;have n1_:=rb_ Z7 hb;have n2_:=a0_ (Kd.R_lower ho88 (keep_size (w:=w) (g:=g) (row:=none) hk_));have n3_:=kb_ BK1 hb;have n4_:=kb_ BK6 hb;have n5_:=a0_ (IsS63.below is0_ hb);have n6_:=a0_ (KeepBut.trans (w:=w) hk_ (KeepBut.of_below hb g none) (.inl rfl));have n7_:=a0_ (below_step hbi0_ hb);clear HO_5 Z7;clear BK1 BK6;clear HI0 HK HB;have HO_5:=n0_;have Z7:=n1_;have HO38:=n2_;have BK1:=n3_;have BK6:=n4_;have HI0:=n5_;have HK:=n6_;have HB:=n7_;clear n0_ n1_ n2_ n3_ n4_ n5_ n6_ n7_;clear hb ho88;obtain ⟨Ao89,co89,eo89⟩:=Kd.R_slice HO38.out;subst eo89) | ((with_reducible refine gate_callee (f:=31) rfl ?_);refine goesL_ (some 72) rfl rfl Try.func31 (by kernel_rfl) rfl #[.pointer (some ⟨g,0,none⟩),.slice Ao89 y36.length co89] rfl lm_ ?_;(with_reducible refine (spec_reader_one.calls kj15 g s0_0 t23 _ _ y36 t39 t40 w0 _ ?side1 ?side2 ?side3 ?side4 ?side5 A80.out).mono ?_);(case side1=>exact is0_);(case side2=>exact hbi0_);(case side3=>exact cc_ (Kd.R_reads' HO38.out).2.2);(case side4=>exact (Kd.R_reads' HO38.out).2.1);(case side5=>exact far_slice (IsS63.own_ne HI0.out HO38.out (by decide)));rintro e w90 ⟨rfl,hi,hb,hk⟩;refine ⟨_,rfl,?_⟩;replace HO_5:=a0_ (Kd.R_mono (Kd.R_keep (IsS63.apart (is0_ : IsS63 w0 _ g s0_0 t23) (rr_ HO_5.out) (by decide)) hk (fun _ h=>h.2)) (fun _ h=>h.1));replace Z7:=a0_ (Kd.R_mono (Kd.R_keep (IsS63.apart (is0_ : IsS63 w0 _ g s0_0 t23) (rr_ Z7.out) (by decide)) hk (fun _ h=>h.2)) (fun _ h=>h.1));replace BK1:=kk_ hk BK1 NB1_0;replace BK6:=kk_ hk BK6 NB6_0;replace HO38:=a0_ (Kd.R_mono (Kd.R_keep (IsS63.apart (is0_ : IsS63 w0 _ g s0_0 t23) (rr_ HO38.out) (by decide)) hk (fun _ h=>h.2)) (fun _ h=>h.1));replace HK:=a0_ (KeepBut.trans (w:=w) hk_ hk (.inl rfl));replace HI0:=a0_ (hi);replace HB:=a0_ (hb);(try clear hb);have p83 : 0 ≤ (t20 : Int):=of_decide_eq_true (by first | (with_reducible assumption) | assumption);have q83 : (t20 : Int) < ((x5_15.length : Int) : Int):=of_decide_eq_true (by first | (with_reducible assumption) | assumption);obtain ⟨go83,co83,eo83,gb83,gl83,cl83,HG83⟩:=Kd.R_form HO_5.out (by omega);(first | cases eo83 | (injection eo83 with ea_ en_ ec_;(first | subst ea_ | (injection ea_ with ea_;subst ea_));subst ec_;clear en_));have GB83:=a0_ gb83;have GG83:=a0_ HG83;clear gb83 gl83 HG83;obtain ⟨ce83,hcl83,hM83,hcc83,hfr83⟩:=Kd.R_elem HO_5.out z35 (t20 : Int) p83 q83;obtain rfl:=k35_openM hM83;have hx83_0 : w90.cell? ⟨go83,(t20 : Int).toNat * 4,none⟩ = some (.int .i64 ((rd_T35 x5_15 t20).f0)):=hcc83 0 _ rfl;have hx83_1 : w90.cell? ⟨go83,(t20 : Int).toNat * 4 + 1,none⟩ = some (.bool ((rd_T35 x5_15 t20).f1)):=hcc83 1 _ rfl;have hx83_2 : w90.cell? ⟨go83,(t20 : Int).toNat * 4 + 2,none⟩ = some (.int .i64 ((rd_T35 x5_15 t20).f2)):=hcc83 2 _ rfl;have hx83_3 : w90.cell? ⟨go83,(t20 : Int).toNat * 4 + 3,none⟩ = some (.int .i64 ((rd_T35 x5_15 t20).f3)):=hcc83 3 _ rfl;have hf83_0 : w90.frozen? ⟨go83,(t20 : Int).toNat * 4,none⟩ = false:=hfr83 0;have hf83_1 : w90.frozen? ⟨go83,(t20 : Int).toNat * 4 + 1,none⟩ = false:=hfr83 1;have hf83_2 : w90.frozen? ⟨go83,(t20 : Int).toNat * 4 + 2,none⟩ = false:=hfr83 2;have hf83_3 : w90.frozen? ⟨go83,(t20 : Int).toNat * 4 + 3,none⟩ = false:=hfr83 3;clear hcl83 hcc83 hfr83 hM83;replace p83:=eq_true p83;replace q83:=eq_true q83;have HX91:=a0_ (show Kd.R k35 35 w90 w.heap.size (fun _=>True) (.slice (some ⟨go83,0,none⟩) x5_15.length co84) x5_15 from (rr_ HO_5.out));obtain ⟨ce91,hcl91,hM91,hcc91,hfr91⟩:=Kd.R_elem HX91.out z35 (t20 : Int) (of_decide_eq_true (by first | (with_reducible assumption) | assumption)) (by have h_ : (t20 : Int) < ((x5_15.length : Int) : Int):=of_decide_eq_true (by first | (with_reducible assumption) | assumption);first | exact h_ | (have e_:=(Kd.R_reads' HO_5.out).1;omega) | simpa using h_);obtain rfl:=k35_openM hM91;have HP91:=Kd.R_seg HX91.out (t20 : Int) (of_decide_eq_true (by first | (with_reducible assumption) | assumption)) (by have h_ : (t20 : Int) < ((x5_15.length : Int) : Int):=of_decide_eq_true (by first | (with_reducible assumption) | assumption);first | exact h_ | (have e_:=(Kd.R_reads' HO_5.out).1;omega) | simpa using h_) (seg:=[.int .i64 t39]) (j:=3) hcl91 hcc91 (show 4 ≤ 4 from by decide) (x':=(⟨(rd_T35 x5_15 t20).f0,(rd_T35 x5_15 t20).f1,(rd_T35 x5_15 t20).f2,t39⟩ : S35)) (k35_mkM _ _ _ (⟨(rd_T35 x5_15 t20).f0,(rd_T35 x5_15 t20).f1,(rd_T35 x5_15 t20).f2,t39⟩ : S35) ) (fun _ hk=>hk);have hx91_3:=hcc91 3 _ rfl;(try simp only [show (k35).sz = 4 from rfl,Nat.mul_one,Nat.add_zero] at hx91_3);have hf91_3:=hfr91 3;(try simp only [show (k35).sz = 4 from rfl,Nat.mul_one,Nat.add_zero] at hf91_3);clear hcl91 hcc91 hfr91 hM91) | ((with_reducible refine gate_store (t:=3) (p:=74) rfl ?_);refine store_event (t:=3) (p:=74) (v:=?vo_w92) (w1:=(w90.setCell ⟨go83,(t20 : Int).toNat * 4 + 3,none⟩ (.int .i64 t39))) ?hg ?ho ?hn ?hr ?_;(case ho=>rfl);(case hg=>rfl);(case hn=>rfl);(case hr=>first | (go_simp;done) | (go_simp;rfl));intro w92 hw;have hg : w90.grownBy w92 (some go83):=(by rw [hw];exact HP91.2);have hp_ : Kd.R k35 35 w92 w.heap.size (fun _=>True) (.slice (some ⟨go83,0,none⟩) x5_15.length co84) y41:=(by rw [hw,Ny41.out];exact HP91.1);clear HP91;have n0_:=a0_ (hp_);have n1_:=a0_ (Kd.R_over' (v:=(.slice (some ⟨go83,0,none⟩) x5_15.length co84)) (rr_ Z7.out) (Kd.R_typed HO_5.out) (by decide) hg);have n2_:=a0_ (blk_grown (bb_ BK1.out) hg (Kd.R_ne HO_5.out BK1.out (by decide)));have n3_:=a0_ (blk_grown (bb_ BK6.out) hg (Kd.R_ne HO_5.out BK6.out (by decide)));have n4_:=a0_ (IsS63.grown is0_ hg (IsS63.own_ne HI0.out HO_5.out (by decide)));have n5_:=a0_ (Kd.R_over' (v:=(.slice (some ⟨go83,0,none⟩) x5_15.length co84)) (rr_ HO38.out) (Kd.R_typed HO_5.out) (by decide) hg);have n6_:=a0_ ((by rw [hw];exact below_set (HB.out) (Nat.le_trans HL.out GB83.out) : Below w0.heap.size w0 w92));have n7_:=a0_ (KeepBut.trans (w:=w) hk_ (KeepBut.of_grown hg g) (Kd.R_base2 HO_5.out));clear HO_5 Z7;clear BK1 BK6;clear HI0 HO38;clear HB HK;have HO_5:=n0_;have Z7:=n1_;have BK1:=n2_;have BK6:=n3_;have HI0:=n4_;have HO38:=n5_;have HB:=n6_;have HK:=n7_;clear n0_ n1_ n2_ n3_ n4_ n5_ n6_ n7_;clear hg hw hp_;have hnb93:=NB6_1.out;have hnc93:=NB1_6.out;have hnb94:=NB6_0.out;have hnc94:=NB0_6.out;have hcz95_0 : w92.cell? ⟨gb6,0,none⟩ = some (.slice Ao20 t2.length co20):=(blk_cell BK6.out 0).trans rfl;have hfz95_0:=blk_frozen BK6.out 0;have hnb96:=NB1_0.out;have hnc96:=NB0_1.out;have hcz97_0 : w92.cell? ⟨gb1,0,none⟩ = some (.slice none 0 0):=(blk_cell BK1.out 0).trans rfl;have hfz97_0:=blk_frozen BK1.out 0))
         refine bodyPost_ret (results_ct rfl _ _ gb1 25 #[.slice Ao20 t2.length co20] (0,0) _ rfl (by (with_reducible repeat (first | refine blk_drewN ?_ _ | refine blk_drew ?_ | refine blk_alloc ?_ _));refine blk_put (cs:=#[.slice none 0 0]) ?_ 0 _ rfl;(with_reducible repeat (first | refine blk_drewN ?_ _ | refine blk_drew ?_ | refine blk_alloc ?_ _));exact BK1.out) Try.underlying25 rfl (by kernel_rfl)) rfl ?_
         exact ⟨_,_,by first | rfl | (simp [errW_none,errW_some] <;> rfl) | (simp [*,errW_none,errW_some] <;> rfl),by (with_reducible repeat (first | apply Kd.R_alloc | apply Kd.R_drewN | apply Kd.R_drew));exact Kd.R_mono (Kd.R_far (p:=⟨gb1,0,none⟩) (Kd.R_types Z7.out BK1.out (by decide)) (fun _ hk=>hk.2) (.slice Ao20 t2.length co20)) (fun _ hk=>trivial),by (with_reducible repeat (first | apply Kd.R_alloc | apply Kd.R_drewN | apply Kd.R_drew));exact Kd.R_mono (Kd.R_far (p:=⟨gb1,0,none⟩) (Kd.R_types HO_5.out BK1.out (by decide)) (fun _ hk=>hk.2) (.slice Ao20 t2.length co20)) (fun _ hk=>trivial),is0_,hbi0_,hk_⟩
        ·rw [if_neg c82] at H
         exact absurd H (by simp)
       ·rw [if_neg c81] at H
        exact absurd H (by simp)
      ·rw [if_neg c79] at H
       have c79b0 : (t22 == 2) = false:=beq_eq_false_iff_ne.mpr c79
       have c79b1 : (t22 != 2) = true:=bne_iff_ne.mpr c79
       by_cases c98 : t22 = 3
       ·rw [if_pos c98] at H
        have c98b0 : (t22 == 3) = true:=beq_iff_eq.mpr c98
        have c98b1 : (t22 != 3) = false:=bne_eq_false_iff_eq.mpr c98
        clear c98
        by_cases c99 : 0 ≤ t20
        ·rw [if_pos c99] at H
         have c99b0 : decide (0 ≤ t20) = true:=decide_eq_true c99
         clear c99
         by_cases c100 : t20 < (x5_15.length : Int)
         ·rw [if_pos c100] at H
          have c100b0 : decide (t20 < (x5_15.length : Int)) = true:=decide_eq_true c100
          clear c100
          obtain ⟨y43,hy43⟩ : ∃ y_ : List (S35),y_ = (x5_15.set (t20 : Int).toNat (⟨(rd_T35 x5_15 t20).f0,!((rd_T35 x5_15 t20).f1),(rd_T35 x5_15 t20).f2,(rd_T35 x5_15 t20).f3⟩ : S35)):=⟨_,rfl⟩
          replace H : (some (t2,y43,t23)) = some (r1,r2,r3):=by first | (rw [hy43];with_reducible exact H) | (have H2_:=(Option.bind_some _ _).symm.trans H;rw [hy43];with_reducible exact H2_) | (have H2_:=(Option.bind_some _ _).symm.trans H;with_reducible exact H2_) | with_reducible exact H | (rw [hy43];exact H) | exact H
          have Ny43:=a0_ hy43
          clear hy43
          simp only [Option.some.injEq,Prod.mk.injEq] at H
          obtain ⟨rfl,rfl,rfl⟩:=H
          obtain ⟨Ao102,co102,eo102⟩:=Kd.R_slice HO_5.out
          subst eo102
          go_wp2_with (first | ((with_reducible refine gate_callee (f:=28) rfl ?_);refine goesL_ (some 45) rfl rfl Try.func28 (by kernel_rfl) rfl #[.pointer (some ⟨g,0,none⟩),.int .i64 (x5_15.length : Int)] rfl lm_ ?_;(with_reducible refine (spec_reader_pick.calls kj15 g s0_0 x1001_15 (x5_15.length : Int) t20 t21 w0 _ ?side1 ?side2 A39.out).mono ?_);(case side1=>exact is0_);(case side2=>exact hbi0_);rintro e w103 ⟨rfl,hi,hb,hk⟩;refine ⟨_,rfl,?_⟩;replace HO_5:=a0_ (Kd.R_mono (Kd.R_keep (IsS63.apart (is0_ : IsS63 w0 _ g s0_0 x1001_15) (rr_ HO_5.out) (by decide)) hk (fun _ h=>h.2)) (fun _ h=>h.1));replace Z7:=a0_ (Kd.R_mono (Kd.R_keep (IsS63.apart (is0_ : IsS63 w0 _ g s0_0 x1001_15) (rr_ Z7.out) (by decide)) hk (fun _ h=>h.2)) (fun _ h=>h.1));replace BK1:=kk_ hk BK1 NB1_0;replace BK6:=kk_ hk BK6 NB6_0;replace HK:=a0_ (KeepBut.trans (w:=w) hk_ hk (.inl rfl));replace HI0:=a0_ (hi);replace HB:=a0_ (hb);(try clear hb);(try clear hb2);(try clear hk);(try clear hi)) | ((with_reducible refine gate_callee (f:=28) rfl ?_);refine goesL_ (some 47) rfl rfl Try.func28 (by kernel_rfl) rfl #[.pointer (some ⟨g,0,none⟩),.int .i64 24] rfl lm_ ?_;(with_reducible refine (spec_reader_pick.calls kj15 g s0_0 t21 24 t22 t23 w0 _ ?side1 ?side2 A40.out).mono ?_);(case side1=>exact is0_);(case side2=>exact hbi0_);rintro e w104 ⟨rfl,hi,hb,hk⟩;refine ⟨_,rfl,?_⟩;replace HO_5:=a0_ (Kd.R_mono (Kd.R_keep (IsS63.apart (is0_ : IsS63 w0 _ g s0_0 t21) (rr_ HO_5.out) (by decide)) hk (fun _ h=>h.2)) (fun _ h=>h.1));replace Z7:=a0_ (Kd.R_mono (Kd.R_keep (IsS63.apart (is0_ : IsS63 w0 _ g s0_0 t21) (rr_ Z7.out) (by decide)) hk (fun _ h=>h.2)) (fun _ h=>h.1));replace BK1:=kk_ hk BK1 NB1_0;replace BK6:=kk_ hk BK6 NB6_0;replace HK:=a0_ (KeepBut.trans (w:=w) hk_ hk (.inl rfl));replace HI0:=a0_ (hi);replace HB:=a0_ (hb);(try clear hb);have p42 : 0 ≤ (t20 : Int):=of_decide_eq_true (by first | (with_reducible assumption) | assumption);have q42 : t20 < (x5_15.length : Int):=of_decide_eq_true (by first | (with_reducible assumption) | assumption);obtain ⟨ad42,e42,hx42_0,hx42_1,hx42_2,hx42_3⟩:=at_T35 (Kd.R_reads' HO_5.out).2.2 t20 p42 q42;cases e42;replace p42:=eq_true p42;replace q42:=eq_true q42;have p101 : 0 ≤ (t20 : Int):=of_decide_eq_true (by first | (with_reducible assumption) | assumption);have q101 : (t20 : Int) < ((x5_15.length : Int) : Int):=of_decide_eq_true (by first | (with_reducible assumption) | assumption);obtain ⟨go101,co101,eo101,gb101,gl101,cl101,HG101⟩:=Kd.R_form HO_5.out (by omega);(first | cases eo101 | (injection eo101 with ea_ en_ ec_;(first | subst ea_ | (injection ea_ with ea_;subst ea_));subst ec_;clear en_));have GB101:=a0_ gb101;have GG101:=a0_ HG101;clear gb101 gl101 HG101;(first | simp only [add_plain] at hx42_0 | skip);(first | simp only [add_plain] at hx42_1 | skip);(first | simp only [add_plain] at hx42_2 | skip);(first | simp only [add_plain] at hx42_3 | skip);obtain ⟨ce101,hcl101,hM101,hcc101,hfr101⟩:=Kd.R_elem HO_5.out z35 (t20 : Int) p101 q101;obtain rfl:=k35_openM hM101;have hx101_0 : w104.cell? ⟨go101,(t20 : Int).toNat * 4,none⟩ = some (.int .i64 ((rd_T35 x5_15 t20).f0)):=hcc101 0 _ rfl;have hx101_1 : w104.cell? ⟨go101,(t20 : Int).toNat * 4 + 1,none⟩ = some (.bool ((rd_T35 x5_15 t20).f1)):=hcc101 1 _ rfl;have hx101_2 : w104.cell? ⟨go101,(t20 : Int).toNat * 4 + 2,none⟩ = some (.int .i64 ((rd_T35 x5_15 t20).f2)):=hcc101 2 _ rfl;have hx101_3 : w104.cell? ⟨go101,(t20 : Int).toNat * 4 + 3,none⟩ = some (.int .i64 ((rd_T35 x5_15 t20).f3)):=hcc101 3 _ rfl;have hf101_0 : w104.frozen? ⟨go101,(t20 : Int).toNat * 4,none⟩ = false:=hfr101 0;have hf101_1 : w104.frozen? ⟨go101,(t20 : Int).toNat * 4 + 1,none⟩ = false:=hfr101 1;have hf101_2 : w104.frozen? ⟨go101,(t20 : Int).toNat * 4 + 2,none⟩ = false:=hfr101 2;have hf101_3 : w104.frozen? ⟨go101,(t20 : Int).toNat * 4 + 3,none⟩ = false:=hfr101 3;clear hcl101 hcc101 hfr101 hM101;replace p101:=eq_true p101;replace q101:=eq_true q101;have HX105:=a0_ (show Kd.R k35 35 w104 w.heap.size (fun _=>True) (.slice (some ⟨go101,0,none⟩) x5_15.length co102) x5_15 from (rr_ HO_5.out));obtain ⟨ce105,hcl105,hM105,hcc105,hfr105⟩:=Kd.R_elem HX105.out z35 (t20 : Int) (of_decide_eq_true (by first | (with_reducible assumption) | assumption)) (by have h_ : (t20 : Int) < ((x5_15.length : Int) : Int):=of_decide_eq_true (by first | (with_reducible assumption) | assumption);first | exact h_ | (have e_:=(Kd.R_reads' HO_5.out).1;omega) | simpa using h_);obtain rfl:=k35_openM hM105;have HP105:=Kd.R_seg HX105.out (t20 : Int) (of_decide_eq_true (by first | (with_reducible assumption) | assumption)) (by have h_ : (t20 : Int) < ((x5_15.length : Int) : Int):=of_decide_eq_true (by first | (with_reducible assumption) | assumption);first | exact h_ | (have e_:=(Kd.R_reads' HO_5.out).1;omega) | simpa using h_) (seg:=[.bool (!((rd_T35 x5_15 t20).f1))]) (j:=1) hcl105 hcc105 (show 2 ≤ 4 from by decide) (x':=(⟨(rd_T35 x5_15 t20).f0,!((rd_T35 x5_15 t20).f1),(rd_T35 x5_15 t20).f2,(rd_T35 x5_15 t20).f3⟩ : S35)) (k35_mkM _ _ _ (⟨(rd_T35 x5_15 t20).f0,!((rd_T35 x5_15 t20).f1),(rd_T35 x5_15 t20).f2,(rd_T35 x5_15 t20).f3⟩ : S35) ) (fun _ hk=>hk);have hx105_1:=hcc105 1 _ rfl;(try simp only [show (k35).sz = 4 from rfl,Nat.mul_one,Nat.add_zero] at hx105_1);have hf105_1:=hfr105 1;(try simp only [show (k35).sz = 4 from rfl,Nat.mul_one,Nat.add_zero] at hf105_1);clear hcl105 hcc105 hfr105 hM105) | ((with_reducible refine gate_store (t:=4) (p:=86) rfl ?_);refine store_event (t:=4) (p:=86) (v:=?vo_w106) (w1:=(w104.setCell ⟨go101,(t20 : Int).toNat * 4 + 1,none⟩ (.bool (!((rd_T35 x5_15 t20).f1))))) ?hg ?ho ?hn ?hr ?_;(case ho=>rfl);(case hg=>rfl);(case hn=>rfl);(case hr=>first | (go_simp;done) | (go_simp;rfl));intro w106 hw;have hg : w104.grownBy w106 (some go101):=(by rw [hw];exact HP105.2);have hp_ : Kd.R k35 35 w106 w.heap.size (fun _=>True) (.slice (some ⟨go101,0,none⟩) x5_15.length co102) y43:=(by rw [hw,Ny43.out];exact HP105.1);clear HP105;have n0_:=a0_ (hp_);have n1_:=a0_ (Kd.R_over' (v:=(.slice (some ⟨go101,0,none⟩) x5_15.length co102)) (rr_ Z7.out) (Kd.R_typed HO_5.out) (by decide) hg);have n2_:=a0_ (blk_grown (bb_ BK1.out) hg (Kd.R_ne HO_5.out BK1.out (by decide)));have n3_:=a0_ (blk_grown (bb_ BK6.out) hg (Kd.R_ne HO_5.out BK6.out (by decide)));have n4_:=a0_ (IsS63.grown is0_ hg (IsS63.own_ne HI0.out HO_5.out (by decide)));have n5_:=a0_ ((by rw [hw];exact below_set (HB.out) (Nat.le_trans HL.out GB101.out) : Below w0.heap.size w0 w106));have n6_:=a0_ (KeepBut.trans (w:=w) hk_ (KeepBut.of_grown hg g) (Kd.R_base2 HO_5.out));clear HO_5 Z7;clear BK1 BK6;clear HI0 HB HK;have HO_5:=n0_;have Z7:=n1_;have BK1:=n2_;have BK6:=n3_;have HI0:=n4_;have HB:=n5_;have HK:=n6_;clear n0_ n1_ n2_ n3_ n4_ n5_ n6_;clear hg hw hp_;have hnb107:=NB6_1.out;have hnc107:=NB1_6.out;have hnb108:=NB6_0.out;have hnc108:=NB0_6.out;have hcz109_0 : w106.cell? ⟨gb6,0,none⟩ = some (.slice Ao20 t2.length co20):=(blk_cell BK6.out 0).trans rfl;have hfz109_0:=blk_frozen BK6.out 0;have hnb110:=NB1_0.out;have hnc110:=NB0_1.out;have hcz111_0 : w106.cell? ⟨gb1,0,none⟩ = some (.slice none 0 0):=(blk_cell BK1.out 0).trans rfl;have hfz111_0:=blk_frozen BK1.out 0))
          refine bodyPost_ret (results_ct rfl _ _ gb1 25 #[.slice Ao20 t2.length co20] (0,0) _ rfl (by (with_reducible repeat (first | refine blk_drewN ?_ _ | refine blk_drew ?_ | refine blk_alloc ?_ _));refine blk_put (cs:=#[.slice none 0 0]) ?_ 0 _ rfl;(with_reducible repeat (first | refine blk_drewN ?_ _ | refine blk_drew ?_ | refine blk_alloc ?_ _));exact BK1.out) Try.underlying25 rfl (by kernel_rfl)) rfl ?_
          exact ⟨_,_,by first | rfl | (simp [errW_none,errW_some] <;> rfl) | (simp [*,errW_none,errW_some] <;> rfl),by (with_reducible repeat (first | apply Kd.R_alloc | apply Kd.R_drewN | apply Kd.R_drew));exact Kd.R_mono (Kd.R_far (p:=⟨gb1,0,none⟩) (Kd.R_types Z7.out BK1.out (by decide)) (fun _ hk=>hk.2) (.slice Ao20 t2.length co20)) (fun _ hk=>trivial),by (with_reducible repeat (first | apply Kd.R_alloc | apply Kd.R_drewN | apply Kd.R_drew));exact Kd.R_mono (Kd.R_far (p:=⟨gb1,0,none⟩) (Kd.R_types HO_5.out BK1.out (by decide)) (fun _ hk=>hk.2) (.slice Ao20 t2.length co20)) (fun _ hk=>trivial),is0_,hbi0_,hk_⟩
         ·rw [if_neg c100] at H
          exact absurd H (by simp)
        ·rw [if_neg c99] at H
         exact absurd H (by simp)
       ·rw [if_neg c98] at H
        have c98b0 : (t22 == 3) = false:=beq_eq_false_iff_ne.mpr c98
        have c98b1 : (t22 != 3) = true:=bne_iff_ne.mpr c98
        simp only [Option.some.injEq,Prod.mk.injEq] at H
        obtain ⟨rfl,rfl,rfl⟩:=H
        obtain ⟨Ao112,co112,eo112⟩:=Kd.R_slice HO_5.out
        subst eo112
        go_wp2_with (first | ((with_reducible refine gate_callee (f:=28) rfl ?_);refine goesL_ (some 45) rfl rfl Try.func28 (by kernel_rfl) rfl #[.pointer (some ⟨g,0,none⟩),.int .i64 (x5_15.length : Int)] rfl lm_ ?_;(with_reducible refine (spec_reader_pick.calls kj15 g s0_0 x1001_15 (x5_15.length : Int) t20 t21 w0 _ ?side1 ?side2 A39.out).mono ?_);(case side1=>exact is0_);(case side2=>exact hbi0_);rintro e w113 ⟨rfl,hi,hb,hk⟩;refine ⟨_,rfl,?_⟩;replace HO_5:=a0_ (Kd.R_mono (Kd.R_keep (IsS63.apart (is0_ : IsS63 w0 _ g s0_0 x1001_15) (rr_ HO_5.out) (by decide)) hk (fun _ h=>h.2)) (fun _ h=>h.1));replace Z7:=a0_ (Kd.R_mono (Kd.R_keep (IsS63.apart (is0_ : IsS63 w0 _ g s0_0 x1001_15) (rr_ Z7.out) (by decide)) hk (fun _ h=>h.2)) (fun _ h=>h.1));replace BK1:=kk_ hk BK1 NB1_0;replace BK6:=kk_ hk BK6 NB6_0;replace HK:=a0_ (KeepBut.trans (w:=w) hk_ hk (.inl rfl));replace HI0:=a0_ (hi);replace HB:=a0_ (hb);(try clear hb);(try clear hb2);(try clear hk);(try clear hi)) | ((with_reducible refine gate_callee (f:=28) rfl ?_);refine goesL_ (some 47) rfl rfl Try.func28 (by kernel_rfl) rfl #[.pointer (some ⟨g,0,none⟩),.int .i64 24] rfl lm_ ?_;(with_reducible refine (spec_reader_pick.calls kj15 g s0_0 t21 24 t22 t23 w0 _ ?side1 ?side2 A40.out).mono ?_);(case side1=>exact is0_);(case side2=>exact hbi0_);rintro e w114 ⟨rfl,hi,hb,hk⟩;refine ⟨_,rfl,?_⟩;replace HO_5:=a0_ (Kd.R_mono (Kd.R_keep (IsS63.apart (is0_ : IsS63 w0 _ g s0_0 t21) (rr_ HO_5.out) (by decide)) hk (fun _ h=>h.2)) (fun _ h=>h.1));replace Z7:=a0_ (Kd.R_mono (Kd.R_keep (IsS63.apart (is0_ : IsS63 w0 _ g s0_0 t21) (rr_ Z7.out) (by decide)) hk (fun _ h=>h.2)) (fun _ h=>h.1));replace BK1:=kk_ hk BK1 NB1_0;replace BK6:=kk_ hk BK6 NB6_0;replace HK:=a0_ (KeepBut.trans (w:=w) hk_ hk (.inl rfl));replace HI0:=a0_ (hi);replace HB:=a0_ (hb);(try clear hb);have hnb115:=NB6_1.out;have hnc115:=NB1_6.out;have hnb116:=NB6_0.out;have hnc116:=NB0_6.out;have hcz117_0 : w114.cell? ⟨gb6,0,none⟩ = some (.slice Ao20 t2.length co20):=(blk_cell BK6.out 0).trans rfl;have hfz117_0:=blk_frozen BK6.out 0;have hnb118:=NB1_0.out;have hnc118:=NB0_1.out;have hcz119_0 : w114.cell? ⟨gb1,0,none⟩ = some (.slice none 0 0):=(blk_cell BK1.out 0).trans rfl;have hfz119_0:=blk_frozen BK1.out 0))
        refine bodyPost_ret (results_ct rfl _ _ gb1 25 #[.slice Ao20 t2.length co20] (0,0) _ rfl (by (with_reducible repeat (first | refine blk_drewN ?_ _ | refine blk_drew ?_ | refine blk_alloc ?_ _));refine blk_put (cs:=#[.slice none 0 0]) ?_ 0 _ rfl;(with_reducible repeat (first | refine blk_drewN ?_ _ | refine blk_drew ?_ | refine blk_alloc ?_ _));exact BK1.out) Try.underlying25 rfl (by kernel_rfl)) rfl ?_
        exact ⟨_,_,by first | rfl | (simp [errW_none,errW_some] <;> rfl) | (simp [*,errW_none,errW_some] <;> rfl),by (with_reducible repeat (first | apply Kd.R_alloc | apply Kd.R_drewN | apply Kd.R_drew));exact Kd.R_mono (Kd.R_far (p:=⟨gb1,0,none⟩) (Kd.R_types Z7.out BK1.out (by decide)) (fun _ hk=>hk.2) (.slice Ao20 t2.length co20)) (fun _ hk=>trivial),by (with_reducible repeat (first | apply Kd.R_alloc | apply Kd.R_drewN | apply Kd.R_drew));exact Kd.R_mono (Kd.R_far (p:=⟨gb1,0,none⟩) (Kd.R_types HO_5.out BK1.out (by decide)) (fun _ hk=>hk.2) (.slice Ao20 t2.length co20)) (fun _ hk=>trivial),is0_,hbi0_,hk_⟩
theorem spec_someGroup_j1 (b : List Int) (hb : byL b) (t : List Cls) (g : List Prt) (q : Int) (h0 : 0 ≤ q) (h1 : q ≤ 1099511600000) (hl : 1 ≤ g.length) : ∃ g' q',Ev (fun k=>spec_someGroup.j1 k g b q t) (t,g',q') ∧ q ≤ q' ∧ q' ≤ q + 3 ∧ g'.length = g.length:=by
 obtain ⟨x,hx,x0,x1,_⟩:=spec_pick_ev b q (g.length : Int) hb h0 (by omega)
 have x1:=x1 (by omega)
 obtain ⟨y,hy,y0,y1,_⟩:=spec_pick_ev b (q + 1) 24 hb (by omega) (by omega)
 by_cases c0 : y = 0
 ·obtain ⟨s,hs,_⟩:=spec_one_ev b (q + 1 + 1) [(-1),6,0,1] hb (by omega) (by omega) (by simp)
  refine ⟨g.set (x : Int).toNat ⟨s,(rd_T35 g x).f1,(rd_T35 g x).f2,(rd_T35 g x).f3⟩,q + 1 + 1 + 1,Ev.succ ?_,by omega,by omega,by rw [List.length_set]⟩
  simp only [spec_someGroup.j1]
  exact Ev.bind hx (Ev.bind hy (Ev.pos c0 (Ev.bind hs (Ev.pos x0 (Ev.pos x1 (Ev.const rfl))))))
 by_cases c1 : y = 1
 ·obtain ⟨s,hs,_⟩:=spec_one_ev b (q + 1 + 1) [(-1),8,1] hb (by omega) (by omega) (by simp)
  refine ⟨g.set (x : Int).toNat ⟨(rd_T35 g x).f0,(rd_T35 g x).f1,s,(rd_T35 g x).f3⟩,q + 1 + 1 + 1,Ev.succ ?_,by omega,by omega,by rw [List.length_set]⟩
  simp only [spec_someGroup.j1]
  exact Ev.bind hx (Ev.bind hy (Ev.neg c0 (Ev.pos c1 (Ev.bind hs (Ev.pos x0 (Ev.pos x1 (Ev.const rfl)))))))
 by_cases c2 : y = 2
 ·obtain ⟨s,hs,_⟩:=spec_one_ev b (q + 1 + 1) [(-1),100] hb (by omega) (by omega) (by simp)
  refine ⟨g.set (x : Int).toNat ⟨(rd_T35 g x).f0,(rd_T35 g x).f1,(rd_T35 g x).f2,s⟩,q + 1 + 1 + 1,Ev.succ ?_,by omega,by omega,by rw [List.length_set]⟩
  simp only [spec_someGroup.j1]
  exact Ev.bind hx (Ev.bind hy (Ev.neg c0 (Ev.neg c1 (Ev.pos c2 (Ev.bind hs (Ev.pos x0 (Ev.pos x1 (Ev.const rfl))))))))
 by_cases c3 : y = 3
 ·refine ⟨g.set (x : Int).toNat ⟨(rd_T35 g x).f0,!((rd_T35 g x).f1),(rd_T35 g x).f2,(rd_T35 g x).f3⟩,q + 1 + 1,Ev.succ ?_,by omega,by omega,by rw [List.length_set]⟩
  simp only [spec_someGroup.j1]
  exact Ev.bind hx (Ev.bind hy (Ev.neg c0 (Ev.neg c1 (Ev.neg c2 (Ev.pos c3 (Ev.pos x0 (Ev.pos x1 (Ev.const rfl))))))))
 ·refine ⟨g,q + 1 + 1,Ev.succ ?_,by omega,by omega,rfl⟩
  simp only [spec_someGroup.j1]
  exact Ev.bind hx (Ev.bind hy (Ev.neg c0 (Ev.neg c1 (Ev.neg c2 (Ev.neg c3 (Ev.const rfl))))))
theorem spec_someGroup_l0 (b : List Int) (hb : byL b) (t : List Cls) (q : Int) (h0 : 0 ≤ q) (h1 : q ≤ 1099511600000) (n : Nat) (hn : 1 ≤ n) (hn2 : n ≤ 1000000) : ∀ (d i : Nat) (g : List Prt),i + d = n → g.length = n → ∃ g' q',Ev (fun k=>spec_someGroup.l0 k g (i : Int) b q t) (t,g',q') ∧ q ≤ q' ∧ q' ≤ q + 3 ∧ g'.length = n:=by
 intro d
 induction d with
 | zero =>
  intro i g hi hg
  obtain ⟨g',q',he,a1,a2,a3⟩:=spec_someGroup_j1 b hb t g q h0 h1 (by omega)
  refine ⟨g',q',Ev.succ ?_,a1,a2,by omega⟩
  simp only [spec_someGroup.l0]
  exact Ev.neg (by omega) he
 | succ d ih =>
  intro i g hi hg
  obtain ⟨g',q',he,a1,a2,a3⟩:=ih (i + 1) (g.set ((i : Int)).toNat ⟨wrap64 (((rd_T35 g (i : Int)).f0) - 2),(rd_T35 g (i : Int)).f1,(rd_T35 g (i : Int)).f2,(rd_T35 g (i : Int)).f3⟩) (by omega) (by rw [List.length_set];exact hg)
  refine ⟨g',q',Ev.succ ?_,a1,a2,a3⟩
  simp only [spec_someGroup.l0]
  rw [wrap_succ (i:=(i : Int)) (n:=n) (by omega) (by omega) (by omega)]
  exact Ev.pos (by omega) (Ev.pos (by omega) he)
theorem spec_someGroup_ev (b : List Int) (p : Int) (hb : byL b) (h0 : 0 ≤ p) (hp : p ≤ 1099511500000) : ∃ t g q,Ev (fun k=>spec_someGroup.f k b p) (t,g,q) ∧ p ≤ q ∧ q ≤ p + 400 ∧ t.length ≤ 8 ∧ smT t = true ∧ g.length ≤ 16:=by
 obtain ⟨t,q,ht,h1,h2,h3,h4⟩:=spec_someTree_ev b p hb h0 (by omega)
 have hs:=smT_mk h4
 by_cases hz : (t.length : Int) = 0
 ·exact ⟨t,_,q,Ev.bind ht (Ev.pos hz (Ev.const rfl)),by omega,by omega,h3,hs,by simp⟩
 obtain ⟨g,r,hg,a1,a2,a3,a4⟩:=spec_goodGroup_ev b hb t 3 0 q rfl (by omega) (by omega) (by rw [show cG 3 = 160 by decide];omega) (by decide)
 rw [show cG 3 = 160 by decide] at a2
 rw [show lG 3 = 40 by decide] at a4
 by_cases h16 : (g.length : Int) > 16
 ·obtain ⟨g2,r2,hg2,b1,b2,b3,b4⟩:=spec_goodGroup_ev b hb t 1 2 r rfl (by omega) (by omega) (by rw [show cG 1 = 16 by decide];omega) (by decide)
  rw [show cG 1 = 16 by decide] at b2
  rw [show lG 1 = 4 by decide] at b4
  obtain ⟨g3,r3,hg3,c1,c2,c3⟩:=spec_someGroup_l0 b hb t r2 (by omega) (by omega) g2.length b3 (by omega) g2.length 0 g2 (by omega) rfl
  exact ⟨t,g3,r3,Ev.bind ht (Ev.neg hz (Ev.bind hg (Ev.pos h16 (Ev.bind hg2 hg3)))),by omega,by omega,h3,hs,by omega⟩
 ·obtain ⟨g3,r3,hg3,c1,c2,c3⟩:=spec_someGroup_j1 b hb t g r (by omega) (by omega) a3
  exact ⟨t,g3,r3,Ev.bind ht (Ev.neg hz (Ev.bind hg (Ev.neg h16 hg3))),by omega,by omega,h3,hs,by omega⟩
end Go.Proofs.Ytjdpaholpfpiiaa.P
namespace Go.Proofs.Ytjdpaholpfpiiaa.P
open Go.RowKit Go.Proofs.YtjdpaholpfpiiaaW.PrintWords Go.Proofs.YtjdpaholpfpiiaaW.PrintLast Go.Proofs.YtjdpaholpfpiiaaW.PrintMore
attribute [local go_sem] max2_int min2_int max_two min_two max_three min_three max_four min_four
set_option linter.unusedVariables false
set_option linter.unusedSimpArgs false
def spec_newReader.f (l0 : List Int) : Option (List Int × Int):=if (l0.length : Int) > 2000 then (if 2000 ≤ (l0.length : Int) then (some (l0.take 2000,0)) else (none)) else (some (l0,0))
set_option maxHeartbeats 8000000 in
set_option maxRecDepth 100000 in
theorem spec_newReader.calls (A0 : Option Addr) (c0 : Nat) (l0 : List Int) (r1 : List Int) (r2 : Int) (w0 w : World) (hB : Below w0.heap.size w0 w) (hr0 : Kd.C (Kd.int .u8) w0 A0 l0.length l0) (hc0 : l0.length ≤ c0) (h : spec_newReader.f l0 = some (r1,r2)) :
  Calls Try.prog 21 #[.slice A0 l0.length c0] w fun e w'=>∃ g_ : Nat,e = .returned (.pointer (some ⟨g_,0,none⟩)) ∧ IsS63 w0 w' g_ r1 r2 ∧ Below w0.heap.size w0 w' ∧ Below w.heap.size w w':=by
 have hu63:=Try.underlying63
 have HR0:=a0_ hr0
 have HC0:=a0_ hc0
 clear hr0 hc0
 have HBW:=a0_ (Below.refl w.heap.size w)
 have HW0:=a0_ hB.size
 have HB:=a0_ hB
 clear hB
 have H : (if (l0.length : Int) > 2000 then (if 2000 ≤ (l0.length : Int) then (some (l0.take 2000,0)) else (none)) else (some (l0,0))) = some (r1,r2):=h
 clear h
 by_cases c2 : (l0.length : Int) > 2000
 ·rw [if_pos c2] at H
  have c2b0 : decide (2000 < (l0.length : Int)) = true:=decide_eq_true c2
  have c2b1 : decide (2000 < l0.length) = true:=decide_eq_true (by omega)
  clear c2
  by_cases c3 : 2000 ≤ (l0.length : Int)
  ·rw [if_pos c3] at H
   have c3b0:=eq_true c3
   have c3b1 : decide (2000 ≤ (l0.length : Int)) = true:=decide_eq_true c3
   clear c3
   simp only [Option.some.injEq,Prod.mk.injEq] at H
   obtain ⟨rfl,rfl⟩:=H
   obtain ⟨i04,hi04,_,hsz4,_⟩:=info_parts info5
   obtain ⟨hcut4,hA4,hC4⟩:=print_take_of (P:=Try.prog) (Value.int .u8) 0 22 5 .i64 Try.underlying22 hi04 hsz4 A0 c0 l0 2000 (by omega) (of_decide_eq_true (by first | (with_reducible assumption) | assumption)) HC0.out
   have HR1:=a0_ (Kd.C_of_reads (h1:=fun _=>rfl) (hA4 _ (Kd.reads_of_C HR0.out)))
   have HC1:=a0_ hC4
   clear hA4 hC4 hi04 hsz4
   go_enter Try.func21,Try.ntmps21
   go_wp2_with (first | ((with_reducible refine gate_dst (N:=10) rfl ?_);refine box_event ?hg (N:=10) ?hd (cs:=#[.slice A0 (l0.take 2000).length c0,.int .i64 0]) (t:=63) ?hr ?_;(case hd=>rfl);(case hg=>rfl);(case hr=>first | (go_simp;done) | (go_simp;rfl));intro gb2 hg w5 hbox hb;have n0_:=a0_ (below_step HBW.out hb);have n1_:=a0_ (below_step hb_ hb);have n2_:=a0_ (hbox);have n3_:=a0_ ((by rw [hg];exact (below_size (by repeat (first | (with_reducible first | exact HBW.out | apply below_alloc | apply pw_below_drewN | apply below_drew1) | exact HBW.out))) : w.heap.size ≤ gb2));have n4_:=a0_ ((Nat.le_trans HW0.out (by rw [hg];exact (below_size (by repeat (first | (with_reducible first | exact HBW.out | apply below_alloc | apply pw_below_drewN | apply below_drew1) | exact HBW.out))) : w.heap.size ≤ gb2) : w0.heap.size ≤ gb2));clear HBW HB;have HBW:=n0_;have HB:=n1_;have BK2:=n2_;have GW2:=n3_;have GE2:=n4_;clear n0_ n1_ n2_ n3_ n4_;clear hb hbox hg))
   go_ret
   exact ⟨_,rfl,(show IsS63 w0 _ gb2 (l0.take 2000) 0 from ⟨_,_,by (with_reducible repeat (first | refine blk_drewN ?_ _ | refine blk_drew ?_ | refine blk_alloc ?_ _));exact BK2.out,GE2.out,HR1.out⟩),hb_,by repeat (first | (with_reducible first | exact HBW.out | apply below_alloc | apply pw_below_drewN | apply below_drew1 | refine below_set ?_ GW2.out) | exact HBW.out)⟩
  ·rw [if_neg c3] at H
   exact absurd H (by simp)
 ·rw [if_neg c2] at H
  have c2b0 : decide (2000 < (l0.length : Int)) = false:=decide_eq_false c2
  have c2b1 : decide (2000 < l0.length) = false:=decide_eq_false (by omega)
  clear c2
  simp only [Option.some.injEq,Prod.mk.injEq] at H
  obtain ⟨rfl,rfl⟩:=H
  go_enter Try.func21,Try.ntmps21
  go_wp2_with (first | ((with_reducible refine gate_dst (N:=10) rfl ?_);refine box_event ?hg (N:=10) ?hd (cs:=#[.slice A0 l0.length c0,.int .i64 0]) (t:=63) ?hr ?_;(case hd=>rfl);(case hg=>rfl);(case hr=>first | (go_simp;done) | (go_simp;rfl));intro gb3 hg w6 hbox hb;have n0_:=a0_ (below_step HBW.out hb);have n1_:=a0_ (below_step hb_ hb);have n2_:=a0_ (hbox);have n3_:=a0_ ((by rw [hg];exact (below_size (by repeat (first | (with_reducible first | exact HBW.out | apply below_alloc | apply pw_below_drewN | apply below_drew1) | exact HBW.out))) : w.heap.size ≤ gb3));have n4_:=a0_ ((Nat.le_trans HW0.out (by rw [hg];exact (below_size (by repeat (first | (with_reducible first | exact HBW.out | apply below_alloc | apply pw_below_drewN | apply below_drew1) | exact HBW.out))) : w.heap.size ≤ gb3) : w0.heap.size ≤ gb3));clear HBW HB;have HBW:=n0_;have HB:=n1_;have BK3:=n2_;have GW3:=n3_;have GE3:=n4_;clear n0_ n1_ n2_ n3_ n4_;clear hb hbox hg))
  go_ret
  exact ⟨_,rfl,(show IsS63 w0 _ gb3 l0 0 from ⟨_,_,by (with_reducible repeat (first | refine blk_drewN ?_ _ | refine blk_drew ?_ | refine blk_alloc ?_ _));exact BK3.out,GE3.out,HR0.out⟩),hb_,by repeat (first | (with_reducible first | exact HBW.out | apply below_alloc | apply pw_below_drewN | apply below_drew1 | refine below_set ?_ GW3.out) | exact HBW.out)⟩
theorem spec_newReader_ev (l : List Int) (hl : ∀ x ∈ l,(Lit.int .u8 x).wf = true) : ∃ b,spec_newReader.f l = some (b,0) ∧ byL b:=by
 have h8 : ∀ x ∈ l,0 ≤ x ∧ x ≤ 255:=by
  intro x hx
  have:=hl x hx
  simp [Lit.wf,IntKind.min,IntKind.max,IntKind.bits,IntKind.signed] at this
  omega
 unfold spec_newReader.f
 by_cases h : (l.length : Int) > 2000
 ·refine ⟨l.take 2000,by rw [if_pos h,if_pos (by omega)],?_,fun x hx=>h8 x (List.mem_of_mem_take hx)⟩
  rw [List.length_take]
  omega
 ·exact ⟨l,by rw [if_neg h],by omega,h8⟩
end Go.Proofs.Ytjdpaholpfpiiaa.P
namespace Go.Proofs.Ytjdpaholpfpiiaa.P
open Go.RowKit Go.Proofs.YtjdpaholpfpiiaaW.PrintWords Go.Proofs.YtjdpaholpfpiiaaW.PrintLast Go.Proofs.YtjdpaholpfpiiaaW.PrintMore
attribute [local go_sem] max2_int min2_int max_two min_two max_three min_three max_four min_four
set_option linter.unusedVariables false
set_option linter.unusedSimpArgs false
def spec_DrawSimplifyGroup.f (k : Nat) (l0 : List Int) : Option ((List (S70)) × (List (S35))):=(spec_newReader.f l0).bind fun bt2=>((spec_someGroup.f k bt2.1 bt2.2).bind fun bt5=>(some (bt5.1,bt5.2.1)))
theorem spec_DrawSimplifyGroup.mono : ∀ a0 k,LeO (spec_DrawSimplifyGroup.f k a0) (spec_DrawSimplifyGroup.f (k + 1) a0):=by
 intro a0 k
 unfold spec_DrawSimplifyGroup.f
 repeat' first
   | (with_reducible exact spec_someGroup.mono _ _ _)
   | (with_reducible exact LeO.refl _)
   | (with_reducible exact LeO.none _)
   | (with_reducible refine LeO.ite ?_ ?_)
   | (with_reducible refine LeO.bind ?_ (fun _=>?_))
   | exact spec_someGroup.mono _ _ _
   | exact LeO.none _
   | refine LeO.ite ?_ ?_
   | refine LeO.bind ?_ (fun _=>?_)
set_option maxHeartbeats 8000000 in
set_option maxRecDepth 100000 in
theorem spec_DrawSimplifyGroup.calls (k : Nat) (A0 : Option Addr) (c0 : Nat) (l0 : List Int) (r1 : List (S70)) (r2 : List (S35)) (w : World) (hr0 : Kd.C (Kd.int .u8) w A0 l0.length l0) (hc0 : l0.length ≤ c0) (h : spec_DrawSimplifyGroup.f k l0 = some (r1,r2)) :
  Calls Try.prog 14 #[.slice A0 l0.length c0] w fun e w'=>∃ v0_ v1_ : Value,e = .returned (.tuple #[.agg #[v0_],v1_]) ∧ Kd.R k70 70 w' w.heap.size (fun _=>True) v0_ r1 ∧ Kd.R k35 35 w' w.heap.size (fun _=>True) v1_ r2 ∧ Below w.heap.size w w':=by
 have hu25:=Try.underlying25
 have HR0:=a0_ hr0
 have HC0:=a0_ hc0
 clear hr0 hc0
 have HB:=a0_ (Below.refl w.heap.size w)
 have H : ((spec_newReader.f l0).bind fun bt2=>((spec_someGroup.f k bt2.1 bt2.2).bind fun bt5=>(some (bt5.1,bt5.2.1)))) = some (r1,r2):=h
 clear h
 replace H:=Option.bind_eq_some_iff.mp H
 obtain ⟨⟨t2,t3⟩,A20,H⟩:=H
 try dsimp only at H
 have A2:=a0_ A20
 clear A20
 replace H:=Option.bind_eq_some_iff.mp H
 obtain ⟨⟨t5,t8,t11⟩,A30,H⟩:=H
 replace H : (some (t5,t8)) = some (r1,r2):=H
 have A3:=a0_ A30
 clear A30
 simp only [Option.some.injEq,Prod.mk.injEq] at H
 obtain ⟨rfl,rfl⟩:=H
 go_enter Try.func14,Try.ntmps14
 go_wp2_with (first | ((with_reducible refine gate_dst (N:=2) rfl ?_);refine box_event ?hg (N:=2) ?hd (cs:=#[.slice none 0 0]) (t:=25) ?hr ?_;(case hd=>rfl);(case hg=>rfl);(case hr=>first | (go_simp;done) | (go_simp;rfl));intro gb1 hg w4 hbox hb;have BK1:=a0_ (hbox);have GW1:=a0_ ((by rw [hg];exact (below_size hb_) : w.heap.size ≤ gb1));have GE1:=a0_ ((by rw [hg];exact (below_size hb_) : w.heap.size ≤ gb1));replace HB:=a0_ (below_step hb_ hb);clear hb hbox hg) | ((with_reducible refine gate_callee (f:=21) rfl ?_);refine goesL_ (some 5) rfl rfl Try.func21 (by kernel_rfl) rfl #[.slice A0 l0.length c0] rfl lm_ ?_;(with_reducible refine (spec_newReader.calls _ _ l0 t2 t3 w _ ?side1 ?side2 ?side3 A2.out).mono ?_);(case side1=>exact hb_);(case side2=>exact HR0.out);(case side3=>exact HC0.out);rintro e w5 ⟨g4,rfl,hi,hb,hb2⟩;refine ⟨_,rfl,?_⟩;have n0_:=a0_ (blk_below (bb_ BK1.out) hb2);have n1_:=a0_ (hb);have n2_:=a0_ (hi);have n3_:=a0_ (IsS63.ne_blk hi (blk_below (bb_ BK1.out) hb2) (by decide));have n4_:=a0_ (Ne.symm (IsS63.ne_blk hi (blk_below (bb_ BK1.out) hb2) (by decide)));clear BK1 HB;have BK1:=n0_;have HB:=n1_;have HI4:=n2_;have NB4_1:=n3_;have NB1_4:=n4_;clear n0_ n1_ n2_ n3_ n4_;(try clear hb);(try clear hb2);(try clear hk);(try clear hi)) | ((with_reducible refine gate_callee (f:=20) rfl ?_);refine goesL_ (some 6) rfl rfl Try.func20 (by kernel_rfl) rfl #[.pointer (some ⟨g4,0,none⟩)] rfl lm_ ?_;(with_reducible refine (spec_someGroup.calls k g4 t2 t3 t5 t8 t11 w _ ?side1 ?side2 A3.out).mono ?_);(case side1=>repeat (first | (with_reducible first | exact HI4.out | apply IsS63.alloc | apply IsS63.drewN | apply IsS63.drew | apply IsS63.set_1 | refine IsS63.far ?_ NB4_1.out _) | exact HI4.out));(case side2=>repeat (first | (with_reducible first | exact HB.out | apply below_alloc | apply pw_below_drewN | apply below_drew1 | refine below_set ?_ (IsS63.ge HI4.out) | refine below_set ?_ GE1.out) | exact HB.out));rintro e w6 ⟨v6,v9,rfl,ho0,ho1,hi,hb,hk⟩;refine ⟨_,rfl,?_⟩;replace BK1:=kk_ hk BK1 NB1_4;have HO7:=a0_ (Kd.R_lower ho0 (below_size (by repeat (first | (with_reducible first | exact HB.out | apply below_alloc | apply pw_below_drewN | apply below_drew1 | refine below_set ?_ (IsS63.ge HI4.out) | refine below_set ?_ GE1.out) | exact HB.out))));have HO10:=a0_ (Kd.R_lower ho1 (below_size (by repeat (first | (with_reducible first | exact HB.out | apply below_alloc | apply pw_below_drewN | apply below_drew1 | refine below_set ?_ (IsS63.ge HI4.out) | refine below_set ?_ GE1.out) | exact HB.out))));replace HI4:=a0_ (hi);replace HB:=a0_ (hb);(try clear hb);(try clear ho0);(try clear ho1);obtain ⟨Ao7,co7,eo7⟩:=Kd.R_slice HO7.out;subst eo7;have hnb8:=NB1_4.out;have hnc8:=NB4_1.out;have hcz9_0 : w6.cell? ⟨gb1,0,none⟩ = some (.slice none 0 0):=(blk_cell BK1.out 0).trans rfl;have hfz9_0:=blk_frozen BK1.out 0))
 refine bodyPost_ret (results_ct rfl _ _ gb1 25 #[.slice Ao7 t5.length co7] (0,0) _ rfl (by (with_reducible repeat (first | refine blk_drewN ?_ _ | refine blk_drew ?_ | refine blk_alloc ?_ _));refine blk_put (cs:=#[.slice none 0 0]) ?_ 0 _ rfl;(with_reducible repeat (first | refine blk_drewN ?_ _ | refine blk_drew ?_ | refine blk_alloc ?_ _));exact BK1.out) Try.underlying25 rfl (by kernel_rfl)) rfl ?_
 exact ⟨_,_,by first | rfl | (simp [errW_none,errW_some] <;> rfl) | (simp [*,errW_none,errW_some] <;> rfl),by (with_reducible repeat (first | apply Kd.R_alloc | apply Kd.R_drewN | apply Kd.R_drew));exact Kd.R_mono (Kd.R_far (p:=⟨gb1,0,none⟩) (Kd.R_types HO7.out BK1.out (by decide)) (fun _ hk=>hk.2) (.slice Ao7 t5.length co7)) (fun _ hk=>trivial),by (with_reducible repeat (first | apply Kd.R_alloc | apply Kd.R_drewN | apply Kd.R_drew));exact Kd.R_mono (Kd.R_far (p:=⟨gb1,0,none⟩) (Kd.R_types HO10.out BK1.out (by decide)) (fun _ hk=>hk.2) (.slice Ao7 t5.length co7)) (fun _ hk=>trivial),by repeat (first | (with_reducible first | exact HB.out | apply below_alloc | apply pw_below_drewN | apply below_drew1 | refine below_set ?_ (IsS63.ge HI4.out) | refine below_set ?_ GE1.out) | exact HB.out)⟩
theorem spec_DrawSimplifyGroup_ev (l : List Int) (hl : ∀ x ∈ l,(Lit.int .u8 x).wf = true) : ∃ t g,Ev (fun k=>spec_DrawSimplifyGroup.f k l) (t,g) ∧ t.length ≤ 8 ∧ smT t = true ∧ g.length ≤ 16:=by
 obtain ⟨b,hn,hb⟩:=spec_newReader_ev l hl
 obtain ⟨t,g,q,he,_,_,a3,a4,a5⟩:=spec_someGroup_ev b 0 hb (by omega) (by omega)
 exact ⟨t,g,Ev.bind (Ev.const hn) (Ev.bind he (Ev.const rfl)),a3,a4,a5⟩
end Go.Proofs.Ytjdpaholpfpiiaa.P
namespace Go.Proofs.Ytjdpaholpfpiiaa.P
open Go.RowKit Go.Proofs.YtjdpaholpfpiiaaW.PrintWords Go.Proofs.YtjdpaholpfpiiaaW.PrintLast Go.Proofs.YtjdpaholpfpiiaaW.PrintMore
attribute [local go_sem] max2_int min2_int max_two min_two max_three min_three max_four min_four
set_option linter.unusedVariables false
set_option linter.unusedSimpArgs false
def toLf (p : Prt) : S60:=⟨p.f2,p.f3⟩
def lfs (g : List Prt) : List S60:=(g.filter (fun p=>!p.f1)).map toLf
theorem lfs_len (g : List Prt) : (lfs g).length ≤ g.length:=by
 unfold lfs
 rw [List.length_map]
 exact List.length_filter_le _ _
theorem lfs_step (g : List Prt) (i : Nat) (hi : i < g.length) : lfs (g.take (i + 1)) = lfs (g.take i) ++ (if g[i].f1 = true then [] else [⟨g[i].f2,g[i].f3⟩]):=by
 unfold lfs
 rw [List.take_succ_eq_append_getElem hi,List.filter_append,List.map_append,List.filter_cons,List.filter_nil]
 congr 1
 cases g[i].f1 <;> rfl
def leavesP (t : List Cls) (g : List Prt) : List S60:=if vG t g = true then lfs g else []
theorem leavesP_len (t : List Cls) (g : List Prt) : (leavesP t g).length ≤ g.length:=by
 unfold leavesP
 split
 ·exact lfs_len g
 ·simp
end Go.Proofs.Ytjdpaholpfpiiaa.P
namespace Go.Proofs.Ytjdpaholpfpiiaa.P
open Go.RowKit Go.Proofs.YtjdpaholpfpiiaaW.PrintWords Go.Proofs.YtjdpaholpfpiiaaW.PrintLast Go.Proofs.YtjdpaholpfpiiaaW.PrintMore
attribute [local go_sem] max2_int min2_int max_two min_two max_three min_three max_four min_four
set_option linter.unusedVariables false
set_option linter.unusedSimpArgs false
def d1P (p : Prt) : Prt:=⟨1,p.f1,p.f2,p.f3⟩
def flt (l : List Prt) : List Prt:=(l.filter (fun p=>!p.f1)).map d1P
theorem flt_cons (p : Prt) (l : List Prt) : flt (p :: l) = (if p.f1 = true then [] else [d1P p]) ++ flt l:=by
 unfold flt
 rw [List.filter_cons]
 cases p.f1 <;> rfl
theorem flt_len (l : List Prt) : (flt l).length ≤ l.length:=by
 unfold flt
 rw [List.length_map]
 exact List.length_filter_le _ _
def flatP (t : List Cls) (g : List Prt) : List Prt:=if vG t g = true then g.take 1 ++ flt (g.drop 1) else []
theorem flatP_len (t : List Cls) (g : List Prt) : (flatP t g).length ≤ g.length:=by
 unfold flatP
 split
 ·have:=flt_len (g.drop 1)
  rw [List.length_append,List.length_take]
  rw [List.length_drop] at this
  omega
 ·simp
theorem vG_alone {t : List Cls} {g : List Prt} (h : vG t g = true) (h0 : (g.getD 0 z35).f1 = false) : g.length = 1:=by
 apply Classical.byContradiction
 intro hn
 have hl:=(vG_tree h).2.1
 unfold vG at h
 rw [Bool.and_eq_true] at h
 have h1:=psG_at h.1 1 (by omega)
 have h2:=psG_at h.1 0 (by omega)
 unfold okP okP1 at h1 h2
 simp only [Bool.and_eq_true] at h1 h2
 have hz:=h2.1.2.2.2.2
 have hy:=h1.1.2.2.2.2
 have hb:=h1.1.2.1.1
 have hu:=h1.2.1
 simp at hz hy hb hu
 unfold okUp at hu
 rw [← List.getD_eq_getElem?_getD,← List.getD_eq_getElem?_getD] at hu
 rw [← List.getD_eq_getElem?_getD] at hz hy hb
 rw [h0] at hu
 simp at hu
 rw [← List.getD_eq_getElem?_getD,← List.getD_eq_getElem?_getD] at hu
 omega
end Go.Proofs.Ytjdpaholpfpiiaa.P
namespace Go.Proofs.Ytjdpaholpfpiiaa.P
open Go.RowKit Go.Proofs.YtjdpaholpfpiiaaW.PrintWords Go.Proofs.YtjdpaholpfpiiaaW.PrintLast Go.Proofs.YtjdpaholpfpiiaaW.PrintMore
attribute [local go_sem] max2_int min2_int max_two min_two max_three min_three max_four min_four
set_option linter.unusedVariables false
set_option linter.unusedSimpArgs false
theorem lfs_sel (t : List Cls) (a : Int) (yes : Bool) {g : List Prt} (h : Fr 0 g) : lfs (selR (fun q=>isA t q.f2 a == yes) g) = (lfs g).filter (fun x=>isA t x.f0 a == yes):=by
 unfold lfs
 rw [selR_leaves _ h,List.filter_map]
 rfl
theorem selN_selR (t : List Cls) (g : List Prt) (a : Int) (yes : Bool) : selN t g a yes g.length = selR (fun q=>isA t q.f2 a == yes) g:=by
 rw [← selW_selN,selW_selR]
theorem vG_nil (t : List Cls) : vG t [] = false:=by
 cases h : vG t [] with
 | false=>rfl
 | true=>have:=vG_tree h;simp at this
theorem leavesP_sel {t : List Cls} {g : List Prt} (hv : vG t g = true) (P : Prt → Bool) : leavesP t (selR P g) = lfs (selR P g):=by
 unfold leavesP
 by_cases hn : selR P g = []
 ·rw [hn,vG_nil,if_neg (by simp)]
  rfl
 ·rw [if_pos (vG_sel hv P hn)]
theorem leavesP_ok {t : List Cls} {g : List Prt} (hv : vG t g = true) : leavesP t g = lfs g:=by unfold leavesP;rw [if_pos hv]
theorem Fr_leaf {d : Int} {l : List Prt} (h : Fr d l) : l ≠ [] → ∃ q ∈ l,q.f1 = false:=by
 refine Fr.rec2 (P:=fun d l=>l ≠ [] → ∃ q ∈ l,q.f1 = false) (fun d hn=>absurd rfl hn) (fun d p r h0 h1 _ _ _=>⟨p,by simp,h1⟩) (fun d p k r h0 h1 hne _ _ ihk _ _=>?_) h
 obtain ⟨q,hq,h2⟩:=ihk hne
 exact ⟨q,by simp [hq],h2⟩
theorem vG_leafy {t : List Cls} {g : List Prt} (hv : vG t g = true) : ∃ q ∈ g,q.f1 = false:=by
 refine Fr_leaf (Tre_Fr (vG_tre hv).1) ?_
 obtain ⟨p,r,rfl,_⟩:=(vG_tre hv).1
 simp
def flatL (g : List Prt) : List Prt:=g.take 1 ++ flt (g.drop 1)
theorem flatP_ok {t : List Cls} {g : List Prt} (hv : vG t g = true) : flatP t g = flatL g:=by unfold flatP flatL;rw [if_pos hv]
theorem flt_all (l : List Prt) : ∀ q ∈ flt l,q.f1 = false ∧ q.f0 = 1:=by
 intro q hq
 unfold flt at hq
 obtain ⟨x,hx,rfl⟩:=List.mem_map.1 hq
 have:=(List.mem_filter.1 hx).2
 exact ⟨by simpa [d1P] using this,rfl⟩
theorem Fr_flat {d : Int} : ∀ l : List Prt,(∀ q ∈ l,q.f1 = false ∧ q.f0 = d) → Fr d l:=by
 intro l
 induction l with
 | nil=>intro _;exact Fr.nil d
 | cons p l ih=>intro h;exact Fr.leaf (h p (by simp)).2 (h p (by simp)).1 (ih (fun q hq=>h q (by simp [hq])))
theorem flt_ne {d : Int} {l : List Prt} (h : Fr d l) (hn : l ≠ []) : flt l ≠ []:=by
 obtain ⟨q,hq,h1⟩:=Fr_leaf h hn
 intro he
 unfold flt at he
 rw [List.map_eq_nil_iff] at he
 have : q ∈ l.filter (fun p=>!p.f1):=List.mem_filter.2 ⟨hq,by rw [h1];rfl⟩
 rw [he] at this
 simp at this
theorem flatL_Tre {g : List Prt} (hT : Tre g) : Tre (flatL g):=by
 obtain ⟨p,r,rfl,h0,⟨h1,rfl⟩ | ⟨h1,h2,h3⟩⟩:=hT
 ·exact ⟨p,[],rfl,h0,Or.inl ⟨h1,rfl⟩⟩
 ·exact ⟨p,flt r,rfl,h0,Or.inr ⟨h1,flt_ne h3 h2,Fr_flat _ (flt_all r)⟩⟩
theorem flatL_len (g : List Prt) : (flatL g).length ≤ g.length:=by
 have:=flt_len (g.drop 1)
 unfold flatL
 rw [List.length_append,List.length_take]
 rw [List.length_drop] at this
 omega
theorem flatL_mem {t : List Cls} {g : List Prt} (he : ∀ p ∈ g,okE t p ∧ 0 ≤ p.f0 ∧ p.f0 ≤ 5) : ∀ p ∈ flatL g,okE t p ∧ p.f0 ≤ 5:=by
 intro p hp
 unfold flatL at hp
 rcases List.mem_append.1 hp with hp | hp
 ·have:=he p (List.mem_of_mem_take hp)
  exact ⟨this.1,this.2.2⟩
 ·unfold flt at hp
  obtain ⟨x,hx,rfl⟩:=List.mem_map.1 hp
  have:=he x (List.mem_of_mem_drop (List.mem_filter.1 hx).1)
  exact ⟨this.1,by show (1 : Int) ≤ 5;omega⟩
theorem vG_flat {t : List Cls} {g : List Prt} (hv : vG t g = true) : vG t (flatL g) = true:=by
 obtain ⟨hT,he,hl,ht⟩:=vG_tre hv
 exact vG_mk (flatL_Tre hT) (flatL_mem he) (Nat.le_trans (flatL_len g) hl) ht
theorem lfs_flt (l : List Prt) : lfs (flt l) = lfs l:=by
 unfold lfs
 rw [List.filter_eq_self.2 (fun q hq=>by rw [(flt_all l q hq).1];rfl)]
 unfold flt
 rw [List.map_map]
 rfl
theorem lfs_append (a b : List Prt) : lfs (a ++ b) = lfs a ++ lfs b:=by unfold lfs;rw [List.filter_append,List.map_append]
theorem lfs_flat (g : List Prt) : lfs (flatL g) = lfs g:=by
 unfold flatL
 rw [lfs_append,lfs_flt,← lfs_append,List.take_append_drop]
theorem flt_flt (l : List Prt) : flt (flt l) = flt l:=by
 conv=>lhs;unfold flt
 rw [List.filter_eq_self.2 (fun q hq=>by rw [(flt_all l q hq).1];rfl)]
 conv=>rhs;rw [← List.map_id (flt l)]
 refine List.map_congr_left (fun q hq=>?_)
 have:=(flt_all l q hq).2
 cases q
 simp only at this
 simp [d1P,this]
theorem flatL_flatL (g : List Prt) : flatL (flatL g) = flatL g:=by
 cases g with
 | nil=>rfl
 | cons p r =>
  show [p] ++ flt (flt r) = [p] ++ flt r
  rw [flt_flt]
theorem flatL_depth {t : List Cls} {g : List Prt} (hv : vG t g = true) : ∀ p ∈ flatL g,p.f0 ≤ 1:=by
 obtain ⟨p,r,rfl,h0,_⟩:=(vG_tre hv).1
 intro q hq
 have hq2 : q = p ∨ q ∈ flt r:=by simpa [flatL] using hq
 rcases hq2 with rfl | hq
 ·omega
 ·have:=(flt_all r q hq).2;omega
theorem selR_filter (P : Prt → Bool) {d : Int} : ∀ l : List Prt,(∀ q ∈ l,q.f1 = false ∧ q.f0 = d) → selR P l = l.filter P:=by
 intro l
 induction l with
 | nil=>intro _;rfl
 | cons p l ih =>
  intro h
  have hp:=h p (by simp)
  rw [selR_leaf P hp.2 (Fr_flat l (fun q hq=>h q (by simp [hq]))),ih (fun q hq=>h q (by simp [hq])),List.filter_cons]
  unfold lfQ
  rw [hp.1]
  cases P p <;> rfl
theorem flt_sel (P : Prt → Bool) (hP : ∀ q,P (d1P q) = P q) {d : Int} {l : List Prt} (h : Fr d l) : selR P (flt l) = flt (selR P l):=by
 rw [selR_filter P (flt l) (flt_all l)]
 unfold flt
 rw [selR_leaves P h,List.filter_map]
 congr 1
 refine List.filter_congr (fun q _=>hP q)
theorem flat_sel (P : Prt → Bool) (hP : ∀ q,P (d1P q) = P q) {g : List Prt} (hT : Tre g) : selR P (flatL g) = flatL (selR P g):=by
 obtain ⟨p,r,rfl,h0,⟨h1,rfl⟩ | ⟨h1,h2,h3⟩⟩:=hT
 ·have e : flatL [p] = [p]:=rfl
  rw [e,selR_leaf P h0 (Fr.nil 0)]
  cases lfQ P p <;> rfl
 ·have e1 : flatL (p :: r) = p :: flt r:=rfl
  have e2:=selR_node P h0 h1 h3 (Fr.nil 0)
  have e3:=selR_node P h0 h1 (Fr_flat (flt r) (fun q hq=>flt_all r q hq)) (Fr.nil 0)
  rw [List.append_nil] at e2 e3
  rw [e1,e2,e3,flt_sel P hP h3]
  have e4 : (flt r).any (lfQ P) = r.any (lfQ P):=by
   rw [any_leaves,any_leaves,List.filter_eq_self.2 (fun q hq=>by rw [(flt_all r q hq).1];rfl)]
   unfold flt
   rw [List.any_map]
   congr 1
   funext q
   exact hP q
  rw [e4]
  cases r.any (lfQ P) with
  | false=>rfl
  | true=>simp [flatL,selR]
def mxd (g : List Prt) : Int:=g.foldl (fun m p=>max m p.f0) 0
theorem fold_le (c : Int) : ∀ (g : List Prt) (m : Int),m ≤ c → (∀ p ∈ g,p.f0 ≤ c) → g.foldl (fun m p=>max m p.f0) m ≤ c:=by
 intro g
 induction g with
 | nil=>intro m h _;exact h
 | cons p g ih =>
  intro m h hp
  have h1:=hp p (by simp)
  exact ih _ (show max m p.f0 ≤ c by omega) (fun q hq=>hp q (by simp [hq]))
theorem fold_ge : ∀ (g : List Prt) (m : Int),m ≤ g.foldl (fun m p=>max m p.f0) m ∧ ∀ p ∈ g,p.f0 ≤ g.foldl (fun m p=>max m p.f0) m:=by
 intro g
 induction g with
 | nil=>intro m;exact ⟨Int.le_refl _,fun p hp=>absurd hp (by simp)⟩
 | cons q g ih =>
  intro m
  have:=ih (max m q.f0)
  refine ⟨by show m ≤ g.foldl _ (max m q.f0);omega,fun p hp=>?_⟩
  rcases List.mem_cons.1 hp with rfl | hp
  ·show p.f0 ≤ g.foldl _ (max m p.f0)
   omega
  ·exact this.2 p hp
theorem mxd_sub {a b : List Prt} (h : ∀ p ∈ a,p ∈ b) : mxd a ≤ mxd b:=fold_le _ a 0 (fold_ge b 0).1 (fun p hp=>(fold_ge b 0).2 p (h p hp))
theorem mxd_flat {t : List Cls} {g : List Prt} (hv : vG t g = true) : mxd (flatL g) ≤ 1:=fold_le _ _ 0 (by omega) (flatL_depth hv)
end Go.Proofs.Ytjdpaholpfpiiaa.P
namespace Go.Proofs.Ytjdpaholpfpiiaa.P
open Go.RowKit Go.Proofs.YtjdpaholpfpiiaaW.PrintWords Go.Proofs.YtjdpaholpfpiiaaW.PrintLast Go.Proofs.YtjdpaholpfpiiaaW.PrintMore
attribute [local go_sem] max2_int min2_int max_two min_two max_three min_three max_four min_four
set_option linter.unusedVariables false
set_option linter.unusedSimpArgs false
theorem belw_all {p : Prt} {k s : List Prt} (hk : ∀ x ∈ k,p.f0 < x.f0) (hs : ∀ h,s.head? = some h → h.f0 ≤ p.f0) : belw p (k ++ s) = k:=by
 rw [belw_stop (q:=p) k s hs]
 unfold belw
 exact tw_all (fun x hx=>by have:=hk x hx;simp;omega)
theorem kidR_wra : ∀ (l : List (List Prt)),(∀ x ∈ l,Tre x) → ∀ n,((l.map (dpr 1)).flatten).length ≤ n → kidR n ((l.map (dpr 1)).flatten) = l.map (dpr 1) ∧ Fr 1 ((l.map (dpr 1)).flatten):=by
 intro l
 induction l with
 | nil =>
  intro _ n _
  refine ⟨?_,Fr.nil 1⟩
  cases n <;> rfl
 | cons x l ih =>
  intro hl n hn
  rw [List.map_cons,List.flatten_cons] at hn ⊢
  have ih':=ih (fun y hy=>hl y (by simp [hy]))
  obtain ⟨p,r,rfl,h0,h1⟩:=hl x (by simp)
  have hrest:=(ih' _ (Nat.le_refl _)).2
  have hd : dpr 1 (p :: r) = ⟨p.f0 + 1,p.f1,p.f2,p.f3⟩ :: dpr 1 r:=rfl
  have hk : ∀ y ∈ dpr 1 r,p.f0 + 1 < y.f0:=by
   intro y hy
   rcases h1 with ⟨_,rfl⟩ | ⟨_,_,h3⟩
   ·simp [dpr] at hy
   ·have h4:=(Fr_dpr 1 h3).depth.1 y hy
    omega
  have hb : belw ⟨p.f0 + 1,p.f1,p.f2,p.f3⟩ (dpr 1 r ++ (l.map (dpr 1)).flatten) = dpr 1 r:=by
   refine belw_all hk (fun h hh=>?_)
   have:=hrest.depth.2 h hh
   show h.f0 ≤ p.f0 + 1
   omega
  rw [hd,List.cons_append] at hn ⊢
  rw [List.length_cons,List.length_append] at hn
  cases n with
  | zero=>omega
  | succ n =>
   constructor
   ·rw [kidR,hb,List.drop_left,(ih' n (by omega)).1]
   ·rcases h1 with ⟨h2,rfl⟩ | ⟨h2,h3,h4⟩
    ·exact Fr.leaf (show p.f0 + 1 = 1 by omega) h2 hrest
    ·refine Fr.node (show p.f0 + 1 = 1 by omega) h2 (fun hh=>h3 ?_) (Fr_dpr 1 h4) hrest
     unfold dpr at hh
     exact List.map_eq_nil_iff.1 hh
theorem kidL_wra (l : List (List Prt)) (c : Int) (hl : ∀ x ∈ l,Tre x) : kidL (wraL l c) = l:=by
 unfold kidL wraL
 rw [List.drop_one,List.tail_cons,(kidR_wra l hl _ (by rw [List.length_cons];omega)).1,List.map_map]
 have e : (dpr (-1) ∘ dpr 1) = id:=by
  funext x
  exact dpr_dpr 1 (-1) x (by omega)
 rw [e,List.map_id]
end Go.Proofs.Ytjdpaholpfpiiaa.P
namespace Go.Proofs.Ytjdpaholpfpiiaa.P
open Go.RowKit Go.Proofs.YtjdpaholpfpiiaaW.PrintWords Go.Proofs.YtjdpaholpfpiiaaW.PrintLast Go.Proofs.YtjdpaholpfpiiaaW.PrintMore
attribute [local go_sem] max2_int min2_int max_two min_two max_three min_three max_four min_four
set_option linter.unusedVariables false
set_option linter.unusedSimpArgs false
def simR : Nat → List Prt → List Prt
 | 0,g=>g
 | n + 1,g=>if (g.getD 0 z35).f1 = true then (if ((kidL g).map (simR n)).length = 1 then ((kidL g).map (simR n)).getD 0 [] else wraL ((kidL g).map (simR n)) (g.getD 0 z35).f3) else g
def simP (t : List Cls) (g : List Prt) : List Prt:=if vG t g = true then simR 16 g else []
def okG (g : List Prt) : Prop:=Tre g ∧ (∀ p ∈ g,p.f0 ≤ 5 ∧ (p.f1 = true → p.f2 = 0)) ∧ g.length ≤ 16
theorem okG_pos {g : List Prt} (h : okG g) : 1 ≤ g.length:=by obtain ⟨⟨p,r,rfl,_⟩,_⟩:=h;simp
theorem okG_low {g : List Prt} (h : okG g) : ∀ p ∈ g,0 ≤ p.f0:=(Tre_Fr h.1).depth.1
theorem okG_vG {t : List Cls} {g : List Prt} (h : vG t g = true) : okG g:=by
 obtain ⟨hT,he,hl,_⟩:=vG_tre h
 exact ⟨hT,fun p hp=>⟨(he p hp).2.2,(he p hp).1.2.1⟩,hl⟩
theorem okG_kid {g : List Prt} (h : okG g) : ∀ x ∈ kidL g,okG x ∧ x.length < g.length:=by
 intro x hx
 obtain ⟨a,b,c⟩:=kidL_all h.1 x hx
 refine ⟨⟨a,fun q hq=>?_,by have:=h.2.2;omega⟩,b⟩
 obtain ⟨p,hp,rfl⟩:=c q hq
 have:=h.2.1 p hp
 exact ⟨by show p.f0 + -1 ≤ 5;omega,this.2⟩
theorem kid_leaf {g : List Prt} (h : Tre g) (hf : (g.getD 0 z35).f1 = false) : kidL g = [] ∧ g.length = 1:=by
 obtain ⟨p,r,rfl,_,⟨_,rfl⟩ | ⟨h1,_⟩⟩:=h
 ·exact ⟨rfl,rfl⟩
 ·have : p.f1 = false:=hf
  rw [h1] at this
  cases this
theorem kid_node {g : List Prt} (h : Tre g) (hf : (g.getD 0 z35).f1 = true) : kidL g ≠ []:=by
 intro hk
 have e:=kidL_flat h
 rw [hk] at e
 obtain ⟨p,r,rfl,_,⟨h1,_⟩ | ⟨_,h2,_⟩⟩:=h
 ·have : p.f1 = true:=hf
  rw [h1] at this
  cases this
 ·exact h2 e.symm
theorem simR_leaf (n : Nat) {g : List Prt} (hf : (g.getD 0 z35).f1 = false) : simR n g = g:=by
 cases n with
 | zero=>rfl
 | succ n=>rw [simR,if_neg (by rw [hf];simp)]
theorem simR_one {n : Nat} {g : List Prt} (hf : (g.getD 0 z35).f1 = true) (h1 : (kidL g).length = 1) : simR (n + 1) g = ((kidL g).map (simR n)).getD 0 []:=by
 rw [simR,if_pos hf,if_pos (by rw [List.length_map];exact h1)]
theorem simR_wra {n : Nat} {g : List Prt} (hf : (g.getD 0 z35).f1 = true) (h1 : ¬ (kidL g).length = 1) : simR (n + 1) g = wraL ((kidL g).map (simR n)) (g.getD 0 z35).f3:=by
 rw [simR,if_pos hf,if_neg (by rw [List.length_map];exact h1)]
theorem lfs_dpr (d : Int) (g : List Prt) : lfs (dpr d g) = lfs g:=by
 unfold lfs dpr
 rw [List.filter_map,List.map_map]
 rfl
theorem lfs_flats (f : List Prt → List Prt) : ∀ K : List (List Prt),(∀ x ∈ K,lfs (f x) = lfs x) → lfs (((K.map f).map (dpr 1)).flatten) = lfs ((K.map (dpr 1)).flatten):=by
 intro K
 induction K with
 | nil=>intro _;rfl
 | cons x K ih =>
  intro h
  rw [List.map_cons,List.map_cons,List.map_cons,List.flatten_cons,List.flatten_cons,lfs_append,lfs_append,lfs_dpr,lfs_dpr,h x (by simp),ih (fun y hy=>h y (by simp [hy]))]
theorem flat_mono (f : List Prt → List Prt) : ∀ K : List (List Prt),(∀ x ∈ K,(f x).length ≤ x.length) → ((K.map f).map (dpr 1)).flatten.length ≤ ((K.map (dpr 1)).flatten).length:=by
 intro K
 induction K with
 | nil=>intro _;exact Nat.le_refl _
 | cons x K ih =>
  intro h
  have h1:=h x (by simp)
  have h2:=ih (fun y hy=>h y (by simp [hy]))
  rw [List.map_cons,List.map_cons,List.map_cons,List.flatten_cons,List.flatten_cons,List.length_append,List.length_append,dpr_len,dpr_len]
  omega
theorem lfs_node {p : Prt} {r : List Prt} (h : p.f1 = true) : lfs (p :: r) = lfs r:=by
 unfold lfs
 rw [List.filter_cons,if_neg (by rw [h];simp)]
theorem wraL_parts {L : List (List Prt)} {c : Int} (hL : ∀ y ∈ L,Tre y) (hn : L ≠ []) : Tre (wraL L c):=by
 obtain ⟨_,hF⟩:=kidR_wra L hL _ (Nat.le_refl _)
 refine ⟨_,_,rfl,rfl,Or.inr ⟨rfl,fun hh=>?_,hF⟩⟩
 have h1:=flat_ge L (fun x hx=>by obtain ⟨p,r,rfl,_⟩:=hL x hx;simp)
 have h2:=flat_len (dpr 1) (dpr_len 1) L
 rw [hh,List.length_nil] at h2
 have:=List.length_pos_iff.2 hn
 omega
theorem simR_all : ∀ (n : Nat) (g : List Prt),g.length ≤ n → okG g → okG (simR n g) ∧ (simR n g).length ≤ g.length ∧ (∀ q ∈ simR n g,∃ p ∈ g,q.f1 = p.f1 ∧ q.f2 = p.f2 ∧ q.f3 = p.f3 ∧ q.f0 ≤ p.f0) ∧ lfs (simR n g) = lfs g ∧ (kidL (simR n g)).length ≠ 1 ∧ (∀ m,(simR n g).length ≤ m → simR m (simR n g) = simR n g) ∧ (∀ x ∈ kidL (simR n g),∀ m,x.length ≤ m → simR m x = x):=by
 intro n
 induction n with
 | zero=>intro g hl hG;exact absurd (okG_pos hG) (by omega)
 | succ n ih =>
  intro g hl hG
  cases hf : (g.getD 0 z35).f1 with
  | false =>
   rw [simR_leaf _ hf]
   refine ⟨hG,Nat.le_refl _,fun q hq=>⟨q,hq,rfl,rfl,rfl,Int.le_refl _⟩,rfl,by rw [(kid_leaf hG.1 hf).1];simp,fun m _=>simR_leaf m hf,fun x hx=>?_⟩
   rw [(kid_leaf hG.1 hf).1] at hx
   simp at hx
  | true =>
   have hkG:=okG_kid hG
   have hI : ∀ x ∈ kidL g,_:=fun x hx=>ih x (by have:=(hkG x hx).2;omega) (hkG x hx).1
   have hhead : ∀ q ∈ kidL g,∀ y ∈ q,∃ p ∈ g,y = ⟨p.f0 + -1,p.f1,p.f2,p.f3⟩:=fun x hx=>(kidL_all hG.1 x hx).2.2
   have hflat:=kidL_flat hG.1
   obtain ⟨p0,r0,eg,hd0,hnode⟩:=hG.1
   have hp0 : p0.f1 = true:=by rw [eg] at hf;exact hf
   have hlf : lfs g = lfs (g.drop 1):=by rw [eg,lfs_node hp0];rfl
   by_cases h1 : (kidL g).length = 1
   ·rw [simR_one hf h1]
    obtain ⟨x,hx⟩:=List.length_eq_one_iff.1 h1
    have hxm : x ∈ kidL g:=by rw [hx];simp
    obtain ⟨i1,i2,i3,i4,i5,i6,i7⟩:=hI x hxm
    have e : ((kidL g).map (simR n)).getD 0 [] = simR n x:=by rw [hx];rfl
    rw [e]
    refine ⟨i1,by have:=(hkG x hxm).2;omega,fun q hq=>?_,?_,i5,i6,i7⟩
    ·obtain ⟨p',hp',a,b,c,d⟩:=i3 q hq
     obtain ⟨p,hp,rfl⟩:=hhead x hxm p' hp'
     exact ⟨p,hp,a,b,c,by have d' : q.f0 ≤ p.f0 + -1:=d;omega⟩
    ·rw [i4,hlf,← hflat,hx]
     simp only [List.map_cons,List.map_nil,List.flatten_cons,List.flatten_nil,List.append_nil]
     rw [lfs_dpr]
   ·rw [simR_wra hf h1]
    have hLT : ∀ y ∈ (kidL g).map (simR n),Tre y:=fun y hy=>by
     obtain ⟨x,hx,rfl⟩:=List.mem_map.1 hy
     exact (hI x hx).1.1
    have hLn : (kidL g).map (simR n) ≠ []:=fun hh=>kid_node hG.1 hf (List.map_eq_nil_iff.1 hh)
    have hT:=wraL_parts (c:=(g.getD 0 z35).f3) hLT hLn
    have hK:=kidL_wra ((kidL g).map (simR n)) (g.getD 0 z35).f3 hLT
    have hel : ∀ q ∈ wraL ((kidL g).map (simR n)) (g.getD 0 z35).f3,∃ p ∈ g,q.f1 = p.f1 ∧ q.f2 = p.f2 ∧ q.f3 = p.f3 ∧ q.f0 ≤ p.f0:=by
     intro q hq
     rcases List.mem_cons.1 hq with rfl | hq
     ·have hm : p0 ∈ g:=by rw [eg];simp
      refine ⟨p0,hm,hp0.symm,((hG.2.1 p0 hm).2 hp0).symm,by rw [eg];rfl,by show (0 : Int) ≤ p0.f0;omega⟩
     ·obtain ⟨y,hy,hqy⟩:=List.mem_flatten.1 hq
      obtain ⟨z,hz,rfl⟩:=List.mem_map.1 hy
      obtain ⟨x,hx,rfl⟩:=List.mem_map.1 hz
      obtain ⟨q',hq',rfl⟩:=List.mem_map.1 hqy
      obtain ⟨p',hp',a,b,c,d⟩:=(hI x hx).2.2.1 q' hq'
      obtain ⟨p,hp,rfl⟩:=hhead x hx p' hp'
      exact ⟨p,hp,a,b,c,by have d' : q'.f0 ≤ p.f0 + -1:=d;show q'.f0 + 1 ≤ p.f0;omega⟩
    have hln : (wraL ((kidL g).map (simR n)) (g.getD 0 z35).f3).length ≤ g.length:=by
     have h2:=flat_mono (simR n) (kidL g) (fun x hx=>(hI x hx).2.1)
     rw [hflat,List.length_drop] at h2
     unfold wraL
     rw [List.length_cons]
     have:=okG_pos hG
     omega
    have hI6 : ∀ m,(∀ y ∈ (kidL g).map (simR n),y.length ≤ m) → ((kidL g).map (simR n)).map (simR m) = (kidL g).map (simR n):=by
     intro m hm
     conv=>rhs;rw [← List.map_id ((kidL g).map (simR n))]
     refine List.map_congr_left (fun y hy=>?_)
     have hy2:=hm y hy
     obtain ⟨x,hx,rfl⟩:=List.mem_map.1 hy
     exact (hI x hx).2.2.2.2.2.1 m hy2
    refine ⟨⟨hT,fun q hq=>?_,by have:=hG.2.2;omega⟩,hln,hel,?_,by rw [hK,List.length_map];exact h1,fun m hm=>?_,fun y hy m hm=>?_⟩
    ·obtain ⟨p,hp,a,b,c,d⟩:=hel q hq
     have:=hG.2.1 p hp
     exact ⟨by omega,fun h=>by rw [b];exact this.2 (by rw [← a];exact h)⟩
    ·have : lfs (wraL ((kidL g).map (simR n)) (g.getD 0 z35).f3) = lfs ((((kidL g).map (simR n)).map (dpr 1)).flatten):=lfs_node rfl
     rw [this,lfs_flats _ _ (fun x hx=>(hI x hx).2.2.2.1),hflat,hlf]
    ·cases m with
     | zero=>exact absurd hm (by unfold wraL;simp)
     | succ m =>
      have hy2 : ∀ y ∈ (kidL g).map (simR n),y.length ≤ m:=fun y hy=>by
       have:=(kidL_all hT y (by rw [hK];exact hy)).2.1
       omega
      rw [simR_wra (by rfl) (by rw [hK,List.length_map];exact h1),hK,hI6 m hy2]
      rfl
    ·rw [hK] at hy
     obtain ⟨x,hx,rfl⟩:=List.mem_map.1 hy
     exact (hI x hx).2.2.2.2.2.1 m hm
theorem vG_sim {t : List Cls} {g : List Prt} (hv : vG t g = true) : vG t (simR 16 g) = true:=by
 obtain ⟨hT,he,hl,ht⟩:=vG_tre hv
 obtain ⟨a,b,c,_⟩:=simR_all 16 g hl (okG_vG hv)
 refine vG_mk a.1 (fun q hq=>?_) a.2.2 ht
 obtain ⟨p,hp,e1,e2,e3,e4⟩:=c q hq
 have hp2:=he p hp
 refine ⟨⟨by rw [e3];exact hp2.1.1,fun h=>by rw [e2];exact hp2.1.2.1 (by rw [← e1];exact h),fun h=>by rw [e2];exact hp2.1.2.2 (by rw [← e1];exact h)⟩,by omega⟩
end Go.Proofs.Ytjdpaholpfpiiaa.P
namespace Go.Proofs.Ytjdpaholpfpiiaa.P
open Go.RowKit Go.Proofs.YtjdpaholpfpiiaaW.PrintWords Go.Proofs.YtjdpaholpfpiiaaW.PrintLast Go.Proofs.YtjdpaholpfpiiaaW.PrintMore
attribute [local go_sem] max2_int min2_int max_two min_two max_three min_three max_four min_four
set_option linter.unusedVariables false
set_option linter.unusedSimpArgs false
def slices_Clip_Part.f (l0 : List (S35)) : Option ((List (S35))):=if 0 ≤ (l0.length : Int) then (if (l0.length : Int) ≤ (l0.length : Int) then (some (l0.take ((l0.length : Int) : Int).toNat)) else (none)) else (none)
set_option maxHeartbeats 8000000 in
set_option maxRecDepth 100000 in
theorem slices_Clip_Part.calls (P0_ : Nat → Prop) (u9000_ : Value) (l0 : List (S35)) (r : List (S35)) (w0 w : World) (hB : Below w0.heap.size w0 w) (ho0 : Kd.R k35 35 w w0.heap.size P0_ u9000_ l0) (h : slices_Clip_Part.f l0 = some r) :
  Calls Try.prog 46 #[u9000_] w fun e w'=>∃ v0_ : Value,e = .returned (v0_) ∧ Kd.R k35 35 w' w0.heap.size (fun k_=>(P0_ k_ ∨ w.heap.size ≤ k_)) v0_ r ∧ Below w0.heap.size w0 w' ∧ Kept w w' (fun k_=>P0_ k_):=by
 have HO0:=a0_ (show Kd.R k35 35 w w0.heap.size (fun k_=>(P0_ k_ ∨ w.heap.size ≤ k_)) u9000_ l0 from Kd.R_mono ho0 (fun k_ hk=>(.inl hk)))
 have HK:=a0_ (Kept.refl w (fun k_=>P0_ k_))
 have HW0:=a0_ hB.size
 have HB:=a0_ hB
 clear hB
 have H : (if 0 ≤ (l0.length : Int) then (if (l0.length : Int) ≤ (l0.length : Int) then (some (l0.take ((l0.length : Int) : Int).toNat)) else (none)) else (none)) = some r:=h
 clear h
 by_cases c2 : 0 ≤ (l0.length : Int)
 ·rw [if_pos c2] at H
  have c2b0:=eq_true c2
  have c2b1 : decide (0 ≤ (l0.length : Int)) = true:=decide_eq_true c2
  clear c2
  by_cases c3 : (l0.length : Int) ≤ (l0.length : Int)
  ·rw [if_pos c3] at H
   have c3b0:=eq_true c3
   have c3b1 : decide ((l0.length : Int) ≤ (l0.length : Int)) = true:=decide_eq_true c3
   clear c3
   obtain ⟨y1,hy1⟩ : ∃ y_ : List (S35),y_ = (l0.take ((l0.length : Int) : Int).toNat):=⟨_,rfl⟩
   replace H : (some y1) = some r:=by first | (rw [hy1];with_reducible exact H) | (have H2_:=(Option.bind_some _ _).symm.trans H;rw [hy1];with_reducible exact H2_) | (have H2_:=(Option.bind_some _ _).symm.trans H;with_reducible exact H2_) | with_reducible exact H | (rw [hy1];exact H) | exact H
   have Ny1:=a0_ hy1
   clear hy1
   obtain rfl:=Option.some.inj H
   obtain ⟨Ao4,co4,eo4⟩:=Kd.R_slice HO0.out
   subst eo4
   have q5 : l0.length ≤ co4:=(Kd.R_reads' HO0.out).2.1
   have hr5:=Kd.R_clip2 HO0.out (((l0.length : Int) : Int).toNat) (by omega)
   rw [← Ny1.out] at hr5
   clear HO0
   have HO3:=a0_ hr5
   clear hr5
   go_enter Try.func46,Try.ntmps46
   go_wp2
   go_ret
   exact ⟨_,by first | rfl | (simp [errW_none,errW_some] <;> rfl) | (simp [*,errW_none,errW_some] <;> rfl),by (with_reducible repeat (first | apply Kd.R_alloc | apply Kd.R_drewN | apply Kd.R_drew));exact HO3.out,hb_,by repeat (first | (with_reducible first | exact HK.out | apply Kept.alloc | apply Kept.drewN | apply Kept.drew) | exact HK.out)⟩
  ·rw [if_neg c3] at H
   exact absurd H (by simp)
 ·rw [if_neg c2] at H
  exact absurd H (by simp)
theorem slices_Clip_Part_ev (l : List Prt) : slices_Clip_Part.f l = some l:=by
 unfold slices_Clip_Part.f
 rw [if_pos (by omega),if_pos (by omega)]
 simp
end Go.Proofs.Ytjdpaholpfpiiaa.P
namespace Go.Proofs.Ytjdpaholpfpiiaa.P
open Go.RowKit Go.Proofs.YtjdpaholpfpiiaaW.PrintWords Go.Proofs.YtjdpaholpfpiiaaW.PrintLast Go.Proofs.YtjdpaholpfpiiaaW.PrintMore
attribute [local go_sem] max2_int min2_int max_two min_two max_three min_three max_four min_four
set_option linter.unusedVariables false
set_option linter.unusedSimpArgs false
def impl_wrapped.l0 : Nat → List (S35) → List (List (S35)) → Int → Int → Option ((List (S35)))
 | 0,_,_,_,_=>none
 | k + 1,x5,x11,x12,x13=>if x13 < x12 then (if 0 ≤ x13 then (if x13 < (x11.length : Int) then ((impl_deeper.f k (rd_L8 x11 x13) 1).bind fun t5=>(if x5.length + t5.length < 4398046511104 then (impl_wrapped.l0 k (x5 ++ t5) x11 x12 (wrap64 (x13 + 1))) else (none))) else (none)) else (none)) else ((slices_Clip_Part.f x5).bind fun t11=>(some t11))
def impl_wrapped.f (k : Nat) (l0 : List (List (S35))) (a1 : Int) : Option ((List (S35))):=impl_wrapped.l0 k (([(⟨0,true,0,a1⟩ : S35)] : List (S35))) l0 (l0.length : Int) 0
theorem impl_wrapped.mono_l : ∀ k,(∀ y0 y1 y2 y3,LeO (impl_wrapped.l0 k y0 y1 y2 y3) (impl_wrapped.l0 (k + 1) y0 y1 y2 y3))
 | 0=>fun _ _ _ _ r h=>by simp [impl_wrapped.l0] at h
 | k + 1=>by
  have ih0:=impl_wrapped.mono_l k
  ·intro y0 y1 y2 y3
   unfold impl_wrapped.l0
   repeat' first
   | (with_reducible exact ih0 _ _ _ _)
   | (with_reducible exact impl_deeper.mono _ _ _)
   | (with_reducible exact LeO.refl _)
   | (with_reducible exact LeO.none _)
   | (with_reducible refine LeO.ite ?_ ?_)
   | (with_reducible refine LeO.bind ?_ (fun _=>?_))
   | exact ih0 _ _ _ _
   | exact impl_deeper.mono _ _ _
   | exact LeO.none _
   | refine LeO.ite ?_ ?_
   | refine LeO.bind ?_ (fun _=>?_)
theorem impl_wrapped.mono : ∀ a0 a1 k,LeO (impl_wrapped.f k a0 a1) (impl_wrapped.f (k + 1) a0 a1):=by
 intro a0 a1 k
 have ih0:=impl_wrapped.mono_l k
 unfold impl_wrapped.f
 repeat' first
   | (with_reducible exact ih0 _ _ _ _)
   | (with_reducible exact impl_deeper.mono _ _ _)
   | (with_reducible exact LeO.refl _)
   | (with_reducible exact LeO.none _)
   | (with_reducible refine LeO.ite ?_ ?_)
   | (with_reducible refine LeO.bind ?_ (fun _=>?_))
   | exact ih0 _ _ _ _
   | exact impl_deeper.mono _ _ _
   | exact LeO.none _
   | refine LeO.ite ?_ ?_
   | refine LeO.bind ?_ (fun _=>?_)
set_option maxHeartbeats 8000000 in
set_option maxRecDepth 100000 in
theorem impl_wrapped.calls (k : Nat) (A0 : Option Addr) (c0 : Nat) (l0 : List (List (S35))) (a1 : Int) (r : List (S35)) (w : World) (hr0 : Kd.C (Kd.slice 35 k35) w A0 l0.length l0) (hc0 : l0.length ≤ c0) (h : impl_wrapped.f k l0 a1 = some r) :
  Calls Try.prog 27 #[.slice A0 l0.length c0,.int .i64 a1] w fun e w'=>∃ v0_ : Value,e = .returned (v0_) ∧ Kd.R k35 35 w' w.heap.size (fun _=>True) v0_ r ∧ Below w.heap.size w w':=by
 have hu35:=Try.underlying35
 have HR0:=a0_ hr0
 have HC0:=a0_ hc0
 clear hr0 hc0
 have HB:=a0_ (Below.refl w.heap.size w)
 have H : (impl_wrapped.l0 k (([(⟨0,true,0,a1⟩ : S35)] : List (S35))) l0 (l0.length : Int) 0) = some r:=h
 clear h
 obtain ⟨y1,hy1⟩ : ∃ y_ : List (S35),y_ = (([(⟨0,true,0,a1⟩ : S35)] : List (S35))):=⟨_,rfl⟩
 replace H : (impl_wrapped.l0 k y1 l0 (l0.length : Int) 0) = some r:=by first | (rw [hy1];with_reducible exact H) | (have H2_:=(Option.bind_some _ _).symm.trans H;rw [hy1];with_reducible exact H2_) | (have H2_:=(Option.bind_some _ _).symm.trans H;with_reducible exact H2_) | with_reducible exact H | (rw [hy1];exact H) | exact H
 have Ny1:=a0_ hy1
 clear hy1
 have H':=a0_ H
 clear H
 go_enter Try.func27,Try.ntmps27
 go_wp2_with (first | ((with_reducible refine gate_dst (N:=10) rfl ?_);refine Kd.R_lit k35 _ 35 ?hg (N:=10) ?hd (xs:=([(⟨0,true,0,a1⟩ : S35)] : List (S35))) (inner:=[.int .i64 0,.bool true,.int .i64 0,.int .i64 a1]) (ok:=fun _=>True) (okp:=fun _=>True) ?hr ?hp (fun _ hk=>hk) trivial (Below.refl _ _) (Nat.le_refl _) (by simp) ?_;(case hd=>rfl);(case hg=>rfl);(case hr=>first | (go_simp;done) | (go_simp;rfl));(case hp=>exact (Reps.c4 (show Kd.M k35 _ _ _ (⟨0,true,0,a1⟩ : S35) [.int .i64 0,.bool true,.int .i64 0,.int .i64 a1] from (k35_mkM _ _ _ (⟨0,true,0,a1⟩ : S35) )) (Reps.none _ _)));intro v2 w3 ho4 hb hg_ hnew_;clear hg_ hnew_;(first | rw [← Ny1.out] at ho4 | (simp only [Int.reduceToNat] at ho4;rw [← Ny1.out] at ho4));have HO3:=a0_ (Kd.R_lower ho4 (below_size hb_));replace HB:=a0_ (below_step hb_ hb);clear hb ho4))
 go_loopg [5,13] k (fun kq v5 v13 w'=>∃ (x5_1 : List (S35)) (x13_1 : Int),v13 = .int .i64 x13_1 ∧ Aside0 (impl_wrapped.l0 kq x5_1 l0 (l0.length : Int) x13_1 = some r) ∧ Aside0 (kq ≤ k) ∧ Aside0 (Kd.R k35 35 w' w.heap.size (fun _=>True) v5 x5_1) ∧ Aside0 (Below w.heap.size w w'))
 case atStart=>exact ⟨(y1),(0),(by first | rfl | (simp;done) | (simp [*];done)),H',⟨Nat.le_refl _⟩,⟨by (with_reducible repeat (first | apply Kd.R_alloc | apply Kd.R_drewN | apply Kd.R_drew));exact HO3.out⟩,⟨hb_⟩⟩
 case round =>
  clear H'
  try clear c2
  try clear p2
  try clear c4
  obtain ⟨x5_1,x13_1,rfl,HA,HK1,HO_5,HB⟩:=hrel
  cases gk with
  | zero=>exact absurd HA.out (by simp [impl_wrapped.l0])
  | succ k1 =>
   have H:=HA.out
   clear HA
   simp only [impl_wrapped.l0] at H
   by_cases c5 : x13_1 < (l0.length : Int)
   ·rw [if_pos c5] at H
    have c5b0 : decide (x13_1 < (l0.length : Int)) = true:=decide_eq_true c5
    clear c5
    by_cases c6 : 0 ≤ x13_1
    ·rw [if_pos c6] at H
     have c6b0 : decide (0 ≤ x13_1) = true:=decide_eq_true c6
     clear c6
     by_cases c7 : x13_1 < (l0.length : Int)
     ·rw [if_pos c7] at H
      have c7b0 : decide (x13_1 < (l0.length : Int)) = true:=decide_eq_true c7
      clear c7
      replace H:=Option.bind_eq_some_iff.mp H
      obtain ⟨t5,A80,H⟩:=H
      try dsimp only at H
      have A8:=a0_ A80
      clear A80
      by_cases c9 : x5_1.length + t5.length < 4398046511104
      ·rw [if_pos c9] at H
       have LMc9:=a0_ c9
       clear c9
       obtain ⟨y8,hy8⟩ : ∃ y_ : List (S35),y_ = (x5_1 ++ t5):=⟨_,rfl⟩
       replace H : (impl_wrapped.l0 k1 y8 l0 (l0.length : Int) (wrap64 (x13_1 + 1))) = some r:=by first | (rw [hy8];with_reducible exact H) | (have H2_:=(Option.bind_some _ _).symm.trans H;rw [hy8];with_reducible exact H2_) | (have H2_:=(Option.bind_some _ _).symm.trans H;with_reducible exact H2_) | with_reducible exact H | (rw [hy8];exact H) | exact H
       have Ny8:=a0_ hy8
       clear hy8
       have H':=a0_ H
       clear H
       have p4 : 0 ≤ (x13_1 : Int):=of_decide_eq_true (by first | (with_reducible assumption) | assumption)
       have q4 : x13_1 < (l0.length : Int):=of_decide_eq_true (by first | (with_reducible assumption) | assumption)
       obtain ⟨ad4,A4_0,c4_0,e4,hx4_0,hl4_0,hi4_0⟩:=at_L8 HR0.out x13_1 p4 q4
       cases e4
       replace hx4_0:=(HB.out.cell (World.block_lt_of_cell? w _ hx4_0)).trans hx4_0
       have HR4_0:=a0_ hi4_0
       have HC4_0:=a0_ hl4_0
       clear hi4_0 hl4_0
       replace p4:=eq_true p4
       replace q4:=eq_true q4
       go_wp2_with (first | ((with_reducible refine gate_callee (f:=39) rfl ?_);refine goesL_ (some 19) rfl rfl Try.func39 (by kernel_rfl) rfl #[.slice A4_0 (rd_L8 l0 x13_1).length c4_0,.int .i64 1] rfl lm_ ?_;(with_reducible refine (impl_deeper.calls k1 _ _ (rd_L8 l0 x13_1) 1 t5 _ ?side1 ?side2 A8.out).mono ?_);(case side1=>exact cc_ (Kd.C_below HR4_0.out HB.out));(case side2=>exact HC4_0.out);rintro e w10 ⟨v6,rfl,ho0,hb⟩;refine ⟨_,rfl,?_⟩;have n0_:=a0_ (Kd.R_elder' (rr_ HO_5.out) (Kd.R_base ho0) hb);have n1_:=a0_ (Kd.R_lower (Kd.R_new' ho0 (Kd.R_lt (rr_ HO_5.out))) (below_size hb_));have n2_:=a0_ (below_step hb_ hb);clear HO_5 HB;have HO_5:=n0_;have HO7:=n1_;have HB:=n2_;clear n0_ n1_ n2_;(try clear hb);(try clear ho0);obtain ⟨Ao12,co12,eo12⟩:=Kd.R_slice HO7.out;subst eo12) | ((with_reducible refine gate_builtin (b:=.append) (xs:=#[.tmp 17,.tmp 19]) rfl ?_);at_builtin;refine Kd.R_append_rows k35 (w0:=w) w.heap.size rfl (.tmp 17) (.tmp 19) 26 35 (.agg #[(.int .i64 0),(.bool false),(.int .i64 0),(.int .i64 0)]) 32 rfl Try.underlying26 info35 rfl (by decide) (by omega) u5 x5_1 t5 _ _ _ (fun k_=>some k_ ≠ (.slice Ao12 t5.length co12 : Value).ownBlock) (fun _=>False) rfl rfl ?aO ?aR (fun _ _ h=>h) (fun _ h=>h.elim) ?aF ?aB ?aS ?aL ?_;(case aR=>exact cc_ (Kd.R_reads' HO7.out).2.2);(case aB=>exact hb_);(case aF=>exact (fun k_ hk=>Kd.fresh' (Kd.R_lt (rr_ HO7.out)) k_ hk));(case aO=>exact (rm_ HO_5.out (fun _ hk=>hk.2)));(case aS=>exact (below_size hb_));(case aL=>have:=LMc9.out;omega);intro v9 w11 ho hb hg hat;rw [← Ny8.out] at ho;replace HO7:=a0_ (Kd.R_after (ok:=(fun _=>True)) (rr_ HO7.out) hg hat);have HO10:=a0_ (ho);replace HB:=a0_ (hb);clear HO_5;clear ho hb hg hat))
       go_roundg k1
       case measure=>have:=HK1.out;omega
       case rel=>exact ⟨(y8),(wrap64 (x13_1 + 1)),(by first | rfl | (simp;done) | (simp [*];done)),H',⟨by have:=HK1.out;omega⟩,⟨by (with_reducible repeat (first | apply Kd.R_alloc | apply Kd.R_drewN | apply Kd.R_drew));exact Kd.R_mono HO10.out (fun _ hk=>trivial)⟩,⟨hb_⟩⟩
      ·rw [if_neg c9] at H
       exact absurd H (by simp)
     ·rw [if_neg c7] at H
      exact absurd H (by simp)
    ·rw [if_neg c6] at H
     exact absurd H (by simp)
   ·rw [if_neg c5] at H
    have c5b0 : decide (x13_1 < (l0.length : Int)) = false:=decide_eq_false c5
    clear c5
    replace H:=Option.bind_eq_some_iff.mp H
    obtain ⟨t11,A130,H⟩:=H
    replace H : (some t11) = some r:=H
    have A13:=a0_ A130
    clear A130
    obtain rfl:=Option.some.inj H
    obtain ⟨Ao14,co14,eo14⟩:=Kd.R_slice HO_5.out
    subst eo14
    go_wp2_with (first | ((with_reducible refine gate_callee (f:=46) rfl ?_);refine goesL_ (some 23) rfl rfl Try.func46 (by kernel_rfl) rfl #[.slice Ao14 x5_1.length co14] rfl lm_ ?_;(with_reducible refine (slices_Clip_Part.calls (fun k_=>some k_ = (.slice Ao14 x5_1.length co14 : Value).ownBlock) (.slice Ao14 x5_1.length co14) x5_1 t11 w _ ?side1 ?side2 A13.out).mono ?_);(case side1=>exact hb_);(case side2=>exact Kd.R_tight rfl HO_5.out);rintro e w15 ⟨v12,rfl,ho0,hb,hkp⟩;refine ⟨_,rfl,?_⟩;have HO13:=a0_ (Kd.R_mono (ok':=fun k_=>True) ho0 (fun k_ hk_=>trivial));replace HB:=a0_ (hb);clear HO_5;(try clear hb);(try clear hkp);(try clear ho0)))
    go_ret
    exact ⟨_,by first | rfl | (simp [errW_none,errW_some] <;> rfl) | (simp [*,errW_none,errW_some] <;> rfl),by (with_reducible repeat (first | apply Kd.R_alloc | apply Kd.R_drewN | apply Kd.R_drew));exact HO13.out,hb_⟩
theorem impl_wrapped_ev (l : List (List Prt)) (c : Int) (hl : l.length ≤ 1000) (hx : ∀ x ∈ l,x.length ≤ 1000 ∧ ∀ p ∈ x,-1000000 ≤ p.f0 ∧ p.f0 ≤ 1000000) : Ev (fun k=>impl_wrapped.f k l c) (wraL l c):=by
 have key : ∀ n j,j + n = l.length → Ev (fun k=>impl_wrapped.l0 k (wraL (l.take j) c) l (l.length : Int) (j : Int)) (wraL l c):=by
  intro n
  induction n with
  | zero =>
   intro j hj
   refine Ev.succ ?_
   simp only [impl_wrapped.l0]
   rw [List.take_of_length_le (by omega)]
   exact Ev.neg (by omega) (Ev.bind (Ev.const (slices_Clip_Part_ev _)) (Ev.const rfl))
  | succ n ih =>
   intro j hj
   refine Ev.succ ?_
   have hlt : j < l.length:=by omega
   have hb:=hx l[j] (List.getElem_mem _)
   have hi:=ih (j + 1) (by omega)
   have e : wraL (l.take (j + 1)) c = wraL (l.take j) c ++ dpr 1 l[j]:=by
    rw [List.take_succ_eq_append_getElem hlt]
    unfold wraL
    rw [List.map_append,List.flatten_append]
    simp only [List.map_cons,List.map_nil,List.flatten_cons,List.flatten_nil,List.append_nil,List.cons_append]
   rw [e] at hi
   have h2:=flat_len (dpr 1) (dpr_len 1) (l.take j)
   have h3:=flat_le 1000 (l.take j) (fun x hm=>(hx x (List.mem_of_mem_take hm)).1)
   have h4 : (wraL (l.take j) c).length ≤ 1 + 1000 * 1000:=by
    unfold wraL
    rw [List.length_cons,h2]
    rw [List.length_take] at h3
    have : 1000 * min j l.length ≤ 1000 * 1000:=Nat.mul_le_mul_left _ (by omega)
    omega
   have hm : l.getD ((j : Int)).toNat [] = l[j]:=by simp [List.getD,hlt]
   have hD:=impl_deeper_ev l[j] 1 (by omega) (by omega) hb.2
   rw [← hm] at hD
   have h5 : (dpr 1 (l.getD ((j : Int)).toNat [])).length ≤ 1000:=by rw [dpr_len,hm];exact hb.1
   rw [← hm] at hi
   simp only [impl_wrapped.l0]
   rw [wrap_succ (i:=(j : Int)) (n:=l.length) (by omega) (by omega) (by omega)]
   exact Ev.pos (by omega) (Ev.pos (by omega) (Ev.pos (by omega) (Ev.bind hD (Ev.pos (by omega) hi))))
 exact key l.length 0 (by omega)
end Go.Proofs.Ytjdpaholpfpiiaa.P
namespace Go.Proofs.Ytjdpaholpfpiiaa.P
open Go.RowKit Go.Proofs.YtjdpaholpfpiiaaW.PrintWords Go.Proofs.YtjdpaholpfpiiaaW.PrintLast Go.Proofs.YtjdpaholpfpiiaaW.PrintMore
attribute [local go_sem] max2_int min2_int max_two min_two max_three min_three max_four min_four
set_option linter.unusedVariables false
set_option linter.unusedSimpArgs false
theorem pw_eqlnil {P : Program} {t e : TypeId} (a : Option Addr) (h : P.underlying t = some (.slice e)) : ∀ n c w,(binOp .eql t (.slice a n c) (.slice none 0 0)).run P w = .ok (.bool a.isNone) w:=by
 intro n c w
 have h1 : ∀ d,(Op.equalIn (d + 1) t (.slice a n c) (.slice none 0 0)).run P w = .ok a.isNone w:=by
  intro d
  cases a <;> simp [Op.equalIn,run_underlying h]
 have h2 : (Op.equal t (.slice a n c) (.slice none 0 0)).run P w = .ok a.isNone w:=h1 9999
 simp [binOp,h2]
end Go.Proofs.Ytjdpaholpfpiiaa.P
namespace Go.Proofs.Ytjdpaholpfpiiaa.P
open Go.RowKit Go.Proofs.YtjdpaholpfpiiaaW.PrintWords Go.Proofs.YtjdpaholpfpiiaaW.PrintLast Go.Proofs.YtjdpaholpfpiiaaW.PrintMore
attribute [local go_sem] max2_int min2_int max_two min_two max_three min_three max_four min_four
set_option linter.unusedVariables false
set_option linter.unusedSimpArgs false
def slices_Clone_Part.f (l0 : List (S35)) : Option (List (S35)):=if l0.length < 4398046511104 then some l0 else none
set_option maxHeartbeats 2000000 in
set_option maxRecDepth 100000 in
theorem slices_Clone_Part.calls (A0 : Option Addr) (c0 : Nat) (l0 : List (S35)) (r : List (S35)) (w : World) (hr0 : Kd.C k35 w A0 l0.length l0) (hc0 : l0.length ≤ c0) (h : slices_Clone_Part.f l0 = some r) :
  Calls Try.prog 47 #[.slice A0 l0.length c0] w fun e w'=>∃ v0_ : Value,e = .returned (v0_) ∧ Kd.R k35 35 w' w.heap.size (fun _=>True) v0_ r ∧ Below w.heap.size w w':=by
 have hlm : l0.length < 4398046511104:=by
  apply Classical.byContradiction
  intro hn
  rw [slices_Clone_Part.f,if_neg hn] at h
  cases h
 rw [slices_Clone_Part.f,if_pos hlm] at h
 obtain rfl:=Option.some.inj h
 clear h
 have HR0:=a0_ hr0
 have HC0:=a0_ hc0
 have LM:=a0_ hlm
 clear hlm hc0
 have HB:=a0_ (Below.refl w.heap.size w)
 obtain ⟨y1,hy1⟩ : ∃ y_ : List (S35),y_ = (([] : List (S35))):=⟨_,rfl⟩
 have Ny1:=a0_ hy1
 obtain ⟨y4,hy4⟩ : ∃ y_ : List (S35),y_ = y1 ++ l0:=⟨_,rfl⟩
 have Ny4:=a0_ hy4
 have Ny5:=a0_ (show y4 = l0 by rw [hy4,hy1,List.nil_append])
 have Ny6:=a0_ (show y1.length = 0 by rw [hy1];rfl)
 clear hy1 hy4
 cases A0 with
 | none =>
  have e0 : l0.length = 0:=by
   apply Classical.byContradiction
   intro hn
   obtain ⟨ad,e,_⟩:=hr0.2.2 (by omega)
   cases e
  clear hr0
  have e1 : l0 = []:=List.length_eq_zero_iff.1 e0
  have hnl:=pw_eqlnil (P:=Try.prog) none Try.underlying26
  simp only [Option.isNone_none] at hnl
  go_enter Try.func47,Try.ntmps47
  go_wp2
  go_ret
  exact ⟨_,rfl,by rw [e1];exact Kd.R_nil _ _ _ _ _,HB.out⟩
 | some a0 =>
  clear hr0
  have hnl:=pw_eqlnil (P:=Try.prog) (some a0) Try.underlying26
  simp only [Option.isNone_some] at hnl
  go_enter Try.func47,Try.ntmps47
  go_wp2_with (first | ((with_reducible refine gate_dst (N:=5) rfl ?_);refine Kd.R_lit k35 _ 35 ?hg (N:=5) ?hd (xs:=([] : List (S35))) (inner:=[]) (ok:=fun _=>True) (okp:=fun _=>True) ?hr ?hp (fun _ hk=>hk) trivial (Below.refl _ _) (Nat.le_refl _) (by simp) ?_;(case hd=>rfl);(case hg=>rfl);(case hr=>first | (go_simp;done) | (go_simp;rfl));(case hp=>exact (Reps.none _ _));intro v2 w4 ho5 hb hg_ hnew_;clear hg_ hnew_;(first | rw [← Ny1.out] at ho5 | (simp only [Int.reduceToNat] at ho5;rw [← Ny1.out] at ho5));have HO3:=a0_ (Kd.R_lower ho5 (below_size hb_));replace HB:=a0_ (below_step hb_ hb);clear hb ho5) | ((with_reducible refine gate_builtin (b:=.append) (xs:=#[.tmp 5,.tmp 6]) rfl ?_);at_builtin;refine Kd.R_append_rows k35 (w0:=w) w.heap.size rfl (.tmp 5) (.tmp 6) 26 35 (.agg #[(.int .i64 0),(.bool false),(.int .i64 0),(.int .i64 0)]) 32 rfl Try.underlying26 info35 rfl (by decide) (by omega) v2 y1 l0 _ _ _ (fun _=>True) (fun _=>False) rfl rfl ?aO ?aR (fun _ _ h=>h) (fun _ h=>h.elim) ?aF ?aB ?aS ?aL ?_;(case aR=>exact cc_ (Kd.C_below HR0.out HB.out));(case aB=>exact hb_);(case aF=>exact (fun _ _=>trivial));(case aO=>exact (rr_ HO3.out));(case aS=>exact (below_size hb_));(case aL=>have:=LM.out;have:=Ny6.out;omega);intro v5 w6 ho hb hg hat;rw [← Ny4.out] at ho;have HO6:=a0_ (ho);replace HB:=a0_ (hb);clear HO3;clear ho hb hg hat))
  go_ret
  exact ⟨_,rfl,by rw [← Ny5.out];exact HO6.out,HB.out⟩
end Go.Proofs.Ytjdpaholpfpiiaa.P
namespace Go.Proofs.Ytjdpaholpfpiiaa.P
open Go.RowKit Go.Proofs.YtjdpaholpfpiiaaW.PrintWords Go.Proofs.YtjdpaholpfpiiaaW.PrintLast Go.Proofs.YtjdpaholpfpiiaaW.PrintMore
attribute [local go_sem] max2_int min2_int max_two min_two max_three min_three max_four min_four
set_option linter.unusedVariables false
set_option linter.unusedSimpArgs false
set_option maxHeartbeats 4000000 in
set_option maxRecDepth 100000 in
theorem impl_simple.callsR : ∀ (n : Nat) (l0 : List Prt),l0.length ≤ n → okG l0 → ∀ (A0 : Option Addr) (c0 : Nat) (w : World),Kd.C k35 w A0 l0.length l0 → l0.length ≤ c0 → Calls Try.prog 33 #[.slice A0 l0.length c0] w fun e w'=>∃ v0_ : Value,e = .returned v0_ ∧ Kd.R k35 35 w' w.heap.size (fun _=>True) v0_ (simR n l0) ∧ Below w.heap.size w w':=by
 intro n
 induction n with
 | zero=>intro l0 hl hG;exact absurd (okG_pos hG) (by omega)
 | succ n ih =>
  intro l0 hl hG A0 c0 w hr0 hc0
  have hu26:=Try.underlying26
  have HR0:=a0_ hr0
  have HC0:=a0_ hc0
  have hpos:=okG_pos hG
  have hmax:=hr0.2.1
  have HB:=a0_ (Below.refl w.heap.size w)
  obtain ⟨ad,ea,hx0,hx1,hx2,hx3⟩:=at_T35 hr0 0 (by omega) (by omega)
  cases ea
  rw [show ((0 : Int)).toNat = 0 from rfl,show 0 * 4 = 0 from rfl,Addr.add_zero'] at hx1 hx3
  have hq0 : 0 < l0.length:=by omega
  have qi : (0 < l0.length) = True:=eq_true hq0
  clear hr0 hc0 hx0 hx2
  cases hf : (rd_T35 l0 0).f1 with
  | false =>
   rw [hf] at hx1
   rw [simR_leaf _ hf]
   have hcl : slices_Clone_Part.f l0 = some l0:=by rw [slices_Clone_Part.f,if_pos (by have:=hG.2.2;omega)]
   clear hx3 ih hG
   go_enter Try.func33,Try.ntmps33
   go_wp2_with (first
    | (go_at_call 47;refine (slices_Clone_Part.calls (some ad) c0 l0 l0 _ HR0.out HC0.out hcl).mono ?_;rintro e w2 ⟨v2,rfl,ho2,hb2⟩;have HO2:=a0_ ho2;replace HB:=a0_ hb2;clear ho2 hb2)
    | (go_at_call 46;refine (slices_Clip_Part.calls (fun _=>True) _ _ _ w _ HB.out HO2.out (slices_Clip_Part_ev _)).mono ?_;rintro e w3 ⟨v3,rfl,ho3,hb3,hk3⟩))
   go_ret
   exact ⟨_,rfl,Kd.R_mono ho3 (fun _ _=>trivial),hb3⟩
  | true =>
   rw [hf] at hx1
   have hne:=List.length_pos_iff.2 (kid_node hG.1 hf)
   obtain ⟨ki,hki⟩:=Ev.out (impl_kids_ev l0 (by have:=hG.2.2;omega) hpos (fun p hp=>by have:=hG.2.1 p hp;have:=okG_low hG p hp;omega))
   have hkl:=kidL_len hG.1
   have IH:=a0_ (fun (x : List Prt) (hx : x ∈ kidL l0)=>ih x (by have:=(okG_kid hG x hx).2;omega) (okG_kid hG x hx).1)
   have HALL:=a0_ (fun (x : List Prt) (hx : x ∈ kidL l0)=>simR_all n x (by have:=(okG_kid hG x hx).2;omega) (okG_kid hG x hx).1)
   have HL:=a0_ hG.2.2
   have HONE:=a0_ (fun h=>simR_one (n:=n) (g:=l0) hf h)
   have HWRA:=a0_ (fun h=>simR_wra (n:=n) (g:=l0) hf h)
   clear ih hG hf
   generalize hK : kidL l0 = K at *
   clear hK
   go_enter Try.func33,Try.ntmps33
   go_wp2_with (go_at_call 22;refine (impl_kids.calls ki (some ad) c0 l0 K _ HR0.out HC0.out hki).mono ?_;rintro e w2 ⟨v2,rfl,ho2,hb2⟩;obtain ⟨gl,cl,e2,gb,gs,cells,hcs⟩:=Kd.R_form (Kd.S_R ho2) hne;subst e2;have HO2:=a0_ (Kd.S_R ho2);replace HB:=a0_ hb2;clear ho2 hb2 hcs)
   go_loopg [4,5,18] K.length (fun gg _ _ s18 wr=>∃ kk : Nat,kk ≤ K.length ∧ K.length - kk ≤ gg ∧ s18 = .int .i64 kk ∧ Aside0 (Below w.heap.size w wr) ∧ Aside0 (Kd.R (Kd.slice 35 k35) 26 wr w.heap.size (fun _=>True) (.slice (some ⟨gl,0,none⟩) K.length cl) ((K.take kk).map (simR n) ++ K.drop kk)))
   case atStart=>exact ⟨0,Nat.zero_le _,by omega,rfl,HB,⟨by simpa using HO2.out⟩⟩
   case round =>
    obtain ⟨kk,hkk,hg,rfl,BW,HO⟩:=hrel
    by_cases hlt : kk < K.length
    ·have hltz : (kk : Int) < (K.length : Int):=by omega
     have hlen : ((K.take kk).map (simR n) ++ K.drop kk).length = K.length:=by rw [List.length_append,List.length_map,List.length_take,List.length_drop];omega
     obtain ⟨x,hx⟩ : ∃ x_,x_ = K[kk]:=⟨_,rfl⟩
     have hget : ((K.take kk).map (simR n) ++ K.drop kk).getD ((kk : Int)).toNat [] = x:=by
      rw [Int.toNat_natCast,List.getD_eq_getElem?_getD,List.getElem?_append_right (by rw [List.length_map,List.length_take];omega),List.length_map,List.length_take,Nat.min_eq_left hkk,Nat.sub_self,List.getElem?_drop,Nat.add_zero,List.getElem?_eq_getElem hlt,hx]
      rfl
     have hset : ((K.take kk).map (simR n) ++ K.drop kk).set ((kk : Int)).toNat (simR n x) = (K.take (kk + 1)).map (simR n) ++ K.drop (kk + 1):=by
      have hlm : ((K.take kk).map (simR n)).length = kk:=by rw [List.length_map,List.length_take];omega
      rw [Int.toNat_natCast,List.set_append_right _ _ (by omega),hlm,Nat.sub_self,List.drop_eq_getElem_cons hlt,s2_,List.take_succ_eq_append_getElem hlt,List.map_append,List.append_assoc,hx]
      rfl
     have hxm : x ∈ K:=by rw [hx];exact List.getElem_mem _
     obtain ⟨cs,hcl,hM,hcc,hfr⟩:=Kd.R_elem HO.out ([] : List (S35)) (kk : Int) (by omega) (by omega)
     rw [hget] at hM
     obtain ⟨vx,rfl,hRx⟩:=hM
     obtain ⟨Ax,cx,ex⟩:=Kd.R_slice hRx
     subst ex
     have hcell : wr.cell? ⟨gl,kk,none⟩ = some (.slice Ax x.length cx):=by
      have:=hcc 0 _ rfl
      rwa [Int.toNat_natCast,show kk * (Kd.slice 35 k35).sz + 0 = kk from Nat.mul_one kk] at this
     have hcall:=IH.out x hxm Ax cx wr (Kd.R_reads' hRx).2.2 (Kd.R_reads' hRx).2.1
     have hgl : gl < wr.heap.size:=Kd.R_lt HO.out gl (by simp [Value.ownBlock])
     clear hx hget hcc hfr hRx hcl
     go_wp2_with (first
      | (go_at_call 33;refine hcall.mono ?_;rintro e w3 ⟨v3,rfl,ho3,hb3⟩;obtain ⟨A3,c3,e3⟩:=Kd.R_slice ho3;subst e3;have hHO3:=Kd.R_below HO.out hb3;obtain ⟨cs3,hcl3,hM3,hcc3,hfr3⟩:=Kd.R_elem hHO3 ([] : List (S35)) (kk : Int) (by omega) (by omega);have hNew:=Kd.R_mono (ok':=fun k_=>True ∧ k_ ≠ gl) (Kd.R_lower (Kd.R_new' (u:=.slice (some ⟨gl,0,none⟩) K.length cl) ho3 (fun k_ hk_=>by simp [Value.ownBlock] at hk_;omega)) (below_size BW.out)) (fun k_ hk_=>⟨trivial,fun e_=>hk_.2 (by rw [e_];simp [Value.ownBlock])⟩);have hSeg:=Kd.R_seg hHO3 (kk : Int) (by omega) (by omega) (c:=cs3) (seg:=[.slice A3 (simR n x).length c3]) (j:=0) (x':=simR n x) hcl3 hcc3 (Nat.le_refl _) (by have hl1 : cs3.length = 1:=hcl3;rw [List.take_zero,List.nil_append,List.drop_of_length_le (by rw [hl1];exact Nat.le_refl _),List.append_nil];exact ⟨_,rfl,hNew⟩) (fun _ h_=>h_);rw [hset,Int.toNat_natCast,show kk * (Kd.slice 35 k35).sz + 0 = kk from Nat.mul_one kk] at hSeg;have hfrz : w3.frozen? ⟨gl,kk,none⟩ = false:=(by have h_:=hfr3 0;rwa [Int.toNat_natCast,show kk * (Kd.slice 35 k35).sz + 0 = kk from Nat.mul_one kk] at h_);have hcell3 : w3.cell? ⟨gl,kk,none⟩ = some (.slice Ax x.length cx):=(hb3.cell (World.block_lt_of_cell? wr _ hcell)).trans hcell;have HS:=a0_ hSeg.1;have BW3:=a0_ (below_step BW.out hb3);clear hSeg hNew hcc3 hfr3 hM3 hHO3 ho3 hb3 hcell)
      | ((with_reducible refine gate_store (t:=26) (p:=27) rfl ?_);refine store_event (t:=26) (p:=27) (v:=?vo) (w1:=w3.setCell ⟨gl,kk,none⟩ (.slice A3 (simR n x).length c3)) ?hg ?ho ?hn ?hr ?_;(case ho=>rfl);(case hg=>rfl);(case hn=>rfl);(case hr=>first | (go_simp;done) | (go_simp;rfl));intro w4 hw;have HS4 : Kd.R (Kd.slice 35 k35) 26 w4 w.heap.size (fun _=>True) (.slice (some ⟨gl,0,none⟩) K.length cl) ((K.take (kk + 1)).map (simR n) ++ K.drop (kk + 1)):=(by rw [hw];exact HS.out);have hB4 : Below w.heap.size w w4:=(by rw [hw];exact below_set BW3.out gb);clear hw HS BW3 hfrz hcell3;have HS:=a0_ HS4;have BW3:=a0_ hB4;clear HS4 hB4))
     go_roundg (K.length - (kk + 1))
     case measure=>omega
     case rel=>exact ⟨kk + 1,by omega,by omega,by go_num,BW3,HS⟩
    ·have hltz : ¬ (kk : Int) < (K.length : Int):=by omega
     have : kk = K.length:=by omega
     subst this
     rw [List.take_of_length_le (Nat.le_refl _),List.drop_of_length_le (Nat.le_refl _),List.append_nil] at HO
     have hlm : (K.map (simR n)).length = K.length:=List.length_map _
     have hk0 : 0 < K.length:=hne
     have hk0' : (0 < K.length) = True:=eq_true hne
     by_cases h1 : K.length = 1
     ·have hz : ((K.length : Int) == 1) = true:=beq_iff_eq.2 (by omega)
      obtain ⟨cs,hcl,hM,hcc,hfr⟩:=Kd.R_elem HO.out ([] : List (S35)) 0 (by omega) (by omega)
      obtain ⟨vx,rfl,hRx⟩:=hM
      have hcell : wr.cell? ⟨gl,0,none⟩ = some vx:=by
       have:=hcc 0 _ rfl
       rwa [show ((0 : Int)).toNat * (Kd.slice 35 k35).sz + 0 = 0 from rfl] at this
      clear hcc hfr hcl HWRA HALL IH
      go_wp2
      go_ret
      rw [HONE.out h1]
      exact ⟨_,rfl,Kd.R_mono hRx (fun _ _=>trivial),BW.out⟩
     ·have hz : ((K.length : Int) == 1) = false:=beq_eq_false_iff_ne.2 (by omega)
      obtain ⟨kw,hkw⟩:=Ev.out (impl_wrapped_ev (K.map (simR n)) (l0.getD 0 z35).f3 (by have:=HL.out;omega) (fun y hy=>by
       obtain ⟨x,hx,rfl⟩:=List.mem_map.1 hy
       have hA:=HALL.out x hx
       refine ⟨by have:=hA.1.2.2;omega,fun p hp=>?_⟩
       have h5:=hA.1.2.1 p hp
       have h6:=okG_low hA.1 p hp
       omega))
      have hcw:=impl_wrapped.calls kw (some ⟨gl,0,none⟩) cl (K.map (simR n)) (l0.getD 0 z35).f3 _ wr (Kd.R_reads' HO.out).2.2 (by rw [hlm];exact (Kd.R_reads' HO.out).2.1) hkw
      rw [hlm] at hcw
      have hx3' : wr.cell? ⟨ad.block,ad.off + 3,none⟩ = some (.int .i64 (l0.getD 0 z35).f3):=(BW.out.cell (World.block_lt_of_cell? w _ hx3)).trans hx3
      have hsz:=below_size BW.out
      clear HONE HALL IH hkw hx3
      generalize hcd : (l0.getD 0 z35).f3 = cd at hcw hx3'
      go_wp2_with (go_at_call 27;refine hcw.mono ?_;rintro e w5 ⟨v5,rfl,ho5,hb5⟩)
      go_ret
      rw [HWRA.out h1,hcd]
      exact ⟨_,rfl,Kd.R_lower ho5 hsz,below_step BW.out hb5⟩
end Go.Proofs.Ytjdpaholpfpiiaa.P
namespace Go.Proofs.Ytjdpaholpfpiiaa.P
open Go.RowKit Go.Proofs.YtjdpaholpfpiiaaW.PrintWords Go.Proofs.YtjdpaholpfpiiaaW.PrintLast Go.Proofs.YtjdpaholpfpiiaaW.PrintMore
attribute [local go_sem] max2_int min2_int max_two min_two max_three min_three max_four min_four
set_option linter.unusedVariables false
set_option linter.unusedSimpArgs false
def impl_SimplifyGroup.f (l0_0 : List Cls) (l1 : List (S35)) : Option (List Prt):=if smT l0_0 = true then some (simP l0_0 l1) else none
set_option maxHeartbeats 4000000 in
set_option maxRecDepth 100000 in
theorem impl_SimplifyGroup.calls (A0_0 : Option Addr) (c0_0 : Nat) (l0_0 : List (S70)) (A1 : Option Addr) (c1 : Nat) (l1 : List (S35)) (r : List (S35)) (w : World) (hr0_0 : Kd.C k70 w A0_0 l0_0.length l0_0) (hc0_0 : l0_0.length ≤ c0_0) (hr1 : Kd.C k35 w A1 l1.length l1) (hc1 : l1.length ≤ c1) (h : impl_SimplifyGroup.f l0_0 l1 = some r) :
  Calls Try.prog 15 #[.agg #[.slice A0_0 l0_0.length c0_0],.slice A1 l1.length c1] w fun e w'=>∃ v0_ : Value,e = .returned v0_ ∧ Kd.R k35 35 w' w.heap.size (fun _=>True) v0_ r ∧ Below w.heap.size w w':=by
 have hu31:=Try.underlying25
 have hsm : smT l0_0 = true:=by
  apply Classical.byContradiction
  intro hn
  rw [impl_SimplifyGroup.f,if_neg hn] at h
  cases h
 rw [impl_SimplifyGroup.f,if_pos hsm] at h
 have hR:=Option.some.inj h
 clear h
 have BK:=a0_ (heap_new1 w (.cells #[.slice A0_0 l0_0.length c0_0] 25))
 have HB:=a0_ (below1 w (.cells #[.slice A0_0 l0_0.length c0_0] 25))
 have hcell:=(blk_cell BK.out 0).trans rfl
 obtain ⟨kG,hkG⟩:=Ev.out (impl_ValidGroup_ev l0_0 l1 hr0_0.2.1 hr1.2.1 hsm)
 have HG:=a0_ (fun (W : World) (hb : Below w.heap.size w W)=>impl_ValidGroup.calls kG A0_0 c0_0 l0_0 A1 c1 l1 (vG l0_0 l1) W (Kd.C_below hr0_0 hb) hc0_0 (Kd.C_below hr1 hb) hc1 hkG)
 have HS:=a0_ (fun (hv : vG l0_0 l1 = true) (W : World) (hb : Below w.heap.size w W)=>impl_simple.callsR 16 l1 (vG_tree hv).2.2 (okG_vG hv) A1 c1 W (Kd.C_below hr1 hb) hc1)
 clear hr0_0 hr1 hkG
 cases hv : vG l0_0 l1 with
 | true =>
  rw [simP,if_pos hv] at hR
  subst hR
  have HS2:=a0_ (HS.out hv)
  rw [hv] at HG
  clear HS hv
  go_enter Try.func15,Try.ntmps15
  go_wp2_with (first
   | (go_at_call 17;refine (HG.out _ HB.out).mono ?_;rintro e w4 ⟨rfl,hb4⟩;replace HB:=a0_ (below_step HB.out hb4);clear hb4)
   | (go_at_call 33;refine (HS2.out _ HB.out).mono ?_;rintro e w5 ⟨v5,rfl,ho5,hb5⟩))
  go_ret
  exact ⟨_,rfl,Kd.R_lower ho5 (below_size HB.out),below_step HB.out hb5⟩
 | false =>
  rw [simP,if_neg (by rw [hv];simp)] at hR
  subst hR
  rw [hv] at HG
  clear HS hv
  go_enter Try.func15,Try.ntmps15
  go_wp2_with (go_at_call 17;refine (HG.out _ HB.out).mono ?_;rintro e w4 ⟨rfl,hb4⟩;replace HB:=a0_ (below_step HB.out hb4);clear hb4)
  go_ret
  exact ⟨_,rfl,Kd.R_nil _ _ _ _ _,HB.out⟩
theorem impl_SimplifyGroup_ev (t : List Cls) (g : List Prt) (hs : smT t = true) : impl_SimplifyGroup.f t g = some (simP t g):=by rw [impl_SimplifyGroup.f,if_pos hs]
end Go.Proofs.Ytjdpaholpfpiiaa.P
namespace Go.Proofs.Ytjdpaholpfpiiaa.P
open Go.RowKit Go.Proofs.YtjdpaholpfpiiaaW.PrintWords Go.Proofs.YtjdpaholpfpiiaaW.PrintLast Go.Proofs.YtjdpaholpfpiiaaW.PrintMore
attribute [local go_sem] max2_int min2_int max_two min_two max_three min_three max_four min_four
set_option linter.unusedVariables false
set_option linter.unusedSimpArgs false
def spec_inRange.f (a0 : Int) (a1 : Int) (a2 : Int) : Option (Bool):=if a1 ≤ a0 then (some (decide (a0 ≤ a2))) else (some false)
set_option maxHeartbeats 8000000 in
set_option maxRecDepth 100000 in
theorem spec_inRange.calls (a0 : Int) (a1 : Int) (a2 : Int) (r : Bool) (w : World) (h : spec_inRange.f a0 a1 a2 = some r) :
  Calls Try.prog 41 #[.int .i64 a0,.int .i64 a1,.int .i64 a2] w fun e w'=>e = .returned (.bool r) ∧ Drawn0 w w':=by
 have H : (if a1 ≤ a0 then (some (decide (a0 ≤ a2))) else (some false)) = some r:=h
 clear h
 by_cases c4 : a1 ≤ a0
 ·rw [if_pos c4] at H
  have c4b0 : decide (a1 ≤ a0) = true:=decide_eq_true c4
  clear c4
  obtain rfl:=Option.some.inj H
  go_enter Try.func41,Try.ntmps41
  go_wp2
  go_ret
  exact ⟨by first | rfl | (simp;done) | (simp [*];done),by repeat (first | exact Drawn0.refl _ | apply Drawn0.step)⟩
 ·rw [if_neg c4] at H
  have c4b0 : decide (a1 ≤ a0) = false:=decide_eq_false c4
  clear c4
  obtain rfl:=Option.some.inj H
  go_enter Try.func41,Try.ntmps41
  go_wp2
  go_ret
  exact ⟨by first | rfl | (simp;done) | (simp [*];done),by repeat (first | exact Drawn0.refl _ | apply Drawn0.step)⟩
theorem spec_inRange_ev (a b c : Int) : spec_inRange.f a b c = some (decide (b ≤ a) && decide (a ≤ c)):=by
 unfold spec_inRange.f
 by_cases h : b ≤ a
 ·rw [if_pos h];simp [h]
 ·rw [if_neg h];simp [h]
end Go.Proofs.Ytjdpaholpfpiiaa.P
namespace Go.Proofs.Ytjdpaholpfpiiaa.P
open Go.RowKit Go.Proofs.YtjdpaholpfpiiaaW.PrintWords Go.Proofs.YtjdpaholpfpiiaaW.PrintLast Go.Proofs.YtjdpaholpfpiiaaW.PrintMore
attribute [local go_sem] max2_int min2_int max_two min_two max_three min_three max_four min_four
set_option linter.unusedVariables false
set_option linter.unusedSimpArgs false
def spec_hasClass.f (l0_0 : List (S70)) (a1 : Int) : Option (Bool):=(spec_inRange.f a1 0 (wrap64 ((l0_0.length : Int) - 1))).bind fun t2=>(some t2)
set_option maxHeartbeats 8000000 in
set_option maxRecDepth 100000 in
theorem spec_hasClass.calls (A0_0 : Option Addr) (c0_0 : Nat) (l0_0 : List (S70)) (a1 : Int) (r : Bool) (w : World) (hr0_0 : Kd.C k70 w A0_0 l0_0.length l0_0) (hc0_0 : l0_0.length ≤ c0_0) (h : spec_hasClass.f l0_0 a1 = some r) :
  Calls Try.prog 42 #[.agg #[.slice A0_0 l0_0.length c0_0],.int .i64 a1] w fun e w'=>e = .returned (.bool r) ∧ Below w.heap.size w w':=by
 have hu25:=Try.underlying25
 have HR0_0:=a0_ hr0_0
 have HC0_0:=a0_ hc0_0
 clear hr0_0 hc0_0
 have HB:=a0_ (Below.refl w.heap.size w)
 have H : ((spec_inRange.f a1 0 (wrap64 ((l0_0.length : Int) - 1))).bind fun t2=>(some t2)) = some r:=h
 clear h
 replace H:=Option.bind_eq_some_iff.mp H
 obtain ⟨t2,A30,H⟩:=H
 replace H : (some t2) = some r:=H
 have A3:=a0_ A30
 clear A30
 obtain rfl:=Option.some.inj H
 go_enter Try.func42,Try.ntmps42
 go_wp2_with (first | ((with_reducible refine gate_dst (N:=2) rfl ?_);refine box_event ?hg (N:=2) ?hd (cs:=#[.slice A0_0 l0_0.length c0_0]) (t:=25) ?hr ?_;(case hd=>rfl);(case hg=>rfl);(case hr=>first | (go_simp;done) | (go_simp;rfl));intro gb1 hg w4 hbox hb;have BK1:=a0_ (hbox);have GW1:=a0_ ((by rw [hg];exact (below_size hb_) : w.heap.size ≤ gb1));have GE1:=a0_ ((by rw [hg];exact (below_size hb_) : w.heap.size ≤ gb1));replace HB:=a0_ (below_step hb_ hb);clear hb hbox hg;have hcz5_0 : w4.cell? ⟨gb1,0,none⟩ = some (.slice A0_0 l0_0.length c0_0):=(blk_cell BK1.out 0).trans rfl;have hfz5_0:=blk_frozen BK1.out 0) | ((with_reducible refine gate_callee (f:=41) rfl ?_);refine goesL_ (some 10) rfl rfl Try.func41 (by kernel_rfl) rfl #[.int .i64 a1,.int .i64 0,.int .i64 (wrap64 ((l0_0.length : Int) - 1))] rfl lm_ ?_;(with_reducible refine (spec_inRange.calls a1 0 (wrap64 ((l0_0.length : Int) - 1)) t2 _ A3.out).mono ?_);rintro e w' ⟨rfl,⟨nd,rfl⟩⟩;refine ⟨_,rfl,?_⟩))
 go_ret
 exact ⟨by first | rfl | (simp [errW_none,errW_some] <;> rfl) | (simp [*,errW_none,errW_some] <;> rfl),hb_⟩
theorem spec_hasClass_ev (t : List Cls) (a : Int) (hl : t.length ≤ 9223372036854775807) : spec_hasClass.f t a = some (hasC t a):=by
 unfold spec_hasClass.f spec_inRange.f hasC
 rw [wrap_pred (by omega) (by omega)]
 by_cases h0 : 0 ≤ a
 ·rw [if_pos h0]
  simp only [Option.bind_some,Option.some.injEq,decide_eq_true h0,Bool.true_and]
  by_cases h1 : a < (t.length : Int)
  ·rw [decide_eq_true h1,decide_eq_true (by omega)]
  ·rw [decide_eq_false h1,decide_eq_false (by omega)]
 ·rw [if_neg h0]
  simp [decide_eq_false h0]
end Go.Proofs.Ytjdpaholpfpiiaa.P
namespace Go.Proofs.Ytjdpaholpfpiiaa.P
open Go.RowKit Go.Proofs.YtjdpaholpfpiiaaW.PrintWords Go.Proofs.YtjdpaholpfpiiaaW.PrintLast Go.Proofs.YtjdpaholpfpiiaaW.PrintMore
attribute [local go_sem] max2_int min2_int max_two min_two max_three min_three max_four min_four
set_option linter.unusedVariables false
set_option linter.unusedSimpArgs false
def spec_endOf.l0 : Nat → List (S35) → Int → Int → Option (Int)
 | 0,_,_,_=>none
 | k + 1,x0,x1,x5=>if x5 < (x0.length : Int) then (if 0 ≤ x5 then (if 0 ≤ x1 then (if x1 < (x0.length : Int) then (if ((rd_T35 x0 x5).f0) > ((rd_T35 x0 x1).f0) then (spec_endOf.l0 k x0 x1 (wrap64 (x5 + 1))) else (some x5)) else (none)) else (none)) else (none)) else (some x5)
def spec_endOf.f (k : Nat) (l0 : List (S35)) (a1 : Int) : Option (Int):=spec_endOf.l0 k l0 a1 (wrap64 (a1 + 1))
theorem spec_endOf.mono_l : ∀ k,(∀ y0 y1 y2,LeO (spec_endOf.l0 k y0 y1 y2) (spec_endOf.l0 (k + 1) y0 y1 y2))
 | 0=>fun _ _ _ r h=>by simp [spec_endOf.l0] at h
 | k + 1=>by
  have ih0:=spec_endOf.mono_l k
  ·intro y0 y1 y2
   unfold spec_endOf.l0
   repeat' first
   | (with_reducible exact ih0 _ _ _)
   | (with_reducible exact LeO.refl _)
   | (with_reducible exact LeO.none _)
   | (with_reducible refine LeO.ite ?_ ?_)
   | (with_reducible refine LeO.bind ?_ (fun _=>?_))
   | exact ih0 _ _ _
   | exact LeO.none _
   | refine LeO.ite ?_ ?_
   | refine LeO.bind ?_ (fun _=>?_)
theorem spec_endOf.mono : ∀ a0 a1 k,LeO (spec_endOf.f k a0 a1) (spec_endOf.f (k + 1) a0 a1):=by
 intro a0 a1 k
 have ih0:=spec_endOf.mono_l k
 unfold spec_endOf.f
 repeat' first
   | (with_reducible exact ih0 _ _ _)
   | (with_reducible exact LeO.refl _)
   | (with_reducible exact LeO.none _)
   | (with_reducible refine LeO.ite ?_ ?_)
   | (with_reducible refine LeO.bind ?_ (fun _=>?_))
   | exact ih0 _ _ _
   | exact LeO.none _
   | refine LeO.ite ?_ ?_
   | refine LeO.bind ?_ (fun _=>?_)
set_option maxHeartbeats 8000000 in
set_option maxRecDepth 100000 in
theorem spec_endOf.calls (k : Nat) (A0 : Option Addr) (c0 : Nat) (l0 : List (S35)) (a1 : Int) (r : Int) (w : World) (hr0 : Kd.C k35 w A0 l0.length l0) (hc0 : l0.length ≤ c0) (h : spec_endOf.f k l0 a1 = some r) :
  Calls Try.prog 43 #[.slice A0 l0.length c0,.int .i64 a1] w fun e w'=>e = .returned (.int .i64 r) ∧ Drawn0 w w':=by
 have HR0:=a0_ hr0
 have HC0:=a0_ hc0
 clear hr0 hc0
 have H : (spec_endOf.l0 k l0 a1 (wrap64 (a1 + 1))) = some r:=h
 clear h
 have H':=a0_ H
 clear H
 go_enter Try.func43,Try.ntmps43
 go_wp2
 repeat (go_quiet (fail);try go_wp2)
 go_loopg [5] k (fun kq v5 w'=>∃ (x5_1 : Int),v5 = .int .i64 x5_1 ∧ Aside0 (spec_endOf.l0 kq l0 a1 x5_1 = some r) ∧ Aside0 (kq ≤ k) ∧ Drawn0 w w')
 case atStart=>exact ⟨(wrap64 (a1 + 1)),(by first | rfl | (simp;done) | (simp [*];done)),H',⟨Nat.le_refl _⟩,by repeat (first | exact Drawn0.refl _ | apply Drawn0.step)⟩
 case round =>
  clear H'
  try clear p2
  obtain ⟨x5_1,rfl,HA,HK1,⟨m1,rfl⟩⟩:=hrel
  cases gk with
  | zero=>exact absurd HA.out (by simp [spec_endOf.l0])
  | succ k1 =>
   have H:=HA.out
   clear HA
   simp only [spec_endOf.l0] at H
   by_cases c3 : x5_1 < (l0.length : Int)
   ·rw [if_pos c3] at H
    have c3b0 : decide (x5_1 < (l0.length : Int)) = true:=decide_eq_true c3
    clear c3
    by_cases c4 : 0 ≤ x5_1
    ·rw [if_pos c4] at H
     have c4b0 : decide (0 ≤ x5_1) = true:=decide_eq_true c4
     clear c4
     by_cases c5 : 0 ≤ a1
     ·rw [if_pos c5] at H
      have c5b0 : decide (0 ≤ a1) = true:=decide_eq_true c5
      clear c5
      by_cases c6 : a1 < (l0.length : Int)
      ·rw [if_pos c6] at H
       have c6b0 : decide (a1 < (l0.length : Int)) = true:=decide_eq_true c6
       clear c6
       by_cases c7 : ((rd_T35 l0 x5_1).f0) > ((rd_T35 l0 a1).f0)
       ·rw [if_pos c7] at H
        have c7b0 : decide (((rd_T35 l0 a1).f0) < ((rd_T35 l0 x5_1).f0)) = true:=decide_eq_true c7
        clear c7
        have H':=a0_ H
        clear H
        have p1 : 0 ≤ (x5_1 : Int):=of_decide_eq_true (by first | (with_reducible assumption) | assumption)
        have q1 : x5_1 < (l0.length : Int):=of_decide_eq_true (by first | (with_reducible assumption) | assumption)
        obtain ⟨ad1,e1,hx1_0,hx1_1,hx1_2,hx1_3⟩:=at_T35 HR0.out x5_1 p1 q1
        cases e1
        replace p1:=eq_true p1
        replace q1:=eq_true q1
        have p2 : 0 ≤ (a1 : Int):=of_decide_eq_true (by first | (with_reducible assumption) | assumption)
        have q2 : a1 < (l0.length : Int):=of_decide_eq_true (by first | (with_reducible assumption) | assumption)
        obtain ⟨ad2,e2,hx2_0,hx2_1,hx2_2,hx2_3⟩:=at_T35 HR0.out a1 p2 q2
        obtain rfl : ad1 = ad2:=(by injection e2)
        replace p2:=eq_true p2
        replace q2:=eq_true q2
        go_wp2
        repeat (go_quiet (fail);try go_wp2)
        go_roundg k1
        case measure=>have:=HK1.out;omega
        case rel=>exact ⟨(wrap64 (x5_1 + 1)),(by first | rfl | (simp;done) | (simp [*];done)),H',⟨by have:=HK1.out;omega⟩,by repeat (first | exact Drawn0.refl _ | apply Drawn0.step)⟩
       ·rw [if_neg c7] at H
        have c7b0 : decide (((rd_T35 l0 a1).f0) < ((rd_T35 l0 x5_1).f0)) = false:=decide_eq_false c7
        clear c7
        obtain rfl:=Option.some.inj H
        have p1 : 0 ≤ (x5_1 : Int):=of_decide_eq_true (by first | (with_reducible assumption) | assumption)
        have q1 : x5_1 < (l0.length : Int):=of_decide_eq_true (by first | (with_reducible assumption) | assumption)
        obtain ⟨ad1,e1,hx1_0,hx1_1,hx1_2,hx1_3⟩:=at_T35 HR0.out x5_1 p1 q1
        cases e1
        replace p1:=eq_true p1
        replace q1:=eq_true q1
        have p2 : 0 ≤ (a1 : Int):=of_decide_eq_true (by first | (with_reducible assumption) | assumption)
        have q2 : a1 < (l0.length : Int):=of_decide_eq_true (by first | (with_reducible assumption) | assumption)
        obtain ⟨ad2,e2,hx2_0,hx2_1,hx2_2,hx2_3⟩:=at_T35 HR0.out a1 p2 q2
        obtain rfl : ad1 = ad2:=(by injection e2)
        replace p2:=eq_true p2
        replace q2:=eq_true q2
        go_wp2
        repeat (go_quiet (fail);try go_wp2)
        go_ret
        exact ⟨by first | rfl | (simp;done) | (simp [*];done),by repeat (first | exact Drawn0.refl _ | apply Drawn0.step)⟩
      ·rw [if_neg c6] at H
       exact absurd H (by simp)
     ·rw [if_neg c5] at H
      exact absurd H (by simp)
    ·rw [if_neg c4] at H
     exact absurd H (by simp)
   ·rw [if_neg c3] at H
    have c3b0 : decide (x5_1 < (l0.length : Int)) = false:=decide_eq_false c3
    clear c3
    obtain rfl:=Option.some.inj H
    go_wp2
    repeat (go_quiet (fail);try go_wp2)
    go_ret
    exact ⟨by first | rfl | (simp;done) | (simp [*];done),by repeat (first | exact Drawn0.refl _ | apply Drawn0.step)⟩
theorem spec_endOf_ev (g : List Prt) (i : Nat) (hi : i < g.length) (hl : g.length ≤ 9223372036854775807) : Ev (fun k=>spec_endOf.f k g (i : Int)) ((endG g i : Nat) : Int):=by
 have key : ∀ d j,j + d = g.length → Ev (fun k=>spec_endOf.l0 k g (i : Int) (j : Int)) ((j + ((g.drop j).takeWhile (fun p=>decide ((g.getD i z35).f0 < p.f0))).length : Nat) : Int):=by
  intro d
  induction d with
  | zero =>
   intro j hj
   rw [List.drop_eq_nil_of_le (by omega)]
   refine Ev.succ (Ev.congr (F:=fun _=>some ((j : Nat) : Int)) (Ev.const rfl) (fun k=>?_))
   simp only [spec_endOf.l0]
   rw [if_neg (by omega)]
  | succ d ih =>
   intro j hj
   have hlt : j < g.length:=by omega
   have hrd : rd_T35 g (j : Int) = g[j]:=by simp [rd_T35,hlt]
   have hri : rd_T35 g (i : Int) = g.getD i z35:=by simp [rd_T35]
   rw [List.drop_eq_getElem_cons hlt,List.takeWhile_cons]
   refine Ev.succ (Ev.congr (F:=fun k=>if (g.getD i z35).f0 < g[j].f0 then spec_endOf.l0 k g (i : Int) ((j + 1 : Nat) : Int) else some (j : Int)) ?_ (fun k=>?_))
   ·by_cases h : (g.getD i z35).f0 < g[j].f0
    ·refine Ev.pos h ?_
     rw [decide_eq_true h,if_pos rfl,List.length_cons]
     have:=ih (j + 1) (by omega)
     rw [show j + 1 + ((g.drop (j + 1)).takeWhile (fun p=>decide ((g.getD i z35).f0 < p.f0))).length = j + (((g.drop (j + 1)).takeWhile (fun p=>decide ((g.getD i z35).f0 < p.f0))).length + 1) by omega] at this
     exact this
    ·refine Ev.neg h ?_
     rw [decide_eq_false h,if_neg (by simp)]
     exact Ev.const rfl
   ·simp only [spec_endOf.l0]
    rw [if_pos (by omega),if_pos (by omega),if_pos (by omega),if_pos (by omega),hrd,hri,wrap_succ (i:=(j : Int)) (n:=g.length) (by omega) (by omega) (by omega)]
    rfl
 have:=key (g.length - (i + 1)) (i + 1) (by omega)
 refine Ev.congr this (fun k=>?_)
 unfold spec_endOf.f
 rw [wrap_succ (i:=(i : Int)) (n:=g.length) (by omega) (by omega) (by omega)]
 rfl
end Go.Proofs.Ytjdpaholpfpiiaa.P
namespace Go.Proofs.Ytjdpaholpfpiiaa.P
open Go.RowKit Go.Proofs.YtjdpaholpfpiiaaW.PrintWords Go.Proofs.YtjdpaholpfpiiaaW.PrintLast Go.Proofs.YtjdpaholpfpiiaaW.PrintMore
attribute [local go_sem] max2_int min2_int max_two min_two max_three min_three max_four min_four
set_option linter.unusedVariables false
set_option linter.unusedSimpArgs false
def spec_validName.l0 : Nat → ByteArray → Int → Option (Bool)
 | 0,_,_=>none
 | k + 1,x0,x3=>if x3 < (x0.size : Int) then (if 0 ≤ x3 then (if (bt x0 x3) < 97 then (some false) else (if (bt x0 x3) > 122 then (some false) else (spec_validName.l0 k x0 (wrap64 (x3 + 1))))) else (none)) else ((spec_inRange.f (x0.size : Int) 1 6).bind fun t1=>(some t1))
def spec_validName.f (k : Nat) (a0 : ByteArray) : Option (Bool):=spec_validName.l0 k a0 0
theorem spec_validName.mono_l : ∀ k,(∀ y0 y1,LeO (spec_validName.l0 k y0 y1) (spec_validName.l0 (k + 1) y0 y1))
 | 0=>fun _ _ r h=>by simp [spec_validName.l0] at h
 | k + 1=>by
  have ih0:=spec_validName.mono_l k
  ·intro y0 y1
   unfold spec_validName.l0
   repeat' first
   | (with_reducible exact ih0 _ _)
   | (with_reducible exact LeO.refl _)
   | (with_reducible exact LeO.none _)
   | (with_reducible refine LeO.ite ?_ ?_)
   | (with_reducible refine LeO.bind ?_ (fun _=>?_))
   | exact ih0 _ _
   | exact LeO.none _
   | refine LeO.ite ?_ ?_
   | refine LeO.bind ?_ (fun _=>?_)
theorem spec_validName.mono : ∀ a0 k,LeO (spec_validName.f k a0) (spec_validName.f (k + 1) a0):=by
 intro a0 k
 have ih0:=spec_validName.mono_l k
 unfold spec_validName.f
 repeat' first
   | (with_reducible exact ih0 _ _)
   | (with_reducible exact LeO.refl _)
   | (with_reducible exact LeO.none _)
   | (with_reducible refine LeO.ite ?_ ?_)
   | (with_reducible refine LeO.bind ?_ (fun _=>?_))
   | exact ih0 _ _
   | exact LeO.none _
   | refine LeO.ite ?_ ?_
   | refine LeO.bind ?_ (fun _=>?_)
set_option maxHeartbeats 8000000 in
set_option maxRecDepth 100000 in
theorem spec_validName.calls (k : Nat) (a0 : ByteArray) (r : Bool) (w : World) (h : spec_validName.f k a0 = some r) :
  Calls Try.prog 55 #[.string a0] w fun e w'=>e = .returned (.bool r) ∧ Drawn0 w w':=by
 have H : (spec_validName.l0 k a0 0) = some r:=h
 clear h
 have H':=a0_ H
 clear H
 go_enter Try.func55,Try.ntmps55
 go_wp2
 go_loopg [3] k (fun kq v3 w'=>∃ (x3_1 : Int),v3 = .int .i64 x3_1 ∧ Aside0 (spec_validName.l0 kq a0 x3_1 = some r) ∧ Aside0 (kq ≤ k) ∧ Drawn0 w w')
 case atStart=>exact ⟨(0),(by first | rfl | (simp;done) | (simp [*];done)),H',⟨Nat.le_refl _⟩,by repeat (first | exact Drawn0.refl _ | apply Drawn0.step)⟩
 case round =>
  clear H'
  obtain ⟨x3_1,rfl,HA,HK1,⟨m1,rfl⟩⟩:=hrel
  cases gk with
  | zero=>exact absurd HA.out (by simp [spec_validName.l0])
  | succ k1 =>
   have H:=HA.out
   clear HA
   simp only [spec_validName.l0] at H
   by_cases c2 : x3_1 < (a0.size : Int)
   ·rw [if_pos c2] at H
    have c2b0 : decide (x3_1 < (a0.size : Int)) = true:=decide_eq_true c2
    clear c2
    by_cases c3 : 0 ≤ x3_1
    ·rw [if_pos c3] at H
     have c3b0 : decide (0 ≤ x3_1) = true:=decide_eq_true c3
     clear c3
     by_cases c5 : (bt a0 x3_1) < 97
     ·rw [if_pos c5] at H
      have c5b0 : decide ((bt a0 x3_1) < 97) = true:=decide_eq_true c5
      clear c5
      obtain rfl:=Option.some.inj H
      have p4 : 0 ≤ (x3_1 : Int):=of_decide_eq_true (by first | (with_reducible assumption) | assumption)
      have q4 : x3_1 < (a0.size : Int):=of_decide_eq_true (by first | (with_reducible assumption) | assumption)
      have hx4:=bt_at a0 x3_1
      replace p4:=eq_true p4
      replace q4:=eq_true q4
      go_wp2
      go_ret
      exact ⟨by first | rfl | (simp;done) | (simp [*];done),by repeat (first | exact Drawn0.refl _ | apply Drawn0.step)⟩
     ·rw [if_neg c5] at H
      have c5b0 : decide ((bt a0 x3_1) < 97) = false:=decide_eq_false c5
      clear c5
      by_cases c7 : (bt a0 x3_1) > 122
      ·rw [if_pos c7] at H
       have c7b0 : decide (122 < (bt a0 x3_1)) = true:=decide_eq_true c7
       clear c7
       obtain rfl:=Option.some.inj H
       have p4 : 0 ≤ (x3_1 : Int):=of_decide_eq_true (by first | (with_reducible assumption) | assumption)
       have q4 : x3_1 < (a0.size : Int):=of_decide_eq_true (by first | (with_reducible assumption) | assumption)
       have hx4:=bt_at a0 x3_1
       replace p4:=eq_true p4
       replace q4:=eq_true q4
       have p6 : 0 ≤ (x3_1 : Int):=of_decide_eq_true (by first | (with_reducible assumption) | assumption)
       have q6 : x3_1 < (a0.size : Int):=of_decide_eq_true (by first | (with_reducible assumption) | assumption)
       have hx6:=bt_at a0 x3_1
       replace p6:=eq_true p6
       replace q6:=eq_true q6
       go_wp2
       go_ret
       exact ⟨by first | rfl | (simp;done) | (simp [*];done),by repeat (first | exact Drawn0.refl _ | apply Drawn0.step)⟩
      ·rw [if_neg c7] at H
       have c7b0 : decide (122 < (bt a0 x3_1)) = false:=decide_eq_false c7
       clear c7
       have H':=a0_ H
       clear H
       have p4 : 0 ≤ (x3_1 : Int):=of_decide_eq_true (by first | (with_reducible assumption) | assumption)
       have q4 : x3_1 < (a0.size : Int):=of_decide_eq_true (by first | (with_reducible assumption) | assumption)
       have hx4:=bt_at a0 x3_1
       replace p4:=eq_true p4
       replace q4:=eq_true q4
       have p6 : 0 ≤ (x3_1 : Int):=of_decide_eq_true (by first | (with_reducible assumption) | assumption)
       have q6 : x3_1 < (a0.size : Int):=of_decide_eq_true (by first | (with_reducible assumption) | assumption)
       have hx6:=bt_at a0 x3_1
       replace p6:=eq_true p6
       replace q6:=eq_true q6
       go_wp2
       go_roundg k1
       case measure=>have:=HK1.out;omega
       case rel=>exact ⟨(wrap64 (x3_1 + 1)),(by first | rfl | (simp;done) | (simp [*];done)),H',⟨by have:=HK1.out;omega⟩,by repeat (first | exact Drawn0.refl _ | apply Drawn0.step)⟩
    ·rw [if_neg c3] at H
     exact absurd H (by simp)
   ·rw [if_neg c2] at H
    have c2b0 : decide (x3_1 < (a0.size : Int)) = false:=decide_eq_false c2
    clear c2
    replace H:=Option.bind_eq_some_iff.mp H
    obtain ⟨t1,A80,H⟩:=H
    replace H : (some t1) = some r:=H
    have A8:=a0_ A80
    clear A80
    obtain rfl:=Option.some.inj H
    go_wp2_with (first | ((with_reducible refine gate_callee (f:=41) rfl ?_);refine goesL_ (some 22) rfl rfl Try.func41 (by kernel_rfl) rfl #[.int .i64 (a0.size : Int),.int .i64 1,.int .i64 6] rfl lm_ ?_;(with_reducible refine (spec_inRange.calls (a0.size : Int) 1 6 t1 _ A8.out).mono ?_);rintro e w' ⟨rfl,⟨nd,rfl⟩⟩;refine ⟨_,rfl,?_⟩))
    go_ret
    exact ⟨by first | rfl | (simp;done) | (simp [*];done),by repeat (first | exact Drawn0.refl _ | apply Drawn0.step)⟩
theorem spec_validName_l0 (s : ByteArray) (hs : s.size ≤ 9223372036854775807) (d : Nat) : ∀ (k : Nat) (i : Nat),i ≤ s.size → s.size - i = d → d < k → spec_validName.l0 k s (i : Int) = some ((s.data.toList.drop i).all (fun c=>decide (97 ≤ c.toNat) && decide (c.toNat ≤ 122)) && (decide (1 ≤ s.size) && decide (s.size ≤ 6))):=by
 induction d with
 | zero =>
  intro k i hi hd hk
  obtain ⟨k,rfl⟩ : ∃ m,k = m + 1:=⟨k - 1,by omega⟩
  simp only [spec_validName.l0]
  rw [if_neg (by omega)]
  have : s.data.toList.drop i = []:=by
   apply List.drop_eq_nil_of_le
   have : s.data.toList.length = s.size:=toL_len s
   omega
  rw [this]
  simp only [spec_inRange.f,List.all_nil,Bool.true_and]
  by_cases h1 : 1 ≤ s.size
  ·rw [if_pos (show (s.size : Int) ≥ 1 by omega)]
   by_cases h2 : s.size ≤ 6
   ·simp [h1,h2];omega
   ·simp [h2];omega
  ·rw [if_neg (show ¬ (1 : Int) ≤ s.size by omega)];simp [h1]
 | succ d ih =>
  intro k i hi hd hk
  obtain ⟨k,rfl⟩ : ∃ m,k = m + 1:=⟨k - 1,by omega⟩
  have hlt : i < s.size:=by omega
  have hl : s.data.toList.length = s.size:=toL_len s
  simp only [spec_validName.l0]
  rw [if_pos (show (i : Int) < (s.size : Int) by omega),if_pos (show (0 : Int) ≤ (i : Int) by omega),bt_getElem s i hlt]
  have hd2 : s.data.toList.drop i = s[i] :: s.data.toList.drop (i + 1):=by
   rw [List.drop_eq_getElem_cons (by omega)]
   congr 1
  rw [hd2,List.all_cons]
  by_cases h1 : (s[i].toNat : Int) < 97
  ·rw [if_pos h1];have : ¬ 97 ≤ s[i].toNat:=by omega
   simp [this]
  ·rw [if_neg h1]
   by_cases h2 : (s[i].toNat : Int) > 122
   ·rw [if_pos h2];have : ¬ s[i].toNat ≤ 122:=by omega
    simp [this]
   ·rw [if_neg h2,wrap_succ (n:=s.size) (by omega) (by omega) (by omega)]
    have:=ih k (i + 1) (by omega) (by omega) (by omega)
    rw [show ((i : Int) + 1) = ((i + 1 : Nat) : Int) by omega,this]
    have a : 97 ≤ s[i].toNat:=by omega
    have b : s[i].toNat ≤ 122:=by omega
    simp [a,b]
theorem spec_validName_ev (s : ByteArray) (hs : s.size ≤ 9223372036854775807) : spec_validName.f (s.size + 1) s = some (okName s):=by
 unfold spec_validName.f okName
 have:=spec_validName_l0 s hs s.size (s.size + 1) 0 (by omega) (by omega) (by omega)
 simpa using this
end Go.Proofs.Ytjdpaholpfpiiaa.P
namespace Go.Proofs.Ytjdpaholpfpiiaa.P
open Go.RowKit Go.Proofs.YtjdpaholpfpiiaaW.PrintWords Go.Proofs.YtjdpaholpfpiiaaW.PrintLast Go.Proofs.YtjdpaholpfpiiaaW.PrintMore
attribute [local go_sem] max2_int min2_int max_two min_two max_three min_three max_four min_four
set_option linter.unusedVariables false
set_option linter.unusedSimpArgs false
def spec_classNamed.l0 : Nat → List (S70) → ByteArray → Int → Option (Int)
 | 0,_,_,_=>none
 | k + 1,x0,x1,x5=>if x5 < (x0.length : Int) then (if 0 ≤ x5 then (if ((rd_T70 x0 x5).f0).toList = x1.toList then (some x5) else (spec_classNamed.l0 k x0 x1 (wrap64 (x5 + 1)))) else (none)) else (some (-1))
def spec_classNamed.f (k : Nat) (l0 : List (S70)) (a1 : ByteArray) : Option (Int):=spec_classNamed.l0 k l0 a1 0
theorem spec_classNamed.mono_l : ∀ k,(∀ y0 y1 y2,LeO (spec_classNamed.l0 k y0 y1 y2) (spec_classNamed.l0 (k + 1) y0 y1 y2))
 | 0=>fun _ _ _ r h=>by simp [spec_classNamed.l0] at h
 | k + 1=>by
  have ih0:=spec_classNamed.mono_l k
  ·intro y0 y1 y2
   unfold spec_classNamed.l0
   repeat' first
   | (with_reducible exact ih0 _ _ _)
   | (with_reducible exact LeO.refl _)
   | (with_reducible exact LeO.none _)
   | (with_reducible refine LeO.ite ?_ ?_)
   | (with_reducible refine LeO.bind ?_ (fun _=>?_))
   | exact ih0 _ _ _
   | exact LeO.none _
   | refine LeO.ite ?_ ?_
   | refine LeO.bind ?_ (fun _=>?_)
theorem spec_classNamed.mono : ∀ a0 a1 k,LeO (spec_classNamed.f k a0 a1) (spec_classNamed.f (k + 1) a0 a1):=by
 intro a0 a1 k
 have ih0:=spec_classNamed.mono_l k
 unfold spec_classNamed.f
 repeat' first
   | (with_reducible exact ih0 _ _ _)
   | (with_reducible exact LeO.refl _)
   | (with_reducible exact LeO.none _)
   | (with_reducible refine LeO.ite ?_ ?_)
   | (with_reducible refine LeO.bind ?_ (fun _=>?_))
   | exact ih0 _ _ _
   | exact LeO.none _
   | refine LeO.ite ?_ ?_
   | refine LeO.bind ?_ (fun _=>?_)
set_option maxHeartbeats 8000000 in
set_option maxRecDepth 100000 in
theorem spec_classNamed.calls (k : Nat) (A0 : Option Addr) (c0 : Nat) (l0 : List (S70)) (a1 : ByteArray) (r : Int) (w : World) (hr0 : Kd.C k70 w A0 l0.length l0) (hc0 : l0.length ≤ c0) (h : spec_classNamed.f k l0 a1 = some r) :
  Calls Try.prog 56 #[.slice A0 l0.length c0,.string a1] w fun e w'=>e = .returned (.int .i64 r) ∧ Drawn0 w w':=by
 have HR0:=a0_ hr0
 have HC0:=a0_ hc0
 clear hr0 hc0
 have H : (spec_classNamed.l0 k l0 a1 0) = some r:=h
 clear h
 have H':=a0_ H
 clear H
 go_enter Try.func56,Try.ntmps56
 go_wp2
 go_loopg [5] k (fun kq v5 w'=>∃ (x5_1 : Int),v5 = .int .i64 x5_1 ∧ Aside0 (spec_classNamed.l0 kq l0 a1 x5_1 = some r) ∧ Aside0 (kq ≤ k) ∧ Drawn0 w w')
 case atStart=>exact ⟨(0),(by first | rfl | (simp;done) | (simp [*];done)),H',⟨Nat.le_refl _⟩,by repeat (first | exact Drawn0.refl _ | apply Drawn0.step)⟩
 case round =>
  clear H'
  try clear p2
  obtain ⟨x5_1,rfl,HA,HK1,⟨m1,rfl⟩⟩:=hrel
  cases gk with
  | zero=>exact absurd HA.out (by simp [spec_classNamed.l0])
  | succ k1 =>
   have H:=HA.out
   clear HA
   simp only [spec_classNamed.l0] at H
   by_cases c3 : x5_1 < (l0.length : Int)
   ·rw [if_pos c3] at H
    have c3b0 : decide (x5_1 < (l0.length : Int)) = true:=decide_eq_true c3
    clear c3
    by_cases c4 : 0 ≤ x5_1
    ·rw [if_pos c4] at H
     have c4b0 : decide (0 ≤ x5_1) = true:=decide_eq_true c4
     clear c4
     by_cases c5 : ((rd_T70 l0 x5_1).f0).toList = a1.toList
     ·rw [if_pos c5] at H
      have c5b0 : (((rd_T70 l0 x5_1).f0).toList == a1.toList) = true:=beq_iff_eq.mpr c5
      have c5b1 : (((rd_T70 l0 x5_1).f0).toList != a1.toList) = false:=bne_eq_false_iff_eq.mpr c5
      clear c5
      obtain rfl:=Option.some.inj H
      have p1 : 0 ≤ (x5_1 : Int):=of_decide_eq_true (by first | (with_reducible assumption) | assumption)
      have q1 : x5_1 < (l0.length : Int):=of_decide_eq_true (by first | (with_reducible assumption) | assumption)
      obtain ⟨ad1,e1,hx1_0,hx1_1⟩:=at_T70 HR0.out x5_1 p1 q1
      cases e1
      replace p1:=eq_true p1
      replace q1:=eq_true q1
      go_wp2
      go_ret
      exact ⟨by first | rfl | (simp;done) | (simp [*];done),by repeat (first | exact Drawn0.refl _ | apply Drawn0.step)⟩
     ·rw [if_neg c5] at H
      have c5b0 : (((rd_T70 l0 x5_1).f0).toList == a1.toList) = false:=beq_eq_false_iff_ne.mpr c5
      have c5b1 : (((rd_T70 l0 x5_1).f0).toList != a1.toList) = true:=bne_iff_ne.mpr c5
      have H':=a0_ H
      clear H
      have p1 : 0 ≤ (x5_1 : Int):=of_decide_eq_true (by first | (with_reducible assumption) | assumption)
      have q1 : x5_1 < (l0.length : Int):=of_decide_eq_true (by first | (with_reducible assumption) | assumption)
      obtain ⟨ad1,e1,hx1_0,hx1_1⟩:=at_T70 HR0.out x5_1 p1 q1
      cases e1
      replace p1:=eq_true p1
      replace q1:=eq_true q1
      go_wp2
      go_roundg k1
      case measure=>have:=HK1.out;omega
      case rel=>exact ⟨(wrap64 (x5_1 + 1)),(by first | rfl | (simp;done) | (simp [*];done)),H',⟨by have:=HK1.out;omega⟩,by repeat (first | exact Drawn0.refl _ | apply Drawn0.step)⟩
    ·rw [if_neg c4] at H
     exact absurd H (by simp)
   ·rw [if_neg c3] at H
    have c3b0 : decide (x5_1 < (l0.length : Int)) = false:=decide_eq_false c3
    clear c3
    obtain rfl:=Option.some.inj H
    go_wp2
    go_ret
    exact ⟨by first | rfl | (simp;done) | (simp [*];done),by repeat (first | exact Drawn0.refl _ | apply Drawn0.step)⟩
theorem spec_classNamed_l0 (t : List Cls) (n : ByteArray) (hs : t.length ≤ 9223372036854775807) (d : Nat) : ∀ (k : Nat) (i : Nat),i ≤ t.length → t.length - i = d → d < k → (∀ j (hj : j < t.length),j < i → (t[j].f0.toList == n.toList) = false) → spec_classNamed.l0 k t n (i : Int) = some (named t n):=by
 induction d with
 | zero =>
  intro k i hi hd hk hA
  obtain ⟨k,rfl⟩ : ∃ m,k = m + 1:=⟨k - 1,by omega⟩
  simp only [spec_classNamed.l0]
  rw [if_neg (show ¬ (i : Int) < (t.length : Int) by omega)]
  unfold named
  rw [idxP_miss _ t (fun j hj=>hA j hj (by omega))]
 | succ d ih =>
  intro k i hi hd hk hA
  obtain ⟨k,rfl⟩ : ∃ m,k = m + 1:=⟨k - 1,by omega⟩
  have hlt : i < t.length:=by omega
  simp only [spec_classNamed.l0]
  have hrd : rd_T70 t (i : Int) = t[i]:=by simp [rd_T70,hlt]
  rw [if_pos (show (i : Int) < (t.length : Int) by omega),if_pos (show (0 : Int) ≤ (i : Int) by omega),hrd]
  by_cases h1 : t[i].f0.toList = n.toList
  ·rw [if_pos h1]
   unfold named
   rw [idxP_hit (fun x : Cls=>x.f0.toList == n.toList) t i hlt (beq_iff_eq.2 h1) hA]
  ·rw [if_neg h1,wrap_succ (n:=t.length) (by omega) (by omega) (by omega)]
   rw [show ((i : Int) + 1) = ((i + 1 : Nat) : Int) by omega]
   refine ih k (i + 1) (by omega) (by omega) (by omega) (fun j hj hji=>?_)
   by_cases e : j = i
   ·subst e;exact beq_eq_false_iff_ne.2 h1
   ·exact hA j hj (by omega)
theorem spec_classNamed_ev (t : List Cls) (n : ByteArray) (hs : t.length ≤ 9223372036854775807) : spec_classNamed.f (t.length + 1) t n = some (named t n):=by
 unfold spec_classNamed.f
 exact spec_classNamed_l0 t n hs t.length (t.length + 1) 0 (by omega) (by omega) (by omega) (fun j _ hj=>absurd hj (Nat.not_lt_zero _))
end Go.Proofs.Ytjdpaholpfpiiaa.P
namespace Go.Proofs.Ytjdpaholpfpiiaa.P
open Go.RowKit Go.Proofs.YtjdpaholpfpiiaaW.PrintWords Go.Proofs.YtjdpaholpfpiiaaW.PrintLast Go.Proofs.YtjdpaholpfpiiaaW.PrintMore
attribute [local go_sem] max2_int min2_int max_two min_two max_three min_three max_four min_four
set_option linter.unusedVariables false
set_option linter.unusedSimpArgs false
theorem named_ahead (t : List Cls) (i : Nat) (hi : i < t.length) : (named (t.take i) t[i].f0 ≥ 0) ↔ ¬ named t t[i].f0 = (i : Int):=by
 have hself : (t[i].f0.toList == t[i].f0.toList) = true:=beq_self_eq_true _
 have hd:=idxP_nonneg (fun x : Cls=>x.f0.toList == t[i].f0.toList) (t.take i)
 unfold named
 by_cases hA : ∀ j (hj : j < t.length),j < i → (t[j].f0.toList == t[i].f0.toList) = false
 ·have h1 : idxP (fun x : Cls=>x.f0.toList == t[i].f0.toList) t = (i : Int):=idxP_hit _ t i hi hself hA
  have h2 : (t.take i).any (fun x : Cls=>x.f0.toList == t[i].f0.toList) = false:=by
   rw [List.any_eq_false]
   intro x hx
   obtain ⟨j,hj,rfl⟩:=List.getElem_of_mem hx
   have hj2 : j < i ∧ j < t.length:=by simp at hj;omega
   rw [List.getElem_take]
   simp [hA j hj2.2 hj2.1]
  rw [h2,decide_eq_false_iff_not] at hd
  constructor
  ·intro h;exact absurd h hd
  ·intro h;exact absurd h1 h
 ·have hex : ∃ j,∃ hj : j < t.length,j < i ∧ (t[j].f0.toList == t[i].f0.toList) = true:=by
   apply Classical.byContradiction
   intro hn
   apply hA
   intro j hj hji
   cases hb : (t[j].f0.toList == t[i].f0.toList) with
   | false=>rfl
   | true=>exact absurd ⟨j,hj,hji,hb⟩ hn
  obtain ⟨j,hj,hji,hb⟩:=hex
  have h2 : (t.take i).any (fun x : Cls=>x.f0.toList == t[i].f0.toList) = true:=by
   rw [List.any_eq_true]
   exact ⟨t[j],List.mem_take_iff_getElem.2 ⟨j,by omega,rfl⟩,hb⟩
  rw [h2,decide_eq_true_eq] at hd
  constructor
  ·intro _ h
   unfold idxP at h
   cases hf : t.findIdx? (fun x : Cls=>x.f0.toList == t[i].f0.toList) with
   | none=>rw [hf] at h;simp at h
   | some m =>
    rw [hf] at h
    have hm : m = i:=by have h' : (m : Int) = (i : Int):=h;omega
    subst hm
    rw [List.findIdx?_eq_some_iff_getElem] at hf
    obtain ⟨_,_,hf⟩:=hf
    exact absurd hb (by simpa using hf j hji)
  ·intro _;exact hd
def spec_validTree.f (l0_0 : List (S70)) : Option Bool:=if smT l0_0 = true then some (vT l0_0) else none
set_option maxHeartbeats 4000000 in
set_option maxRecDepth 100000 in
theorem spec_validTree.calls (A0_0 : Option Addr) (c0_0 : Nat) (l0_0 : List (S70)) (r : Bool) (w : World) (hr0_0 : Kd.C k70 w A0_0 l0_0.length l0_0) (hc0_0 : l0_0.length ≤ c0_0) (h : spec_validTree.f l0_0 = some r) :
  Calls Try.prog 44 #[.agg #[.slice A0_0 l0_0.length c0_0]] w fun e w'=>e = .returned (.bool r) ∧ Below w.heap.size w w':=by
 have hu31:=Try.underlying25
 have hsm : smT l0_0 = true:=by
  apply Classical.byContradiction
  intro hn
  rw [spec_validTree.f,if_neg hn] at h
  cases h
 rw [spec_validTree.f,if_pos hsm] at h
 have HRr:=a0_ (Option.some.inj h)
 have HSM:=a0_ hsm
 have HR:=a0_ hr0_0
 have hmax : l0_0.length ≤ 9223372036854775807:=hr0_0.2.1
 clear h hsm hr0_0
 go_enter Try.func44,Try.ntmps44
 go_wp2
 go_loopg [3] l0_0.length (fun gg s3 wr=>∃ kk : Nat,kk ≤ l0_0.length ∧ l0_0.length - kk ≤ gg ∧ s3 = .int .i64 kk ∧ Aside0 (Below w.heap.size w wr) ∧ Aside0 (wr.heap[w.heap.size]? = some (.cells #[.slice A0_0 l0_0.length c0_0] 25 (0,0))) ∧ Aside0 (∀ j,j < kk → okCls l0_0 j (l0_0.getD j z70) = true))
 case atStart=>exact ⟨0,Nat.zero_le _,by omega,rfl,⟨below1 w _⟩,⟨heap_new1 w _⟩,⟨fun j hj=>absurd hj (Nat.not_lt_zero _)⟩⟩
 case round =>
  obtain ⟨kk,hkk,hg,rfl,BW,BK,HA⟩:=hrel
  have hcz : wr.cell? ⟨w.heap.size,0,none⟩ = some (.slice A0_0 l0_0.length c0_0):=(blk_cell BK.out 0).trans rfl
  by_cases hlt : kk < l0_0.length
  ·have hltz : (kk : Int) < (l0_0.length : Int):=by omega
   obtain ⟨ad,ea,hx0,hx1⟩:=at_T70 HR.out (kk : Int) (by omega) (by omega)
   cases ea
   have hrd : rd_T70 l0_0 (kk : Int) = l0_0[kk]:=by simp [rd_T70,hlt]
   rw [hrd] at hx0 hx1
   rw [Int.toNat_natCast] at hx0 hx1
   replace hx0:=(BW.out.cell (World.block_lt_of_cell? w _ hx0)).trans hx0
   replace hx1:=(BW.out.cell (World.block_lt_of_cell? w _ hx1)).trans hx1
   clear hrd
   generalize hy : l0_0[kk] = y at hx0 hx1
   have B:=a0_ hy
   clear hy
   go_upto_region 5 with (fail)
   have hW1:=a0_ (below_alloc BW.out (.cells #[.string y.f0,.int .i64 y.f1] 70))
   have hW2:=a0_ (blk_alloc BK.out (.cells #[.string y.f0,.int .i64 y.f1] 70))
   have hW3:=(blk_cell hW2.out 0).trans rfl
   have hW4:=(blk_cell (heap_new1 wr (.cells #[.string y.f0,.int .i64 y.f1] 70)) 0).trans rfl
   have hW5:=(blk_cell (heap_new1 wr (.cells #[.string y.f0,.int .i64 y.f1] 70)) 1).trans rfl
   clear hcz hx0 hx1 BW BK
   generalize wr.alloc (.cells #[.string y.f0,.int .i64 y.f1] 70) = W1 at hW1 hW2 hW3 hW4 hW5 ⊢
   generalize wr.heap.size = gb at hW4 hW5 ⊢
   have hy1 : y.f0.size ≤ 9223372036854775806:=by rw [← B.out];exact smT_at HSM.out kk hlt
   have A1:=a0_ (spec_validName_ev y.f0 (by omega))
   have hlen : (l0_0.take kk).length = kk:=by simp;omega
   have hcn0:=fun (W : World) (hW : Below w.heap.size w W)=>spec_classNamed.calls _ (some ad) c0_0 (l0_0.take kk) y.f0 _ W (by
    have h1:=Kd.C_take (Kd.C_below HR.out hW) (show kk ≤ l0_0.length by omega)
    exact h1) (by rw [hlen];omega) (spec_classNamed_ev (l0_0.take kk) y.f0 (by rw [hlen];omega))
   rw [hlen] at hcn0
   have hahead:=named_ahead l0_0 kk hlt
   rw [B.out] at hahead
   have hok : okCls l0_0 kk (l0_0.getD kk z70) = okCls l0_0 kk y:=by
    rw [← B.out];simp [List.getD,hlt]
   have hdef : okCls l0_0 kk y = (okName y.f0 && (decide (named l0_0 y.f0 = (kk : Int)) && (if kk = 0 then decide (y.f1 = -1) else decide (0 ≤ y.f1) && decide (y.f1 ≤ (kk : Int) - 1)))):=rfl
   generalize hnn : named (l0_0.take kk) y.f0 = nn at hcn0 hahead
   have HCN:=a0_ hcn0
   have HAH:=a0_ hahead
   have HOK:=a0_ hok
   have HDF:=a0_ hdef
   clear hcn0 hahead hok hdef hnn hlen hy1
   have hcut : ∀ W : World,(Instr.slice 23 (.slice (some ad) l0_0.length c0_0) none (some (.int .i64 (kk : Int))) none).run Try.prog W = .ok (.slice (some ad) kk c0_0) W:=by
    obtain ⟨i0,hi0,_,hsz,_⟩:=info_parts info70
    have h1:=cut_to (P:=Try.prog) 23 70 .i64 Try.underlying23 hi0 (some ad) l0_0.length c0_0 (kk : Int) (by omega) (by omega) hc0_0
    rw [Int.toNat_natCast] at h1
    exact h1
   go_cut [51] (fun v51 wc=>v51 = .bool (!okCls l0_0 kk y) ∧ Aside0 (Below w.heap.size w wc) ∧ Aside0 (wc.heap[w.heap.size]? = some (.cells #[.slice (some ad) l0_0.length c0_0] 25 (0,0))))
   case first =>
    have hw1 : IntKind.i64.wrap ((kk : Int) - 1) = (kk : Int) - 1:=by rw [IntKind.wrap_i64];omega
    have A2:=a0_ (show spec_inRange.f y.f1 0 ((kk : Int) - 1) = some (decide (0 ≤ y.f1) && decide (y.f1 ≤ (kk : Int) - 1)) by
     unfold spec_inRange.f
     by_cases h0 : 0 ≤ y.f1
     ·rw [if_pos h0];simp [h0]
     ·rw [if_neg h0];simp [h0])
    cases hb1 : okName y.f0 with
    | false =>
     rw [hb1] at A1
     have BV : okCls l0_0 kk y = false:=by rw [HDF.out,hb1];rfl
     clear HDF HAH HOK
     go_quiet (first
     | (go_at_call 55;(with_reducible refine (spec_validName.calls _ y.f0 _ _ A1.out).mono ?_);rintro e w' ⟨rfl,⟨nd,rfl⟩⟩;exact ⟨rfl,_,World.drewN_drewN _ _ _⟩)
     | (go_at_call 56;(with_reducible refine (HCN.out _ (pw_below_drewN hW1.out _)).mono ?_);rintro e w' ⟨rfl,⟨nd,rfl⟩⟩;exact ⟨rfl,_,World.drewN_drewN _ _ _⟩)
     | (go_at_call 41;(with_reducible refine (spec_inRange.calls y.f1 0 ((kk : Int) - 1) _ _ A2.out).mono ?_);rintro e w' ⟨rfl,⟨nd,rfl⟩⟩;exact ⟨rfl,_,World.drewN_drewN _ _ _⟩))
     go_wp2
     go_meet
     case rel=>exact ⟨by (rw [BV]);first | rfl | (simp [*];done),⟨pw_below_drewN hW1.out _⟩,⟨blk_drewN hW2.out _⟩⟩
    | true =>
     rw [hb1] at A1
     by_cases hb2 : nn ≥ 0
     ·have BV : okCls l0_0 kk y = false:=by rw [HDF.out,hb1,decide_eq_false (HAH.out.1 hb2)];rfl
      have d2 : decide (0 ≤ nn) = true:=decide_eq_true hb2
      clear HDF HAH HOK hb2
      go_quiet (first
     | (go_at_call 55;(with_reducible refine (spec_validName.calls _ y.f0 _ _ A1.out).mono ?_);rintro e w' ⟨rfl,⟨nd,rfl⟩⟩;exact ⟨rfl,_,World.drewN_drewN _ _ _⟩)
     | (go_at_call 56;(with_reducible refine (HCN.out _ (pw_below_drewN hW1.out _)).mono ?_);rintro e w' ⟨rfl,⟨nd,rfl⟩⟩;exact ⟨rfl,_,World.drewN_drewN _ _ _⟩)
     | (go_at_call 41;(with_reducible refine (spec_inRange.calls y.f1 0 ((kk : Int) - 1) _ _ A2.out).mono ?_);rintro e w' ⟨rfl,⟨nd,rfl⟩⟩;exact ⟨rfl,_,World.drewN_drewN _ _ _⟩))
      go_wp2
      go_meet
      case rel=>exact ⟨by (rw [BV]);first | rfl | (simp [*];done),⟨pw_below_drewN hW1.out _⟩,⟨blk_drewN hW2.out _⟩⟩
     ·have hnm : named l0_0 y.f0 = (kk : Int):=Classical.byContradiction fun hn=>hb2 (HAH.out.2 hn)
      have d2 : decide (0 ≤ nn) = false:=decide_eq_false hb2
      have BV0 : okCls l0_0 kk y = (if kk = 0 then decide (y.f1 = -1) else decide (0 ≤ y.f1) && decide (y.f1 ≤ (kk : Int) - 1)):=by rw [HDF.out,hb1,decide_eq_true hnm];rfl
      clear HDF HAH HOK hb2 hnm
      by_cases hk0 : kk = 0
      ·have BV : okCls l0_0 kk y = decide (y.f1 = -1):=by rw [BV0,if_pos hk0]
       have e0 : ((kk : Int) == 0) = true:=beq_iff_eq.2 (by omega)
       have e1 : decide (0 < (kk : Int)) = false:=decide_eq_false (by omega)
       have e1n : decide (0 < kk) = false:=decide_eq_false (by omega)
       clear BV0
       by_cases hp : y.f1 = -1
       ·have e2 : (y.f1 != -1) = false:=by rw [hp];rfl
        have e3 : (y.f1 == -1) = true:=by rw [hp];rfl
        rw [decide_eq_true hp] at BV
        clear hp hk0
        go_quiet (first
     | (go_at_call 55;(with_reducible refine (spec_validName.calls _ y.f0 _ _ A1.out).mono ?_);rintro e w' ⟨rfl,⟨nd,rfl⟩⟩;exact ⟨rfl,_,World.drewN_drewN _ _ _⟩)
     | (go_at_call 56;(with_reducible refine (HCN.out _ (pw_below_drewN hW1.out _)).mono ?_);rintro e w' ⟨rfl,⟨nd,rfl⟩⟩;exact ⟨rfl,_,World.drewN_drewN _ _ _⟩)
     | (go_at_call 41;(with_reducible refine (spec_inRange.calls y.f1 0 ((kk : Int) - 1) _ _ A2.out).mono ?_);rintro e w' ⟨rfl,⟨nd,rfl⟩⟩;exact ⟨rfl,_,World.drewN_drewN _ _ _⟩))
        go_wp2
        go_meet
        case rel=>exact ⟨by (rw [BV]);first | rfl | (simp [*];done),⟨pw_below_drewN hW1.out _⟩,⟨blk_drewN hW2.out _⟩⟩
       ·have e2 : (y.f1 != -1) = true:=bne_iff_ne.2 hp
        have e3 : (y.f1 == -1) = false:=beq_eq_false_iff_ne.2 hp
        rw [decide_eq_false hp] at BV
        clear hp hk0
        go_quiet (first
     | (go_at_call 55;(with_reducible refine (spec_validName.calls _ y.f0 _ _ A1.out).mono ?_);rintro e w' ⟨rfl,⟨nd,rfl⟩⟩;exact ⟨rfl,_,World.drewN_drewN _ _ _⟩)
     | (go_at_call 56;(with_reducible refine (HCN.out _ (pw_below_drewN hW1.out _)).mono ?_);rintro e w' ⟨rfl,⟨nd,rfl⟩⟩;exact ⟨rfl,_,World.drewN_drewN _ _ _⟩)
     | (go_at_call 41;(with_reducible refine (spec_inRange.calls y.f1 0 ((kk : Int) - 1) _ _ A2.out).mono ?_);rintro e w' ⟨rfl,⟨nd,rfl⟩⟩;exact ⟨rfl,_,World.drewN_drewN _ _ _⟩))
        go_wp2
        go_meet
        case rel=>exact ⟨by (rw [BV]);first | rfl | (simp [*];done),⟨pw_below_drewN hW1.out _⟩,⟨blk_drewN hW2.out _⟩⟩
      ·have BV : okCls l0_0 kk y = (decide (0 ≤ y.f1) && decide (y.f1 ≤ (kk : Int) - 1)):=by rw [BV0,if_neg hk0]
       have e0 : ((kk : Int) == 0) = false:=beq_eq_false_iff_ne.2 (by omega)
       have e1 : decide (0 < (kk : Int)) = true:=decide_eq_true (by omega)
       have e1n : decide (0 < kk) = true:=decide_eq_true (by omega)
       rw [← BV] at A2
       clear BV BV0 hk0
       cases BV : okCls l0_0 kk y with
       | false =>
        rw [BV] at A2
        go_quiet (first
     | (go_at_call 55;(with_reducible refine (spec_validName.calls _ y.f0 _ _ A1.out).mono ?_);rintro e w' ⟨rfl,⟨nd,rfl⟩⟩;exact ⟨rfl,_,World.drewN_drewN _ _ _⟩)
     | (go_at_call 56;(with_reducible refine (HCN.out _ (pw_below_drewN hW1.out _)).mono ?_);rintro e w' ⟨rfl,⟨nd,rfl⟩⟩;exact ⟨rfl,_,World.drewN_drewN _ _ _⟩)
     | (go_at_call 41;(with_reducible refine (spec_inRange.calls y.f1 0 ((kk : Int) - 1) _ _ A2.out).mono ?_);rintro e w' ⟨rfl,⟨nd,rfl⟩⟩;exact ⟨rfl,_,World.drewN_drewN _ _ _⟩))
        go_wp2
        go_meet
        case rel=>exact ⟨by (rw [BV]);first | rfl | (simp [*];done),⟨pw_below_drewN hW1.out _⟩,⟨blk_drewN hW2.out _⟩⟩
       | true =>
        rw [BV] at A2
        go_quiet (first
     | (go_at_call 55;(with_reducible refine (spec_validName.calls _ y.f0 _ _ A1.out).mono ?_);rintro e w' ⟨rfl,⟨nd,rfl⟩⟩;exact ⟨rfl,_,World.drewN_drewN _ _ _⟩)
     | (go_at_call 56;(with_reducible refine (HCN.out _ (pw_below_drewN hW1.out _)).mono ?_);rintro e w' ⟨rfl,⟨nd,rfl⟩⟩;exact ⟨rfl,_,World.drewN_drewN _ _ _⟩)
     | (go_at_call 41;(with_reducible refine (spec_inRange.calls y.f1 0 ((kk : Int) - 1) _ _ A2.out).mono ?_);rintro e w' ⟨rfl,⟨nd,rfl⟩⟩;exact ⟨rfl,_,World.drewN_drewN _ _ _⟩))
        go_wp2
        go_meet
        case rel=>exact ⟨by (rw [BV]);first | rfl | (simp [*];done),⟨pw_below_drewN hW1.out _⟩,⟨blk_drewN hW2.out _⟩⟩
   case rest =>
    obtain ⟨rfl,hW,hK⟩:=hcut
    have hb:=HOK.out
    cases BV : okCls l0_0 kk y with
    | false =>
     go_wp2
     go_ret
     refine ⟨?_,hW.out⟩
     rw [← HRr.out]
     have : vT l0_0 = false:=by
      cases hv : vT l0_0 with
      | false=>rfl
      | true=>have:=vT_at hv kk hlt;rw [HOK.out,BV] at this;cases this
     rw [this];rfl
    | true =>
     go_wp2
     go_roundg (l0_0.length - (kk + 1))
     case measure=>omega
     case rel =>
      refine ⟨kk + 1,by omega,by omega,by go_num,⟨hW.out⟩,⟨hK.out⟩,⟨fun j hj=>?_⟩⟩
      by_cases e : j = kk
      ·subst e;rw [HOK.out,BV]
      ·exact HA.out j (by omega)
  ·have hltz : ¬ (kk : Int) < (l0_0.length : Int):=by omega
   have : kk = l0_0.length:=by omega
   subst this
   have A3:=a0_ (show spec_inRange.f (l0_0.length : Int) 1 8 = some (vT l0_0) by
    have hall : (List.range l0_0.length).all (fun i=>okCls l0_0 i (l0_0.getD i z70)) = true:=by
     rw [List.all_eq_true];intro i hi;exact HA.out i (by simpa using hi)
    unfold spec_inRange.f vT
    rw [hall]
    by_cases h1 : (1 : Int) ≤ l0_0.length
    ·rw [if_pos h1]
     have h1' : 1 ≤ l0_0.length:=by omega
     by_cases h8 : l0_0.length ≤ 8
     ·simp [h1',h8];omega
     ·simp [h8];omega
    ·rw [if_neg h1]
     have h1' : ¬ 1 ≤ l0_0.length:=by omega
     simp [h1'])
   rw [HRr.out] at A3
   go_wp2_with (go_at_call 41;(with_reducible refine (spec_inRange.calls (l0_0.length : Int) 1 8 _ _ A3.out).mono ?_);rintro e w' ⟨rfl,⟨nd,rfl⟩⟩)
   go_ret
   exact ⟨rfl,pw_below_drewN BW.out _⟩
end Go.Proofs.Ytjdpaholpfpiiaa.P
namespace Go.Proofs.Ytjdpaholpfpiiaa.P
open Go.RowKit Go.Proofs.YtjdpaholpfpiiaaW.PrintWords Go.Proofs.YtjdpaholpfpiiaaW.PrintLast Go.Proofs.YtjdpaholpfpiiaaW.PrintMore
attribute [local go_sem] max2_int min2_int max_two min_two max_three min_three max_four min_four
set_option linter.unusedVariables false
set_option linter.unusedSimpArgs false
def spec_validGroup.f (l0_0 : List Cls) (l1 : List Prt) : Option Bool:=if smT l0_0 = true then some (vG l0_0 l1) else none
set_option maxHeartbeats 8000000 in
set_option maxRecDepth 100000 in
theorem spec_validGroup.calls (A0_0 : Option Addr) (c0_0 : Nat) (l0_0 : List (S70)) (A1 : Option Addr) (c1 : Nat) (l1 : List (S35)) (r : Bool) (w : World) (hr0_0 : Kd.C k70 w A0_0 l0_0.length l0_0) (hc0_0 : l0_0.length ≤ c0_0) (hr1 : Kd.C k35 w A1 l1.length l1) (hc1 : l1.length ≤ c1) (h : spec_validGroup.f l0_0 l1 = some r) :
  Calls Try.prog 23 #[.agg #[.slice A0_0 l0_0.length c0_0],.slice A1 l1.length c1] w fun e w'=>e = .returned (.bool r) ∧ Below w.heap.size w w':=by
 have hu31:=Try.underlying25
 have hu74:=Try.underlying35
 have hsm : smT l0_0 = true:=by
  apply Classical.byContradiction
  intro hn
  rw [spec_validGroup.f,if_neg hn] at h
  cases h
 rw [spec_validGroup.f,if_pos hsm] at h
 have HRr:=a0_ (Option.some.inj h)
 have HV:=a0_ (fun (W : World) (hb : Below w.heap.size w W)=>spec_validTree.calls A0_0 c0_0 l0_0 (vT l0_0) W (Kd.C_below hr0_0 hb) hc0_0 (by rw [spec_validTree.f,if_pos hsm]))
 have HH:=a0_ (fun (a : Int) (W : World) (hb : Below w.heap.size w W)=>spec_hasClass.calls A0_0 c0_0 l0_0 a (hasC l0_0 a) W (Kd.C_below hr0_0 hb) hc0_0 (spec_hasClass_ev l0_0 a hr0_0.2.1))
 have HR:=a0_ hr1
 have HC1:=a0_ hc1
 have hmax : l1.length ≤ 9223372036854775807:=hr1.2.1
 clear h hsm hr0_0 hr1
 go_enter Try.func23,Try.ntmps23
 go_wp2
 go_loopg [5] l1.length (fun gg s5 wr=>∃ kk : Nat,kk ≤ l1.length ∧ l1.length - kk ≤ gg ∧ s5 = .int .i64 kk ∧ Aside0 (Below w.heap.size w wr) ∧ Aside0 (wr.heap[w.heap.size]? = some (.cells #[.slice A0_0 l0_0.length c0_0] 25 (0,0))) ∧ Aside0 (∀ j,j < kk → okP l0_0 l1 j (l1.getD j z35) = true))
 case atStart=>exact ⟨0,Nat.zero_le _,by omega,rfl,⟨below1 w _⟩,⟨heap_new1 w _⟩,⟨fun j hj=>absurd hj (Nat.not_lt_zero _)⟩⟩
 case round =>
  obtain ⟨kk,hkk,hg,rfl,BW,BK,HA⟩:=hrel
  have hcz : wr.cell? ⟨w.heap.size,0,none⟩ = some (.slice A0_0 l0_0.length c0_0):=(blk_cell BK.out 0).trans rfl
  by_cases hlt : kk < l1.length
  ·have hltz : (kk : Int) < (l1.length : Int):=by omega
   obtain ⟨ad,ea,hx0,hx1,hx2,hx3⟩:=at_T35 HR.out (kk : Int) (by omega) (by omega)
   cases ea
   have hrd : rd_T35 l1 (kk : Int) = l1.getD kk z35:=by simp [rd_T35]
   rw [hrd] at hx0 hx1 hx2 hx3
   rw [Int.toNat_natCast] at hx0 hx1 hx2 hx3
   replace hx0:=(BW.out.cell (World.block_lt_of_cell? w _ hx0)).trans hx0
   replace hx1:=(BW.out.cell (World.block_lt_of_cell? w _ hx1)).trans hx1
   replace hx2:=(BW.out.cell (World.block_lt_of_cell? w _ hx2)).trans hx2
   replace hx3:=(BW.out.cell (World.block_lt_of_cell? w _ hx3)).trans hx3
   clear hrd
   obtain ⟨kE,hkE⟩:=Ev.out (spec_endOf_ev l1 kk hlt hmax)
   have HEN:=a0_ (fun (W : World) (hb : Below w.heap.size w W)=>spec_endOf.calls kE (some ad) c1 l1 (kk : Int) ((endG l1 kk : Nat) : Int) W (Kd.C_below HR.out hb) HC1.out hkE)
   clear hkE
   have hdf : okP l0_0 l1 kk (l1.getD kk z35) = (okP1 l0_0 kk (l1.getD kk z35) && ((if kk = 0 then true else okUp (l1.getD (kk - 1) z35) (l1.getD kk z35)) && !((l1.getD kk z35).f1 && ((endG l1 kk : Int) == (kk : Int) + 1)))):=rfl
   generalize hy : l1.getD kk z35 = y at hx0 hx1 hx2 hx3 hdf
   have B:=a0_ hy
   clear hy
   obtain ⟨y0,y1,y2,y3⟩:=y
   go_upto_region 5 with (fail)
   have hW1:=a0_ (below_alloc BW.out (.cells #[.int .i64 y0,.bool y1,.int .i64 y2,.int .i64 y3] 35))
   have hW2:=a0_ (blk_alloc BK.out (.cells #[.int .i64 y0,.bool y1,.int .i64 y2,.int .i64 y3] 35))
   have hW3:=a0_ (heap_new1 wr (.cells #[.int .i64 y0,.bool y1,.int .i64 y2,.int .i64 y3] 35))
   clear hcz hx0 hx1 hx2 hx3 BW BK
   generalize wr.alloc (.cells #[.int .i64 y0,.bool y1,.int .i64 y2,.int .i64 y3] 35) = W1 at hW1 hW2 hW3 ⊢
   generalize wr.heap.size = gb at hW3 ⊢
   generalize hq1 : okP1 l0_0 kk ⟨y0,y1,y2,y3⟩ = q1 at hdf
   have hdf1 : okP1 l0_0 kk ⟨y0,y1,y2,y3⟩ = ((decide (0 ≤ y3) && decide (y3 ≤ 99)) && ((decide (0 ≤ y0) && decide (y0 ≤ 5)) && (!(y1 && !(y2 == 0)) && (!(!y1 && !hasC l0_0 y2) && ((y0 == 0) == ((kk : Int) == 0)))))):=rfl
   rw [hq1] at hdf1
   have HDF:=a0_ hdf
   clear hdf hq1
   go_cut [55] (fun v55 WC=>v55 = .bool (!q1) ∧ Aside0 (Below w.heap.size w WC) ∧ Aside0 (WC.heap[w.heap.size]? = some (.cells #[.slice A0_0 l0_0.length c0_0] 25 (0,0))) ∧ Aside0 (WC.heap[gb]? = some (.cells #[.int .i64 y0,.bool y1,.int .i64 y2,.int .i64 y3] 35 (0,0))))
   case first =>
    have A1:=spec_inRange_ev y3 0 99
    have A2:=spec_inRange_ev y0 0 5
    have H3:=HH.out y2
    generalize (decide (0 ≤ y3) && decide (y3 ≤ 99)) = b1 at A1 hdf1
    generalize (decide (0 ≤ y0) && decide (y0 ≤ 5)) = b2 at A2 hdf1
    generalize hasC l0_0 y2 = b4 at H3 hdf1
    replace A1:=a0_ A1
    replace A2:=a0_ A2
    replace H3:=a0_ H3
    have HB:=hW1
    have BK:=hW2
    have BY:=hW3
    clear hW1 hW2 hW3 HDF HEN HH HV HA HRr
    have hcz : W1.cell? ⟨w.heap.size,0,none⟩ = some (.slice A0_0 l0_0.length c0_0):=(blk_cell BK.out 0).trans rfl
    have e0 : W1.cell? ⟨gb,0,none⟩ = some (.int .i64 y0):=(blk_cell BY.out 0).trans rfl
    have e1 : W1.cell? ⟨gb,1,none⟩ = some (.bool y1):=(blk_cell BY.out 1).trans rfl
    have e2 : W1.cell? ⟨gb,2,none⟩ = some (.int .i64 y2):=(blk_cell BY.out 2).trans rfl
    have e3 : W1.cell? ⟨gb,3,none⟩ = some (.int .i64 y3):=(blk_cell BY.out 3).trans rfl
    cases b1 with
    | false =>
     have BV:=a0_ (show q1 = false from hdf1.trans (by simp))
     clear hdf1
     go_wp2_with (first
     | (go_at_call 41;(first | (with_reducible refine (spec_inRange.calls y3 0 99 _ _ A1.out).mono ?_) | (with_reducible refine (spec_inRange.calls y0 0 5 _ _ A2.out).mono ?_));rintro e w' ⟨rfl,hd'⟩;have hb':=hd'.below;clear hd';replace HB:=a0_ (below_step HB.out hb');replace BK:=a0_ (blk_keptB BK.out hb');replace BY:=a0_ (blk_keptB BY.out hb');clear hb' hcz e0 e1 e2 e3;have hcz : w'.cell? ⟨w.heap.size,0,none⟩ = some (.slice A0_0 l0_0.length c0_0):=(blk_cell BK.out 0).trans rfl;have e0 : w'.cell? ⟨gb,0,none⟩ = some (.int .i64 y0):=(blk_cell BY.out 0).trans rfl;have e1 : w'.cell? ⟨gb,1,none⟩ = some (.bool y1):=(blk_cell BY.out 1).trans rfl;have e2 : w'.cell? ⟨gb,2,none⟩ = some (.int .i64 y2):=(blk_cell BY.out 2).trans rfl;have e3 : w'.cell? ⟨gb,3,none⟩ = some (.int .i64 y3):=(blk_cell BY.out 3).trans rfl)
     | (go_at_call 42;refine (H3.out _ HB.out).mono ?_;rintro e w' ⟨rfl,hb'⟩;replace HB:=a0_ (below_step HB.out hb');replace BK:=a0_ (blk_keptB BK.out hb');replace BY:=a0_ (blk_keptB BY.out hb');clear hb' hcz e0 e1 e2 e3;have hcz : w'.cell? ⟨w.heap.size,0,none⟩ = some (.slice A0_0 l0_0.length c0_0):=(blk_cell BK.out 0).trans rfl;have e0 : w'.cell? ⟨gb,0,none⟩ = some (.int .i64 y0):=(blk_cell BY.out 0).trans rfl;have e1 : w'.cell? ⟨gb,1,none⟩ = some (.bool y1):=(blk_cell BY.out 1).trans rfl;have e2 : w'.cell? ⟨gb,2,none⟩ = some (.int .i64 y2):=(blk_cell BY.out 2).trans rfl;have e3 : w'.cell? ⟨gb,3,none⟩ = some (.int .i64 y3):=(blk_cell BY.out 3).trans rfl))
     go_meet
     case rel=>exact ⟨by rw [BV.out];first | rfl | (simp;done),HB,BK,BY⟩
    | true =>
     cases b2 with
     | false =>
      have BV:=a0_ (show q1 = false from hdf1.trans (by simp))
      clear hdf1
      go_wp2_with (first
     | (go_at_call 41;(first | (with_reducible refine (spec_inRange.calls y3 0 99 _ _ A1.out).mono ?_) | (with_reducible refine (spec_inRange.calls y0 0 5 _ _ A2.out).mono ?_));rintro e w' ⟨rfl,hd'⟩;have hb':=hd'.below;clear hd';replace HB:=a0_ (below_step HB.out hb');replace BK:=a0_ (blk_keptB BK.out hb');replace BY:=a0_ (blk_keptB BY.out hb');clear hb' hcz e0 e1 e2 e3;have hcz : w'.cell? ⟨w.heap.size,0,none⟩ = some (.slice A0_0 l0_0.length c0_0):=(blk_cell BK.out 0).trans rfl;have e0 : w'.cell? ⟨gb,0,none⟩ = some (.int .i64 y0):=(blk_cell BY.out 0).trans rfl;have e1 : w'.cell? ⟨gb,1,none⟩ = some (.bool y1):=(blk_cell BY.out 1).trans rfl;have e2 : w'.cell? ⟨gb,2,none⟩ = some (.int .i64 y2):=(blk_cell BY.out 2).trans rfl;have e3 : w'.cell? ⟨gb,3,none⟩ = some (.int .i64 y3):=(blk_cell BY.out 3).trans rfl)
     | (go_at_call 42;refine (H3.out _ HB.out).mono ?_;rintro e w' ⟨rfl,hb'⟩;replace HB:=a0_ (below_step HB.out hb');replace BK:=a0_ (blk_keptB BK.out hb');replace BY:=a0_ (blk_keptB BY.out hb');clear hb' hcz e0 e1 e2 e3;have hcz : w'.cell? ⟨w.heap.size,0,none⟩ = some (.slice A0_0 l0_0.length c0_0):=(blk_cell BK.out 0).trans rfl;have e0 : w'.cell? ⟨gb,0,none⟩ = some (.int .i64 y0):=(blk_cell BY.out 0).trans rfl;have e1 : w'.cell? ⟨gb,1,none⟩ = some (.bool y1):=(blk_cell BY.out 1).trans rfl;have e2 : w'.cell? ⟨gb,2,none⟩ = some (.int .i64 y2):=(blk_cell BY.out 2).trans rfl;have e3 : w'.cell? ⟨gb,3,none⟩ = some (.int .i64 y3):=(blk_cell BY.out 3).trans rfl))
      go_meet
      case rel=>exact ⟨by rw [BV.out];first | rfl | (simp;done),HB,BK,BY⟩
     | true =>
      cases y1 with
      | true =>
       cases hz2 : (y2 == (0 : Int)) with
       | false =>
        have hz2n : (y2 != (0 : Int)) = true:=by rw [bne,hz2];rfl
        rw [hz2] at hdf1
        have BV:=a0_ (show q1 = false from hdf1.trans (by simp))
        clear hdf1
        go_wp2_with (first
     | (go_at_call 41;(first | (with_reducible refine (spec_inRange.calls y3 0 99 _ _ A1.out).mono ?_) | (with_reducible refine (spec_inRange.calls y0 0 5 _ _ A2.out).mono ?_));rintro e w' ⟨rfl,hd'⟩;have hb':=hd'.below;clear hd';replace HB:=a0_ (below_step HB.out hb');replace BK:=a0_ (blk_keptB BK.out hb');replace BY:=a0_ (blk_keptB BY.out hb');clear hb' hcz e0 e1 e2 e3;have hcz : w'.cell? ⟨w.heap.size,0,none⟩ = some (.slice A0_0 l0_0.length c0_0):=(blk_cell BK.out 0).trans rfl;have e0 : w'.cell? ⟨gb,0,none⟩ = some (.int .i64 y0):=(blk_cell BY.out 0).trans rfl;have e1 : w'.cell? ⟨gb,1,none⟩ = some (.bool true):=(blk_cell BY.out 1).trans rfl;have e2 : w'.cell? ⟨gb,2,none⟩ = some (.int .i64 y2):=(blk_cell BY.out 2).trans rfl;have e3 : w'.cell? ⟨gb,3,none⟩ = some (.int .i64 y3):=(blk_cell BY.out 3).trans rfl)
     | (go_at_call 42;refine (H3.out _ HB.out).mono ?_;rintro e w' ⟨rfl,hb'⟩;replace HB:=a0_ (below_step HB.out hb');replace BK:=a0_ (blk_keptB BK.out hb');replace BY:=a0_ (blk_keptB BY.out hb');clear hb' hcz e0 e1 e2 e3;have hcz : w'.cell? ⟨w.heap.size,0,none⟩ = some (.slice A0_0 l0_0.length c0_0):=(blk_cell BK.out 0).trans rfl;have e0 : w'.cell? ⟨gb,0,none⟩ = some (.int .i64 y0):=(blk_cell BY.out 0).trans rfl;have e1 : w'.cell? ⟨gb,1,none⟩ = some (.bool true):=(blk_cell BY.out 1).trans rfl;have e2 : w'.cell? ⟨gb,2,none⟩ = some (.int .i64 y2):=(blk_cell BY.out 2).trans rfl;have e3 : w'.cell? ⟨gb,3,none⟩ = some (.int .i64 y3):=(blk_cell BY.out 3).trans rfl))
        go_meet
        case rel=>exact ⟨by rw [BV.out];first | rfl | (simp;done),HB,BK,BY⟩
       | true =>
        have hz2n : (y2 != (0 : Int)) = false:=by rw [bne,hz2];rfl
        rw [hz2] at hdf1
        cases hz : (y0 == (0 : Int)) <;> cases hk : ((kk : Int) == 0) <;> rw [hz,hk] at hdf1
        ·
         have BV:=a0_ (show q1 = true from hdf1.trans (by first | rfl | (cases b4 <;> rfl) | simp))
         clear hdf1
         go_wp2_with (first
     | (go_at_call 41;(first | (with_reducible refine (spec_inRange.calls y3 0 99 _ _ A1.out).mono ?_) | (with_reducible refine (spec_inRange.calls y0 0 5 _ _ A2.out).mono ?_));rintro e w' ⟨rfl,hd'⟩;have hb':=hd'.below;clear hd';replace HB:=a0_ (below_step HB.out hb');replace BK:=a0_ (blk_keptB BK.out hb');replace BY:=a0_ (blk_keptB BY.out hb');clear hb' hcz e0 e1 e2 e3;have hcz : w'.cell? ⟨w.heap.size,0,none⟩ = some (.slice A0_0 l0_0.length c0_0):=(blk_cell BK.out 0).trans rfl;have e0 : w'.cell? ⟨gb,0,none⟩ = some (.int .i64 y0):=(blk_cell BY.out 0).trans rfl;have e1 : w'.cell? ⟨gb,1,none⟩ = some (.bool true):=(blk_cell BY.out 1).trans rfl;have e2 : w'.cell? ⟨gb,2,none⟩ = some (.int .i64 y2):=(blk_cell BY.out 2).trans rfl;have e3 : w'.cell? ⟨gb,3,none⟩ = some (.int .i64 y3):=(blk_cell BY.out 3).trans rfl)
     | (go_at_call 42;refine (H3.out _ HB.out).mono ?_;rintro e w' ⟨rfl,hb'⟩;replace HB:=a0_ (below_step HB.out hb');replace BK:=a0_ (blk_keptB BK.out hb');replace BY:=a0_ (blk_keptB BY.out hb');clear hb' hcz e0 e1 e2 e3;have hcz : w'.cell? ⟨w.heap.size,0,none⟩ = some (.slice A0_0 l0_0.length c0_0):=(blk_cell BK.out 0).trans rfl;have e0 : w'.cell? ⟨gb,0,none⟩ = some (.int .i64 y0):=(blk_cell BY.out 0).trans rfl;have e1 : w'.cell? ⟨gb,1,none⟩ = some (.bool true):=(blk_cell BY.out 1).trans rfl;have e2 : w'.cell? ⟨gb,2,none⟩ = some (.int .i64 y2):=(blk_cell BY.out 2).trans rfl;have e3 : w'.cell? ⟨gb,3,none⟩ = some (.int .i64 y3):=(blk_cell BY.out 3).trans rfl))
         go_meet
         case rel=>exact ⟨by rw [BV.out];first | rfl | (simp;done),HB,BK,BY⟩
        ·
         have BV:=a0_ (show q1 = false from hdf1.trans (by first | rfl | (cases b4 <;> rfl) | simp))
         clear hdf1
         go_wp2_with (first
     | (go_at_call 41;(first | (with_reducible refine (spec_inRange.calls y3 0 99 _ _ A1.out).mono ?_) | (with_reducible refine (spec_inRange.calls y0 0 5 _ _ A2.out).mono ?_));rintro e w' ⟨rfl,hd'⟩;have hb':=hd'.below;clear hd';replace HB:=a0_ (below_step HB.out hb');replace BK:=a0_ (blk_keptB BK.out hb');replace BY:=a0_ (blk_keptB BY.out hb');clear hb' hcz e0 e1 e2 e3;have hcz : w'.cell? ⟨w.heap.size,0,none⟩ = some (.slice A0_0 l0_0.length c0_0):=(blk_cell BK.out 0).trans rfl;have e0 : w'.cell? ⟨gb,0,none⟩ = some (.int .i64 y0):=(blk_cell BY.out 0).trans rfl;have e1 : w'.cell? ⟨gb,1,none⟩ = some (.bool true):=(blk_cell BY.out 1).trans rfl;have e2 : w'.cell? ⟨gb,2,none⟩ = some (.int .i64 y2):=(blk_cell BY.out 2).trans rfl;have e3 : w'.cell? ⟨gb,3,none⟩ = some (.int .i64 y3):=(blk_cell BY.out 3).trans rfl)
     | (go_at_call 42;refine (H3.out _ HB.out).mono ?_;rintro e w' ⟨rfl,hb'⟩;replace HB:=a0_ (below_step HB.out hb');replace BK:=a0_ (blk_keptB BK.out hb');replace BY:=a0_ (blk_keptB BY.out hb');clear hb' hcz e0 e1 e2 e3;have hcz : w'.cell? ⟨w.heap.size,0,none⟩ = some (.slice A0_0 l0_0.length c0_0):=(blk_cell BK.out 0).trans rfl;have e0 : w'.cell? ⟨gb,0,none⟩ = some (.int .i64 y0):=(blk_cell BY.out 0).trans rfl;have e1 : w'.cell? ⟨gb,1,none⟩ = some (.bool true):=(blk_cell BY.out 1).trans rfl;have e2 : w'.cell? ⟨gb,2,none⟩ = some (.int .i64 y2):=(blk_cell BY.out 2).trans rfl;have e3 : w'.cell? ⟨gb,3,none⟩ = some (.int .i64 y3):=(blk_cell BY.out 3).trans rfl))
         go_meet
         case rel=>exact ⟨by rw [BV.out];first | rfl | (simp;done),HB,BK,BY⟩
        ·
         have BV:=a0_ (show q1 = false from hdf1.trans (by first | rfl | (cases b4 <;> rfl) | simp))
         clear hdf1
         go_wp2_with (first
     | (go_at_call 41;(first | (with_reducible refine (spec_inRange.calls y3 0 99 _ _ A1.out).mono ?_) | (with_reducible refine (spec_inRange.calls y0 0 5 _ _ A2.out).mono ?_));rintro e w' ⟨rfl,hd'⟩;have hb':=hd'.below;clear hd';replace HB:=a0_ (below_step HB.out hb');replace BK:=a0_ (blk_keptB BK.out hb');replace BY:=a0_ (blk_keptB BY.out hb');clear hb' hcz e0 e1 e2 e3;have hcz : w'.cell? ⟨w.heap.size,0,none⟩ = some (.slice A0_0 l0_0.length c0_0):=(blk_cell BK.out 0).trans rfl;have e0 : w'.cell? ⟨gb,0,none⟩ = some (.int .i64 y0):=(blk_cell BY.out 0).trans rfl;have e1 : w'.cell? ⟨gb,1,none⟩ = some (.bool true):=(blk_cell BY.out 1).trans rfl;have e2 : w'.cell? ⟨gb,2,none⟩ = some (.int .i64 y2):=(blk_cell BY.out 2).trans rfl;have e3 : w'.cell? ⟨gb,3,none⟩ = some (.int .i64 y3):=(blk_cell BY.out 3).trans rfl)
     | (go_at_call 42;refine (H3.out _ HB.out).mono ?_;rintro e w' ⟨rfl,hb'⟩;replace HB:=a0_ (below_step HB.out hb');replace BK:=a0_ (blk_keptB BK.out hb');replace BY:=a0_ (blk_keptB BY.out hb');clear hb' hcz e0 e1 e2 e3;have hcz : w'.cell? ⟨w.heap.size,0,none⟩ = some (.slice A0_0 l0_0.length c0_0):=(blk_cell BK.out 0).trans rfl;have e0 : w'.cell? ⟨gb,0,none⟩ = some (.int .i64 y0):=(blk_cell BY.out 0).trans rfl;have e1 : w'.cell? ⟨gb,1,none⟩ = some (.bool true):=(blk_cell BY.out 1).trans rfl;have e2 : w'.cell? ⟨gb,2,none⟩ = some (.int .i64 y2):=(blk_cell BY.out 2).trans rfl;have e3 : w'.cell? ⟨gb,3,none⟩ = some (.int .i64 y3):=(blk_cell BY.out 3).trans rfl))
         go_meet
         case rel=>exact ⟨by rw [BV.out];first | rfl | (simp;done),HB,BK,BY⟩
        ·
         have BV:=a0_ (show q1 = true from hdf1.trans (by first | rfl | (cases b4 <;> rfl) | simp))
         clear hdf1
         go_wp2_with (first
     | (go_at_call 41;(first | (with_reducible refine (spec_inRange.calls y3 0 99 _ _ A1.out).mono ?_) | (with_reducible refine (spec_inRange.calls y0 0 5 _ _ A2.out).mono ?_));rintro e w' ⟨rfl,hd'⟩;have hb':=hd'.below;clear hd';replace HB:=a0_ (below_step HB.out hb');replace BK:=a0_ (blk_keptB BK.out hb');replace BY:=a0_ (blk_keptB BY.out hb');clear hb' hcz e0 e1 e2 e3;have hcz : w'.cell? ⟨w.heap.size,0,none⟩ = some (.slice A0_0 l0_0.length c0_0):=(blk_cell BK.out 0).trans rfl;have e0 : w'.cell? ⟨gb,0,none⟩ = some (.int .i64 y0):=(blk_cell BY.out 0).trans rfl;have e1 : w'.cell? ⟨gb,1,none⟩ = some (.bool true):=(blk_cell BY.out 1).trans rfl;have e2 : w'.cell? ⟨gb,2,none⟩ = some (.int .i64 y2):=(blk_cell BY.out 2).trans rfl;have e3 : w'.cell? ⟨gb,3,none⟩ = some (.int .i64 y3):=(blk_cell BY.out 3).trans rfl)
     | (go_at_call 42;refine (H3.out _ HB.out).mono ?_;rintro e w' ⟨rfl,hb'⟩;replace HB:=a0_ (below_step HB.out hb');replace BK:=a0_ (blk_keptB BK.out hb');replace BY:=a0_ (blk_keptB BY.out hb');clear hb' hcz e0 e1 e2 e3;have hcz : w'.cell? ⟨w.heap.size,0,none⟩ = some (.slice A0_0 l0_0.length c0_0):=(blk_cell BK.out 0).trans rfl;have e0 : w'.cell? ⟨gb,0,none⟩ = some (.int .i64 y0):=(blk_cell BY.out 0).trans rfl;have e1 : w'.cell? ⟨gb,1,none⟩ = some (.bool true):=(blk_cell BY.out 1).trans rfl;have e2 : w'.cell? ⟨gb,2,none⟩ = some (.int .i64 y2):=(blk_cell BY.out 2).trans rfl;have e3 : w'.cell? ⟨gb,3,none⟩ = some (.int .i64 y3):=(blk_cell BY.out 3).trans rfl))
         go_meet
         case rel=>exact ⟨by rw [BV.out];first | rfl | (simp;done),HB,BK,BY⟩
      | false =>
       cases b4 with
       | false =>
        have BV:=a0_ (show q1 = false from hdf1.trans (by simp))
        clear hdf1
        go_wp2_with (first
     | (go_at_call 41;(first | (with_reducible refine (spec_inRange.calls y3 0 99 _ _ A1.out).mono ?_) | (with_reducible refine (spec_inRange.calls y0 0 5 _ _ A2.out).mono ?_));rintro e w' ⟨rfl,hd'⟩;have hb':=hd'.below;clear hd';replace HB:=a0_ (below_step HB.out hb');replace BK:=a0_ (blk_keptB BK.out hb');replace BY:=a0_ (blk_keptB BY.out hb');clear hb' hcz e0 e1 e2 e3;have hcz : w'.cell? ⟨w.heap.size,0,none⟩ = some (.slice A0_0 l0_0.length c0_0):=(blk_cell BK.out 0).trans rfl;have e0 : w'.cell? ⟨gb,0,none⟩ = some (.int .i64 y0):=(blk_cell BY.out 0).trans rfl;have e1 : w'.cell? ⟨gb,1,none⟩ = some (.bool false):=(blk_cell BY.out 1).trans rfl;have e2 : w'.cell? ⟨gb,2,none⟩ = some (.int .i64 y2):=(blk_cell BY.out 2).trans rfl;have e3 : w'.cell? ⟨gb,3,none⟩ = some (.int .i64 y3):=(blk_cell BY.out 3).trans rfl)
     | (go_at_call 42;refine (H3.out _ HB.out).mono ?_;rintro e w' ⟨rfl,hb'⟩;replace HB:=a0_ (below_step HB.out hb');replace BK:=a0_ (blk_keptB BK.out hb');replace BY:=a0_ (blk_keptB BY.out hb');clear hb' hcz e0 e1 e2 e3;have hcz : w'.cell? ⟨w.heap.size,0,none⟩ = some (.slice A0_0 l0_0.length c0_0):=(blk_cell BK.out 0).trans rfl;have e0 : w'.cell? ⟨gb,0,none⟩ = some (.int .i64 y0):=(blk_cell BY.out 0).trans rfl;have e1 : w'.cell? ⟨gb,1,none⟩ = some (.bool false):=(blk_cell BY.out 1).trans rfl;have e2 : w'.cell? ⟨gb,2,none⟩ = some (.int .i64 y2):=(blk_cell BY.out 2).trans rfl;have e3 : w'.cell? ⟨gb,3,none⟩ = some (.int .i64 y3):=(blk_cell BY.out 3).trans rfl))
        go_meet
        case rel=>exact ⟨by rw [BV.out];first | rfl | (simp;done),HB,BK,BY⟩
       | true =>
        generalize (y2 == (0 : Int)) = z2 at hdf1
        cases hz : (y0 == (0 : Int)) <;> cases hk : ((kk : Int) == 0) <;> rw [hz,hk] at hdf1
        ·
         have BV:=a0_ (show q1 = true from hdf1.trans (by first | rfl | (cases b4 <;> rfl) | simp))
         clear hdf1
         go_wp2_with (first
     | (go_at_call 41;(first | (with_reducible refine (spec_inRange.calls y3 0 99 _ _ A1.out).mono ?_) | (with_reducible refine (spec_inRange.calls y0 0 5 _ _ A2.out).mono ?_));rintro e w' ⟨rfl,hd'⟩;have hb':=hd'.below;clear hd';replace HB:=a0_ (below_step HB.out hb');replace BK:=a0_ (blk_keptB BK.out hb');replace BY:=a0_ (blk_keptB BY.out hb');clear hb' hcz e0 e1 e2 e3;have hcz : w'.cell? ⟨w.heap.size,0,none⟩ = some (.slice A0_0 l0_0.length c0_0):=(blk_cell BK.out 0).trans rfl;have e0 : w'.cell? ⟨gb,0,none⟩ = some (.int .i64 y0):=(blk_cell BY.out 0).trans rfl;have e1 : w'.cell? ⟨gb,1,none⟩ = some (.bool false):=(blk_cell BY.out 1).trans rfl;have e2 : w'.cell? ⟨gb,2,none⟩ = some (.int .i64 y2):=(blk_cell BY.out 2).trans rfl;have e3 : w'.cell? ⟨gb,3,none⟩ = some (.int .i64 y3):=(blk_cell BY.out 3).trans rfl)
     | (go_at_call 42;refine (H3.out _ HB.out).mono ?_;rintro e w' ⟨rfl,hb'⟩;replace HB:=a0_ (below_step HB.out hb');replace BK:=a0_ (blk_keptB BK.out hb');replace BY:=a0_ (blk_keptB BY.out hb');clear hb' hcz e0 e1 e2 e3;have hcz : w'.cell? ⟨w.heap.size,0,none⟩ = some (.slice A0_0 l0_0.length c0_0):=(blk_cell BK.out 0).trans rfl;have e0 : w'.cell? ⟨gb,0,none⟩ = some (.int .i64 y0):=(blk_cell BY.out 0).trans rfl;have e1 : w'.cell? ⟨gb,1,none⟩ = some (.bool false):=(blk_cell BY.out 1).trans rfl;have e2 : w'.cell? ⟨gb,2,none⟩ = some (.int .i64 y2):=(blk_cell BY.out 2).trans rfl;have e3 : w'.cell? ⟨gb,3,none⟩ = some (.int .i64 y3):=(blk_cell BY.out 3).trans rfl))
         go_meet
         case rel=>exact ⟨by rw [BV.out];first | rfl | (simp;done),HB,BK,BY⟩
        ·
         have BV:=a0_ (show q1 = false from hdf1.trans (by first | rfl | (cases b4 <;> rfl) | simp))
         clear hdf1
         go_wp2_with (first
     | (go_at_call 41;(first | (with_reducible refine (spec_inRange.calls y3 0 99 _ _ A1.out).mono ?_) | (with_reducible refine (spec_inRange.calls y0 0 5 _ _ A2.out).mono ?_));rintro e w' ⟨rfl,hd'⟩;have hb':=hd'.below;clear hd';replace HB:=a0_ (below_step HB.out hb');replace BK:=a0_ (blk_keptB BK.out hb');replace BY:=a0_ (blk_keptB BY.out hb');clear hb' hcz e0 e1 e2 e3;have hcz : w'.cell? ⟨w.heap.size,0,none⟩ = some (.slice A0_0 l0_0.length c0_0):=(blk_cell BK.out 0).trans rfl;have e0 : w'.cell? ⟨gb,0,none⟩ = some (.int .i64 y0):=(blk_cell BY.out 0).trans rfl;have e1 : w'.cell? ⟨gb,1,none⟩ = some (.bool false):=(blk_cell BY.out 1).trans rfl;have e2 : w'.cell? ⟨gb,2,none⟩ = some (.int .i64 y2):=(blk_cell BY.out 2).trans rfl;have e3 : w'.cell? ⟨gb,3,none⟩ = some (.int .i64 y3):=(blk_cell BY.out 3).trans rfl)
     | (go_at_call 42;refine (H3.out _ HB.out).mono ?_;rintro e w' ⟨rfl,hb'⟩;replace HB:=a0_ (below_step HB.out hb');replace BK:=a0_ (blk_keptB BK.out hb');replace BY:=a0_ (blk_keptB BY.out hb');clear hb' hcz e0 e1 e2 e3;have hcz : w'.cell? ⟨w.heap.size,0,none⟩ = some (.slice A0_0 l0_0.length c0_0):=(blk_cell BK.out 0).trans rfl;have e0 : w'.cell? ⟨gb,0,none⟩ = some (.int .i64 y0):=(blk_cell BY.out 0).trans rfl;have e1 : w'.cell? ⟨gb,1,none⟩ = some (.bool false):=(blk_cell BY.out 1).trans rfl;have e2 : w'.cell? ⟨gb,2,none⟩ = some (.int .i64 y2):=(blk_cell BY.out 2).trans rfl;have e3 : w'.cell? ⟨gb,3,none⟩ = some (.int .i64 y3):=(blk_cell BY.out 3).trans rfl))
         go_meet
         case rel=>exact ⟨by rw [BV.out];first | rfl | (simp;done),HB,BK,BY⟩
        ·
         have BV:=a0_ (show q1 = false from hdf1.trans (by first | rfl | (cases b4 <;> rfl) | simp))
         clear hdf1
         go_wp2_with (first
     | (go_at_call 41;(first | (with_reducible refine (spec_inRange.calls y3 0 99 _ _ A1.out).mono ?_) | (with_reducible refine (spec_inRange.calls y0 0 5 _ _ A2.out).mono ?_));rintro e w' ⟨rfl,hd'⟩;have hb':=hd'.below;clear hd';replace HB:=a0_ (below_step HB.out hb');replace BK:=a0_ (blk_keptB BK.out hb');replace BY:=a0_ (blk_keptB BY.out hb');clear hb' hcz e0 e1 e2 e3;have hcz : w'.cell? ⟨w.heap.size,0,none⟩ = some (.slice A0_0 l0_0.length c0_0):=(blk_cell BK.out 0).trans rfl;have e0 : w'.cell? ⟨gb,0,none⟩ = some (.int .i64 y0):=(blk_cell BY.out 0).trans rfl;have e1 : w'.cell? ⟨gb,1,none⟩ = some (.bool false):=(blk_cell BY.out 1).trans rfl;have e2 : w'.cell? ⟨gb,2,none⟩ = some (.int .i64 y2):=(blk_cell BY.out 2).trans rfl;have e3 : w'.cell? ⟨gb,3,none⟩ = some (.int .i64 y3):=(blk_cell BY.out 3).trans rfl)
     | (go_at_call 42;refine (H3.out _ HB.out).mono ?_;rintro e w' ⟨rfl,hb'⟩;replace HB:=a0_ (below_step HB.out hb');replace BK:=a0_ (blk_keptB BK.out hb');replace BY:=a0_ (blk_keptB BY.out hb');clear hb' hcz e0 e1 e2 e3;have hcz : w'.cell? ⟨w.heap.size,0,none⟩ = some (.slice A0_0 l0_0.length c0_0):=(blk_cell BK.out 0).trans rfl;have e0 : w'.cell? ⟨gb,0,none⟩ = some (.int .i64 y0):=(blk_cell BY.out 0).trans rfl;have e1 : w'.cell? ⟨gb,1,none⟩ = some (.bool false):=(blk_cell BY.out 1).trans rfl;have e2 : w'.cell? ⟨gb,2,none⟩ = some (.int .i64 y2):=(blk_cell BY.out 2).trans rfl;have e3 : w'.cell? ⟨gb,3,none⟩ = some (.int .i64 y3):=(blk_cell BY.out 3).trans rfl))
         go_meet
         case rel=>exact ⟨by rw [BV.out];first | rfl | (simp;done),HB,BK,BY⟩
        ·
         have BV:=a0_ (show q1 = true from hdf1.trans (by first | rfl | (cases b4 <;> rfl) | simp))
         clear hdf1
         go_wp2_with (first
     | (go_at_call 41;(first | (with_reducible refine (spec_inRange.calls y3 0 99 _ _ A1.out).mono ?_) | (with_reducible refine (spec_inRange.calls y0 0 5 _ _ A2.out).mono ?_));rintro e w' ⟨rfl,hd'⟩;have hb':=hd'.below;clear hd';replace HB:=a0_ (below_step HB.out hb');replace BK:=a0_ (blk_keptB BK.out hb');replace BY:=a0_ (blk_keptB BY.out hb');clear hb' hcz e0 e1 e2 e3;have hcz : w'.cell? ⟨w.heap.size,0,none⟩ = some (.slice A0_0 l0_0.length c0_0):=(blk_cell BK.out 0).trans rfl;have e0 : w'.cell? ⟨gb,0,none⟩ = some (.int .i64 y0):=(blk_cell BY.out 0).trans rfl;have e1 : w'.cell? ⟨gb,1,none⟩ = some (.bool false):=(blk_cell BY.out 1).trans rfl;have e2 : w'.cell? ⟨gb,2,none⟩ = some (.int .i64 y2):=(blk_cell BY.out 2).trans rfl;have e3 : w'.cell? ⟨gb,3,none⟩ = some (.int .i64 y3):=(blk_cell BY.out 3).trans rfl)
     | (go_at_call 42;refine (H3.out _ HB.out).mono ?_;rintro e w' ⟨rfl,hb'⟩;replace HB:=a0_ (below_step HB.out hb');replace BK:=a0_ (blk_keptB BK.out hb');replace BY:=a0_ (blk_keptB BY.out hb');clear hb' hcz e0 e1 e2 e3;have hcz : w'.cell? ⟨w.heap.size,0,none⟩ = some (.slice A0_0 l0_0.length c0_0):=(blk_cell BK.out 0).trans rfl;have e0 : w'.cell? ⟨gb,0,none⟩ = some (.int .i64 y0):=(blk_cell BY.out 0).trans rfl;have e1 : w'.cell? ⟨gb,1,none⟩ = some (.bool false):=(blk_cell BY.out 1).trans rfl;have e2 : w'.cell? ⟨gb,2,none⟩ = some (.int .i64 y2):=(blk_cell BY.out 2).trans rfl;have e3 : w'.cell? ⟨gb,3,none⟩ = some (.int .i64 y3):=(blk_cell BY.out 3).trans rfl))
         go_meet
         case rel=>exact ⟨by rw [BV.out];first | rfl | (simp;done),HB,BK,BY⟩
   case rest =>
    clear hW1 hW2 hW3 hdf1
    obtain ⟨rfl,HB,BK,BY⟩:=hcut
    cases q1 with
    | false =>
     go_wp2
     go_ret
     refine ⟨?_,HB.out⟩
     rw [← HRr.out,vG_false hlt (by rw [B.out,HDF.out];rfl)]
     rfl
    | true =>
     go_upto_region 7 with (fail)
     have hdf2:=HDF.out
     rw [Bool.true_and] at hdf2
     clear HDF
     generalize hq2 : okP l0_0 l1 kk ⟨y0,y1,y2,y3⟩ = q2 at hdf2
     have HQ:=a0_ hq2
     clear hq2
     go_cut [101] (fun v101 wd=>v101 = .bool (!q2) ∧ Aside0 (Below w.heap.size w wd) ∧ Aside0 (wd.heap[w.heap.size]? = some (.cells #[.slice A0_0 l0_0.length c0_0] 25 (0,0))))
     case first =>
      have e0:=(blk_cell BY.out 0).trans rfl
      have e1:=(blk_cell BY.out 1).trans rfl
      have hw2 : IntKind.i64.wrap ((kk : Int) + 1) = (kk : Int) + 1:=by rw [IntKind.wrap_i64];omega
      generalize endG l1 kk = en at HEN hdf2
      by_cases hk0 : kk = 0
      ·
       have d0 : decide (0 < (kk : Int)) = false:=decide_eq_false (by omega)
       have d0n : decide (0 < kk) = false:=decide_eq_false (by omega)
       rw [if_pos hk0,Bool.true_and] at hdf2
       clear hk0 HA HRr HV HH
       cases y1 with
       | false =>
        have BV:=a0_ (show q2 = true from hdf2.trans (by first | rfl | simp))
        clear hdf2
        go_quiet (first | (go_at_call 43;(with_reducible refine (HEN.out _ (pw_below_drewN HB.out _)).mono ?_);rintro e w' ⟨rfl,⟨nd,rfl⟩⟩;exact ⟨rfl,_,World.drewN_drewN _ _ _⟩))
        go_wp2
        go_meet
        case rel=>exact ⟨by rw [BV.out];first | rfl | (simp [*];done),⟨pw_below_drewN HB.out _⟩,⟨blk_drewN BK.out _⟩⟩
       | true =>
        cases h7 : ((en : Int) == (kk : Int) + 1) <;> rw [h7] at hdf2
        ·
         have BV:=a0_ (show q2 = true from hdf2.trans (by first | rfl | simp))
         clear hdf2
         go_quiet (first | (go_at_call 43;(with_reducible refine (HEN.out _ (pw_below_drewN HB.out _)).mono ?_);rintro e w' ⟨rfl,⟨nd,rfl⟩⟩;exact ⟨rfl,_,World.drewN_drewN _ _ _⟩))
         go_wp2
         go_meet
         case rel=>exact ⟨by rw [BV.out];first | rfl | (simp [*];done),⟨pw_below_drewN HB.out _⟩,⟨blk_drewN BK.out _⟩⟩
        ·
         have BV:=a0_ (show q2 = false from hdf2.trans (by first | rfl | simp))
         clear hdf2
         go_quiet (first | (go_at_call 43;(with_reducible refine (HEN.out _ (pw_below_drewN HB.out _)).mono ?_);rintro e w' ⟨rfl,⟨nd,rfl⟩⟩;exact ⟨rfl,_,World.drewN_drewN _ _ _⟩))
         go_wp2
         go_meet
         case rel=>exact ⟨by rw [BV.out];first | rfl | (simp [*];done),⟨pw_below_drewN HB.out _⟩,⟨blk_drewN BK.out _⟩⟩
      ·
       have d0 : decide (0 < (kk : Int)) = true:=decide_eq_true (by omega)
       have d0n : decide (0 < kk) = true:=decide_eq_true (by omega)
       rw [if_neg hk0] at hdf2
       obtain ⟨m,hm⟩ : ∃ m,m = kk - 1:=⟨_,rfl⟩
       rw [← hm] at hdf2
       obtain ⟨ad',ea',hp0,hp1,hp2,hp3⟩:=at_T35 HR.out (m : Int) (by omega) (by omega)
       cases ea'
       have hrd : rd_T35 l1 (m : Int) = l1.getD m z35:=by simp [rd_T35]
       have hdep:=okP_depth (HA.out m (by omega))
       rw [hrd] at hp0 hp1
       rw [Int.toNat_natCast] at hp0 hp1
       generalize l1.getD m z35 = q at hp0 hp1 hdep hdf2
       obtain ⟨q0,q1,q2',q3⟩:=q
       replace hp0:=(HB.out.cell (World.block_lt_of_cell? w _ hp0)).trans hp0
       replace hp1:=(HB.out.cell (World.block_lt_of_cell? w _ hp1)).trans hp1
       have hw1 : IntKind.i64.wrap ((kk : Int) - 1) = (m : Int):=by rw [IntKind.wrap_i64];omega
       have hw3 : IntKind.i64.wrap (q0 + 1) = q0 + 1:=by have:=hdep.1;have:=hdep.2;simp only at *;rw [IntKind.wrap_i64];omega
       have g0 : (0 : Int) ≤ (m : Int):=by omega
       have g1 : (m : Int) < (l1.length : Int):=by omega
       clear hp2 hp3 hrd hdep hk0 hm HA HRr HV HH
       cases hu1 : decide (q0 + 1 < y0)
       ·
        cases hu2 : decide (q0 < y0)
        ·
         rw [show okUp ⟨q0,q1,q2',q3⟩ ⟨y0,y1,y2,y3⟩ = true from (by unfold okUp;simp only [hu1,hu2];rfl),Bool.true_and] at hdf2
         cases y1 with
         | false =>
          have BV:=a0_ (show q2 = true from hdf2.trans (by first | rfl | simp))
          clear hdf2
          go_quiet (first | (go_at_call 43;(with_reducible refine (HEN.out _ (pw_below_drewN HB.out _)).mono ?_);rintro e w' ⟨rfl,⟨nd,rfl⟩⟩;exact ⟨rfl,_,World.drewN_drewN _ _ _⟩))
          go_wp2
          go_meet
          case rel=>exact ⟨by rw [BV.out];first | rfl | (simp [*];done),⟨pw_below_drewN HB.out _⟩,⟨blk_drewN BK.out _⟩⟩
         | true =>
          cases h7 : ((en : Int) == (kk : Int) + 1) <;> rw [h7] at hdf2
          ·
           have BV:=a0_ (show q2 = true from hdf2.trans (by first | rfl | simp))
           clear hdf2
           go_quiet (first | (go_at_call 43;(with_reducible refine (HEN.out _ (pw_below_drewN HB.out _)).mono ?_);rintro e w' ⟨rfl,⟨nd,rfl⟩⟩;exact ⟨rfl,_,World.drewN_drewN _ _ _⟩))
           go_wp2
           go_meet
           case rel=>exact ⟨by rw [BV.out];first | rfl | (simp [*];done),⟨pw_below_drewN HB.out _⟩,⟨blk_drewN BK.out _⟩⟩
          ·
           have BV:=a0_ (show q2 = false from hdf2.trans (by first | rfl | simp))
           clear hdf2
           go_quiet (first | (go_at_call 43;(with_reducible refine (HEN.out _ (pw_below_drewN HB.out _)).mono ?_);rintro e w' ⟨rfl,⟨nd,rfl⟩⟩;exact ⟨rfl,_,World.drewN_drewN _ _ _⟩))
           go_wp2
           go_meet
           case rel=>exact ⟨by rw [BV.out];first | rfl | (simp [*];done),⟨pw_below_drewN HB.out _⟩,⟨blk_drewN BK.out _⟩⟩
        ·
         cases q1 with
         | false =>
          rw [show okUp ⟨q0,false,q2',q3⟩ ⟨y0,y1,y2,y3⟩ = false from (by unfold okUp;simp only [hu1,hu2];rfl),Bool.false_and] at hdf2
          have BV:=a0_ (show q2 = false from hdf2.trans (by first | rfl | simp))
          clear hdf2
          go_quiet (first | (go_at_call 43;(with_reducible refine (HEN.out _ (pw_below_drewN HB.out _)).mono ?_);rintro e w' ⟨rfl,⟨nd,rfl⟩⟩;exact ⟨rfl,_,World.drewN_drewN _ _ _⟩))
          go_wp2
          go_meet
          case rel=>exact ⟨by rw [BV.out];first | rfl | (simp [*];done),⟨pw_below_drewN HB.out _⟩,⟨blk_drewN BK.out _⟩⟩
         | true =>
          rw [show okUp ⟨q0,true,q2',q3⟩ ⟨y0,y1,y2,y3⟩ = true from (by unfold okUp;simp only [hu1,hu2];rfl),Bool.true_and] at hdf2
          cases y1 with
          | false =>
           have BV:=a0_ (show q2 = true from hdf2.trans (by first | rfl | simp))
           clear hdf2
           go_quiet (first | (go_at_call 43;(with_reducible refine (HEN.out _ (pw_below_drewN HB.out _)).mono ?_);rintro e w' ⟨rfl,⟨nd,rfl⟩⟩;exact ⟨rfl,_,World.drewN_drewN _ _ _⟩))
           go_wp2
           go_meet
           case rel=>exact ⟨by rw [BV.out];first | rfl | (simp [*];done),⟨pw_below_drewN HB.out _⟩,⟨blk_drewN BK.out _⟩⟩
          | true =>
           cases h7 : ((en : Int) == (kk : Int) + 1) <;> rw [h7] at hdf2
           ·
            have BV:=a0_ (show q2 = true from hdf2.trans (by first | rfl | simp))
            clear hdf2
            go_quiet (first | (go_at_call 43;(with_reducible refine (HEN.out _ (pw_below_drewN HB.out _)).mono ?_);rintro e w' ⟨rfl,⟨nd,rfl⟩⟩;exact ⟨rfl,_,World.drewN_drewN _ _ _⟩))
            go_wp2
            go_meet
            case rel=>exact ⟨by rw [BV.out];first | rfl | (simp [*];done),⟨pw_below_drewN HB.out _⟩,⟨blk_drewN BK.out _⟩⟩
           ·
            have BV:=a0_ (show q2 = false from hdf2.trans (by first | rfl | simp))
            clear hdf2
            go_quiet (first | (go_at_call 43;(with_reducible refine (HEN.out _ (pw_below_drewN HB.out _)).mono ?_);rintro e w' ⟨rfl,⟨nd,rfl⟩⟩;exact ⟨rfl,_,World.drewN_drewN _ _ _⟩))
            go_wp2
            go_meet
            case rel=>exact ⟨by rw [BV.out];first | rfl | (simp [*];done),⟨pw_below_drewN HB.out _⟩,⟨blk_drewN BK.out _⟩⟩
       ·
        rw [show okUp ⟨q0,q1,q2',q3⟩ ⟨y0,y1,y2,y3⟩ = false from (by unfold okUp;simp only [hu1];rfl),Bool.false_and] at hdf2
        have BV:=a0_ (show q2 = false from hdf2.trans (by first | rfl | simp))
        clear hdf2
        go_quiet (first | (go_at_call 43;(with_reducible refine (HEN.out _ (pw_below_drewN HB.out _)).mono ?_);rintro e w' ⟨rfl,⟨nd,rfl⟩⟩;exact ⟨rfl,_,World.drewN_drewN _ _ _⟩))
        go_wp2
        go_meet
        case rel=>exact ⟨by rw [BV.out];first | rfl | (simp [*];done),⟨pw_below_drewN HB.out _⟩,⟨blk_drewN BK.out _⟩⟩
     case rest =>
      clear HB BK hdf2
      obtain ⟨rfl,HB,BK⟩:=hcut
      cases q2 with
      | false =>
       go_wp2
       go_ret
       refine ⟨?_,HB.out⟩
       rw [← HRr.out,vG_false hlt (by rw [B.out,HQ.out])]
       rfl
      | true =>
       go_wp2
       go_roundg (l1.length - (kk + 1))
       case measure=>omega
       case rel =>
        refine ⟨kk + 1,by omega,by omega,by go_num,⟨HB.out⟩,⟨BK.out⟩,⟨fun j hj=>?_⟩⟩
        by_cases e : j = kk
        ·subst e;rw [B.out,HQ.out]
        ·exact HA.out j (by omega)
  ·have hltz : ¬ (kk : Int) < (l1.length : Int):=by omega
   have : kk = l1.length:=by omega
   subst this
   have hps:=psG_of HA.out
   have A3:=spec_inRange_ev (l1.length : Int) 1 16
   have hvg : vG l0_0 l1 = (vT l0_0 && (decide ((1 : Int) ≤ (l1.length : Int)) && decide ((l1.length : Int) ≤ 16))):=by unfold vG;rw [hps,Bool.true_and];congr 2 <;> exact decide_eq_decide.2 (by omega)
   rw [HRr.out] at hvg
   generalize (decide ((1 : Int) ≤ (l1.length : Int)) && decide ((l1.length : Int) ≤ 16)) = b16 at A3 hvg
   have A3:=a0_ A3
   have HVG:=a0_ hvg
   clear hvg hps HRr HA HH HR
   cases hv : vT l0_0 with
   | false =>
    rw [hv] at HV HVG
    clear hv
    go_wp2_with (first | (go_at_call 44;refine (HV.out _ BW.out).mono ?_;rintro e w1 ⟨rfl,hb1⟩;replace BW:=a0_ (below_step BW.out hb1)) | (go_at_call 41;(with_reducible refine (spec_inRange.calls (l1.length : Int) 1 16 _ _ A3.out).mono ?_);rintro e w' ⟨rfl,hd'⟩;replace BW:=a0_ (below_step BW.out hd'.below)))
    go_ret
    exact ⟨by rw [HVG.out];first | rfl | (simp;done),BW.out⟩
   | true =>
    rw [hv] at HV HVG
    clear hv
    go_wp2_with (first | (go_at_call 44;refine (HV.out _ BW.out).mono ?_;rintro e w1 ⟨rfl,hb1⟩;replace BW:=a0_ (below_step BW.out hb1)) | (go_at_call 41;(with_reducible refine (spec_inRange.calls (l1.length : Int) 1 16 _ _ A3.out).mono ?_);rintro e w' ⟨rfl,hd'⟩;replace BW:=a0_ (below_step BW.out hd'.below)))
    go_ret
    exact ⟨by rw [HVG.out];first | rfl | (simp;done),BW.out⟩
end Go.Proofs.Ytjdpaholpfpiiaa.P
namespace Go.Proofs.Ytjdpaholpfpiiaa.P
open Go.RowKit Go.Proofs.YtjdpaholpfpiiaaW.PrintWords Go.Proofs.YtjdpaholpfpiiaaW.PrintLast Go.Proofs.YtjdpaholpfpiiaaW.PrintMore
attribute [local go_sem] max2_int min2_int max_two min_two max_three min_three max_four min_four
set_option linter.unusedVariables false
set_option linter.unusedSimpArgs false
def spec_deeper.l0 : Nat → Int → List (S35) → Int → Option ((List (S35)))
 | 0,_,_,_=>none
 | k + 1,x1,x5,x6=>if x6 < (x5.length : Int) then (if 0 ≤ x6 then (spec_deeper.l0 k x1 (x5.set (x6 : Int).toNat (⟨wrap64 (((rd_T35 x5 x6).f0) + x1),(rd_T35 x5 x6).f1,(rd_T35 x5 x6).f2,(rd_T35 x5 x6).f3⟩ : S35)) (wrap64 (x6 + 1))) else (none)) else (some x5)
def spec_deeper.f (k : Nat) (l0 : List (S35)) (a1 : Int) : Option ((List (S35))):=(some (([] : List (S35)) : List (S35))).bind fun y1=>(if y1.length + l0.length < 4398046511104 then (spec_deeper.l0 k a1 (y1 ++ l0) 0) else (none))
theorem spec_deeper.mono_l : ∀ k,(∀ y0 y1 y2,LeO (spec_deeper.l0 k y0 y1 y2) (spec_deeper.l0 (k + 1) y0 y1 y2))
 | 0=>fun _ _ _ r h=>by simp [spec_deeper.l0] at h
 | k + 1=>by
  have ih0:=spec_deeper.mono_l k
  ·intro y0 y1 y2
   unfold spec_deeper.l0
   repeat' first
   | (with_reducible exact ih0 _ _ _)
   | (with_reducible exact LeO.refl _)
   | (with_reducible exact LeO.none _)
   | (with_reducible refine LeO.ite ?_ ?_)
   | (with_reducible refine LeO.bind ?_ (fun _=>?_))
   | exact ih0 _ _ _
   | exact LeO.none _
   | refine LeO.ite ?_ ?_
   | refine LeO.bind ?_ (fun _=>?_)
theorem spec_deeper.mono : ∀ a0 a1 k,LeO (spec_deeper.f k a0 a1) (spec_deeper.f (k + 1) a0 a1):=by
 intro a0 a1 k
 have ih0:=spec_deeper.mono_l k
 unfold spec_deeper.f
 repeat' first
   | (with_reducible exact ih0 _ _ _)
   | (with_reducible exact LeO.refl _)
   | (with_reducible exact LeO.none _)
   | (with_reducible refine LeO.ite ?_ ?_)
   | (with_reducible refine LeO.bind ?_ (fun _=>?_))
   | exact ih0 _ _ _
   | exact LeO.none _
   | refine LeO.ite ?_ ?_
   | refine LeO.bind ?_ (fun _=>?_)
set_option maxHeartbeats 8000000 in
set_option maxRecDepth 100000 in
theorem spec_deeper.calls (k : Nat) (A0 : Option Addr) (c0 : Nat) (l0 : List (S35)) (a1 : Int) (r : List (S35)) (w : World) (hr0 : Kd.C k35 w A0 l0.length l0) (hc0 : l0.length ≤ c0) (h : spec_deeper.f k l0 a1 = some r) :
  Calls Try.prog 29 #[.slice A0 l0.length c0,.int .i64 a1] w fun e w'=>∃ v0_ : Value,e = .returned (v0_) ∧ Kd.R k35 35 w' w.heap.size (fun _=>True) v0_ r ∧ Below w.heap.size w w':=by
 have HR0:=a0_ hr0
 have HC0:=a0_ hc0
 clear hr0 hc0
 have HB:=a0_ (Below.refl w.heap.size w)
 have H : ((some (([] : List (S35)) : List (S35))).bind fun y1=>(if y1.length + l0.length < 4398046511104 then (spec_deeper.l0 k a1 (y1 ++ l0) 0) else (none))) = some r:=h
 clear h
 obtain ⟨y1,hy1⟩ : ∃ y_ : List (S35),y_ = (([] : List (S35))):=⟨_,rfl⟩
 replace H : (if y1.length + l0.length < 4398046511104 then (spec_deeper.l0 k a1 (y1 ++ l0) 0) else (none)) = some r:=by first | (rw [hy1];with_reducible exact H) | (have H2_:=(Option.bind_some _ _).symm.trans H;rw [hy1];with_reducible exact H2_) | (have H2_:=(Option.bind_some _ _).symm.trans H;with_reducible exact H2_) | with_reducible exact H | (rw [hy1];exact H) | exact H
 have Ny1:=a0_ hy1
 clear hy1
 by_cases c3 : y1.length + l0.length < 4398046511104
 ·rw [if_pos c3] at H
  have LMc3:=a0_ c3
  clear c3
  obtain ⟨y4,hy4⟩ : ∃ y_ : List (S35),y_ = (y1 ++ l0):=⟨_,rfl⟩
  replace H : (spec_deeper.l0 k a1 y4 0) = some r:=by first | (rw [hy4];with_reducible exact H) | (have H2_:=(Option.bind_some _ _).symm.trans H;rw [hy4];with_reducible exact H2_) | (have H2_:=(Option.bind_some _ _).symm.trans H;with_reducible exact H2_) | with_reducible exact H | (rw [hy4];exact H) | exact H
  have Ny4:=a0_ hy4
  clear hy4
  have H':=a0_ H
  clear H
  go_enter Try.func29,Try.ntmps29
  go_wp2_with (first | ((with_reducible refine gate_dst (N:=7) rfl ?_);refine Kd.R_lit k35 _ 35 ?hg (N:=7) ?hd (xs:=([] : List (S35))) (inner:=[]) (ok:=fun _=>True) (okp:=fun _=>True) ?hr ?hp (fun _ hk=>hk) trivial (Below.refl _ _) (Nat.le_refl _) (by simp) ?_;(case hd=>rfl);(case hg=>rfl);(case hr=>first | (go_simp;done) | (go_simp;rfl));(case hp=>exact (Reps.none _ _));intro v2 w4 ho5 hb hg_ hnew_;clear hg_ hnew_;(first | rw [← Ny1.out] at ho5 | (simp only [Int.reduceToNat] at ho5;rw [← Ny1.out] at ho5));have HO3:=a0_ (Kd.R_lower ho5 (below_size hb_));replace HB:=a0_ (below_step hb_ hb);clear hb ho5) | ((with_reducible refine gate_builtin (b:=.append) (xs:=#[.tmp 7,.tmp 8]) rfl ?_);at_builtin;refine Kd.R_append_rows k35 (w0:=w) w.heap.size rfl (.tmp 7) (.tmp 8) 26 35 (.agg #[(.int .i64 0),(.bool false),(.int .i64 0),(.int .i64 0)]) 32 rfl Try.underlying26 info35 rfl (by decide) (by omega) v2 y1 l0 _ _ _ (fun _=>True) (fun _=>False) rfl rfl ?aO ?aR (fun _ _ h=>h) (fun _ h=>h.elim) ?aF ?aB ?aS ?aL ?_;(case aR=>exact cc_ (Kd.C_below HR0.out HB.out));(case aB=>exact hb_);(case aF=>exact (fun _ _=>trivial));(case aO=>exact (rr_ HO3.out));(case aS=>exact (below_size hb_));(case aL=>have:=LMc3.out;omega);intro v5 w6 ho hb hg hat;rw [← Ny4.out] at ho;have HO6:=a0_ (ho);replace HB:=a0_ (hb);clear HO3;clear ho hb hg hat))
  go_loopg [6] k (fun kq v6 w'=>∃ (x5_1 : List (S35)) (x6_1 : Int),v6 = .int .i64 x6_1 ∧ Aside0 (spec_deeper.l0 kq a1 x5_1 x6_1 = some r) ∧ Aside0 (kq ≤ k) ∧ Aside0 (Kd.R k35 35 w' w.heap.size (fun _=>True) v5 x5_1) ∧ Aside0 (Below w.heap.size w w'))
  case atStart=>exact ⟨(y4),(0),(by first | rfl | (simp;done) | (simp [*];done)),H',⟨Nat.le_refl _⟩,⟨by (with_reducible repeat (first | apply Kd.R_alloc | apply Kd.R_drewN | apply Kd.R_drew));exact HO6.out⟩,⟨hb_⟩⟩
  case round =>
   clear H'
   try clear c2
   try clear p2
   try clear c3
   obtain ⟨x5_1,x6_1,rfl,HA,HK1,HO_5,HB⟩:=hrel
   cases gk with
   | zero=>exact absurd HA.out (by simp [spec_deeper.l0])
   | succ k1 =>
    have H:=HA.out
    clear HA
    simp only [spec_deeper.l0] at H
    by_cases c7 : x6_1 < (x5_1.length : Int)
    ·rw [if_pos c7] at H
     have c7b0 : decide (x6_1 < (x5_1.length : Int)) = true:=decide_eq_true c7
     clear c7
     by_cases c8 : 0 ≤ x6_1
     ·rw [if_pos c8] at H
      have c8b0 : decide (0 ≤ x6_1) = true:=decide_eq_true c8
      clear c8
      obtain ⟨y8,hy8⟩ : ∃ y_ : List (S35),y_ = (x5_1.set (x6_1 : Int).toNat (⟨wrap64 (((rd_T35 x5_1 x6_1).f0) + a1),(rd_T35 x5_1 x6_1).f1,(rd_T35 x5_1 x6_1).f2,(rd_T35 x5_1 x6_1).f3⟩ : S35)):=⟨_,rfl⟩
      replace H : (spec_deeper.l0 k1 a1 y8 (wrap64 (x6_1 + 1))) = some r:=by first | (rw [hy8];with_reducible exact H) | (have H2_:=(Option.bind_some _ _).symm.trans H;rw [hy8];with_reducible exact H2_) | (have H2_:=(Option.bind_some _ _).symm.trans H;with_reducible exact H2_) | with_reducible exact H | (rw [hy8];exact H) | exact H
      have Ny8:=a0_ hy8
      clear hy8
      have H':=a0_ H
      clear H
      obtain ⟨Ao10,co10,eo10⟩:=Kd.R_slice HO_5.out
      subst eo10
      have p7 : 0 ≤ (x6_1 : Int):=of_decide_eq_true (by first | (with_reducible assumption) | assumption)
      have q7 : x6_1 < (x5_1.length : Int):=of_decide_eq_true (by first | (with_reducible assumption) | assumption)
      obtain ⟨ad7,e7,hx7_0,hx7_1,hx7_2,hx7_3⟩:=at_T35 (Kd.R_reads' HO_5.out).2.2 x6_1 p7 q7
      cases e7
      replace p7:=eq_true p7
      replace q7:=eq_true q7
      have p9 : 0 ≤ (x6_1 : Int):=of_decide_eq_true (by first | (with_reducible assumption) | assumption)
      have q9 : (x6_1 : Int) < ((x5_1.length : Int) : Int):=of_decide_eq_true (by first | (with_reducible assumption) | assumption)
      obtain ⟨go9,co9,eo9,gb9,gl9,cl9,HG9⟩:=Kd.R_form HO_5.out (by omega)
      (first | cases eo9 | (injection eo9 with ea_ en_ ec_;(first | subst ea_ | (injection ea_ with ea_;subst ea_));subst ec_;clear en_))
      have GB9:=a0_ gb9
      have GG9:=a0_ HG9
      clear gb9 gl9 HG9
      (first | simp only [add_plain] at hx7_0 | skip)
      (first | simp only [add_plain] at hx7_1 | skip)
      (first | simp only [add_plain] at hx7_2 | skip)
      (first | simp only [add_plain] at hx7_3 | skip)
      obtain ⟨ce9,hcl9,hM9,hcc9,hfr9⟩:=Kd.R_elem HO_5.out z35 (x6_1 : Int) p9 q9
      obtain rfl:=k35_openM hM9
      have hx9_0 : wr.cell? ⟨go9,(x6_1 : Int).toNat * 4,none⟩ = some (.int .i64 ((rd_T35 x5_1 x6_1).f0)):=hcc9 0 _ rfl
      have hx9_1 : wr.cell? ⟨go9,(x6_1 : Int).toNat * 4 + 1,none⟩ = some (.bool ((rd_T35 x5_1 x6_1).f1)):=hcc9 1 _ rfl
      have hx9_2 : wr.cell? ⟨go9,(x6_1 : Int).toNat * 4 + 2,none⟩ = some (.int .i64 ((rd_T35 x5_1 x6_1).f2)):=hcc9 2 _ rfl
      have hx9_3 : wr.cell? ⟨go9,(x6_1 : Int).toNat * 4 + 3,none⟩ = some (.int .i64 ((rd_T35 x5_1 x6_1).f3)):=hcc9 3 _ rfl
      have hf9_0 : wr.frozen? ⟨go9,(x6_1 : Int).toNat * 4,none⟩ = false:=hfr9 0
      have hf9_1 : wr.frozen? ⟨go9,(x6_1 : Int).toNat * 4 + 1,none⟩ = false:=hfr9 1
      have hf9_2 : wr.frozen? ⟨go9,(x6_1 : Int).toNat * 4 + 2,none⟩ = false:=hfr9 2
      have hf9_3 : wr.frozen? ⟨go9,(x6_1 : Int).toNat * 4 + 3,none⟩ = false:=hfr9 3
      clear hcl9 hcc9 hfr9 hM9
      replace p9:=eq_true p9
      replace q9:=eq_true q9
      have HX11:=a0_ (show Kd.R k35 35 wr w.heap.size (fun _=>True) (.slice (some ⟨go9,0,none⟩) x5_1.length co10) x5_1 from (rr_ HO_5.out))
      obtain ⟨ce11,hcl11,hM11,hcc11,hfr11⟩:=Kd.R_elem HX11.out z35 (x6_1 : Int) (of_decide_eq_true (by first | (with_reducible assumption) | assumption)) (by have h_ : (x6_1 : Int) < ((x5_1.length : Int) : Int):=of_decide_eq_true (by first | (with_reducible assumption) | assumption);first | exact h_ | (have e_:=(Kd.R_reads' HO_5.out).1;omega) | simpa using h_)
      obtain rfl:=k35_openM hM11
      have HP11:=Kd.R_seg HX11.out (x6_1 : Int) (of_decide_eq_true (by first | (with_reducible assumption) | assumption)) (by have h_ : (x6_1 : Int) < ((x5_1.length : Int) : Int):=of_decide_eq_true (by first | (with_reducible assumption) | assumption);first | exact h_ | (have e_:=(Kd.R_reads' HO_5.out).1;omega) | simpa using h_) (seg:=[.int .i64 (wrap64 (((rd_T35 x5_1 x6_1).f0) + a1))]) (j:=0) hcl11 hcc11 (show 1 ≤ 4 from by decide) (x':=(⟨wrap64 (((rd_T35 x5_1 x6_1).f0) + a1),(rd_T35 x5_1 x6_1).f1,(rd_T35 x5_1 x6_1).f2,(rd_T35 x5_1 x6_1).f3⟩ : S35)) (k35_mkM _ _ _ (⟨wrap64 (((rd_T35 x5_1 x6_1).f0) + a1),(rd_T35 x5_1 x6_1).f1,(rd_T35 x5_1 x6_1).f2,(rd_T35 x5_1 x6_1).f3⟩ : S35) ) (fun _ hk=>hk)
      have hx11_0:=hcc11 0 _ rfl
      (try simp only [show (k35).sz = 4 from rfl,Nat.mul_one,Nat.add_zero] at hx11_0)
      have hf11_0:=hfr11 0
      (try simp only [show (k35).sz = 4 from rfl,Nat.mul_one,Nat.add_zero] at hf11_0)
      clear hcl11 hcc11 hfr11 hM11
      go_wp2_with (first | ((with_reducible refine gate_store (t:=3) (p:=26) rfl ?_);refine store_event (t:=3) (p:=26) (v:=?vo_w12) (w1:=(wr.setCell ⟨go9,(x6_1 : Int).toNat * 4,none⟩ (.int .i64 (wrap64 (((rd_T35 x5_1 x6_1).f0) + a1))))) ?hg ?ho ?hn ?hr ?_;(case ho=>rfl);(case hg=>rfl);(case hn=>rfl);(case hr=>first | (go_simp;done) | (go_simp;rfl));intro w12 hw;have hg : wr.grownBy w12 (some go9):=(by rw [hw];exact HP11.2);have hp_ : Kd.R k35 35 w12 w.heap.size (fun _=>True) (.slice (some ⟨go9,0,none⟩) x5_1.length co10) y8:=(by rw [hw,Ny8.out];exact HP11.1);clear HP11;replace HO_5:=a0_ (hp_);replace HB:=a0_ ((by rw [hw];exact below_set (HB.out) GB9.out : Below w.heap.size w w12));clear hg hw hp_))
      go_roundg k1
      case measure=>have:=HK1.out;omega
      case rel=>exact ⟨(y8),(wrap64 (x6_1 + 1)),(by first | rfl | (simp;done) | (simp [*];done)),H',⟨by have:=HK1.out;omega⟩,⟨by (with_reducible repeat (first | apply Kd.R_alloc | apply Kd.R_drewN | apply Kd.R_drew));exact HO_5.out⟩,⟨hb_⟩⟩
     ·rw [if_neg c8] at H
      exact absurd H (by simp)
    ·rw [if_neg c7] at H
     have c7b0 : decide (x6_1 < (x5_1.length : Int)) = false:=decide_eq_false c7
     clear c7
     obtain rfl:=Option.some.inj H
     obtain ⟨Ao13,co13,eo13⟩:=Kd.R_slice HO_5.out
     subst eo13
     go_wp2
     go_ret
     exact ⟨_,by first | rfl | (simp [errW_none,errW_some] <;> rfl) | (simp [*,errW_none,errW_some] <;> rfl),by (with_reducible repeat (first | apply Kd.R_alloc | apply Kd.R_drewN | apply Kd.R_drew));exact HO_5.out,hb_⟩
 ·rw [if_neg c3] at H
  exact absurd H (by simp)
theorem spec_deeper_ev (g : List Prt) (d : Int) (hl : g.length ≤ 1048576) (hd : -1000 ≤ d ∧ d ≤ 1000) (hg : ∀ p ∈ g,-1000000 ≤ p.f0 ∧ p.f0 ≤ 1000000) : Ev (fun k=>spec_deeper.f k g d) (dpr d g):=by
 have key : ∀ n j,j + n = g.length → Ev (fun k=>spec_deeper.l0 k d (dpr d (g.take j) ++ g.drop j) (j : Int)) (dpr d g):=by
  intro n
  induction n with
  | zero =>
   intro j hj
   refine Ev.succ ?_
   simp only [spec_deeper.l0]
   rw [List.take_of_length_le (by omega),List.drop_eq_nil_of_le (by omega),List.append_nil]
   exact Ev.neg (by rw [dpr_len];omega) (Ev.const rfl)
  | succ n ih =>
   intro j hj
   refine Ev.succ ?_
   have hlt : j < g.length:=by omega
   have hb:=hg g[j] (List.getElem_mem _)
   have h1 : (dpr d (g.take j)).length = j:=by rw [dpr_len,List.length_take];omega
   have hlen : (dpr d (g.take j) ++ g.drop j).length = g.length:=by rw [List.length_append,h1,List.length_drop];omega
   have hr : rd_T35 (dpr d (g.take j) ++ g.drop j) (j : Int) = g[j]:=by
    unfold rd_T35
    rw [Int.toNat_natCast,List.getD_eq_getElem?_getD,List.getElem?_append_right (by omega),h1,Nat.sub_self,List.getElem?_drop,Nat.add_zero,List.getElem?_eq_getElem hlt]
    rfl
   have hi:=ih (j + 1) (by omega)
   have e : dpr d (g.take (j + 1)) ++ g.drop (j + 1) = (dpr d (g.take j) ++ g.drop j).set ((j : Int)).toNat ⟨g[j].f0 + d,g[j].f1,g[j].f2,g[j].f3⟩:=by
    rw [Int.toNat_natCast,List.set_append_right _ _ (by omega),h1,Nat.sub_self,List.drop_eq_getElem_cons hlt,s2_,List.take_succ_eq_append_getElem hlt]
    unfold dpr
    rw [List.map_append,List.append_assoc]
    rfl
   rw [e] at hi
   simp only [spec_deeper.l0,hr]
   rw [wrap_succ (i:=(j : Int)) (n:=g.length) (by omega) (by omega) (by omega),wrap_in (i:=g[j].f0 + d) (by omega) (by omega)]
   exact Ev.pos (by omega) (Ev.pos (by omega) hi)
 have:=key g.length 0 (by omega)
 exact Ev.bind (Ev.const rfl) (Ev.pos (by simp;omega) this)
end Go.Proofs.Ytjdpaholpfpiiaa.P
