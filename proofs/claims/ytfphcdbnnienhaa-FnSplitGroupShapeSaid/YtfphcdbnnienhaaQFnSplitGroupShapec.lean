/- Texts under the proof of FnSplitGroupShape: helper words, the functions' contracts and the plain laws. No condition. -/
import Derived.Test.YtfphcdbnnienhaaQFnSplitGroupShapea
import Derived.Test.YtfphcdbnnienhaaQFnSplitGroupShapeb
namespace Go.Proofs.Ytfphcdbnnienhaa.P
open Go.RowKit Go.Proofs.YtfphcdbnnienhaaW.PrintWords Go.Proofs.YtfphcdbnnienhaaW.PrintLast Go.Proofs.YtfphcdbnnienhaaW.PrintMore
attribute [local go_sem] max2_int min2_int max_two min_two max_three min_three max_four min_four
set_option linter.unusedVariables false
set_option linter.unusedSimpArgs false
mutual
def spec_someGroup.j1 : Nat → List (S47) → List Int → Int → List (S85) → Option ((List (S85)) × (List (S47)) × Int)
 | 0,_,_,_,_=>none
 | k + 1,x5,x1000,x1001,x7000=>(spec_reader_pick.f k x1000 x1001 (x5.length : Int)).bind fun bt20=>((spec_reader_pick.f k x1000 bt20.2 24).bind fun bt22=>(if bt22.1 = 0 then ((spec_reader_one.f k x1000 bt22.2 (([(-1),6,0,1] : List Int))).bind fun bt27=>(if 0 ≤ bt20.1 then (if bt20.1 < (x5.length : Int) then (some (x7000,(x5.set (bt20.1 : Int).toNat (⟨bt27.1,(rd_T47 x5 bt20.1).f1,(rd_T47 x5 bt20.1).f2,(rd_T47 x5 bt20.1).f3⟩ : S47)),bt27.2)) else (none)) else (none))) else (if bt22.1 = 1 then ((spec_reader_one.f k x1000 bt22.2 (([(-1),8,1] : List Int))).bind fun bt33=>(if 0 ≤ bt20.1 then (if bt20.1 < (x5.length : Int) then (some (x7000,(x5.set (bt20.1 : Int).toNat (⟨(rd_T47 x5 bt20.1).f0,(rd_T47 x5 bt20.1).f1,bt33.1,(rd_T47 x5 bt20.1).f3⟩ : S47)),bt33.2)) else (none)) else (none))) else (if bt22.1 = 2 then ((spec_reader_one.f k x1000 bt22.2 (([(-1),100] : List Int))).bind fun bt39=>(if 0 ≤ bt20.1 then (if bt20.1 < (x5.length : Int) then (some (x7000,(x5.set (bt20.1 : Int).toNat (⟨(rd_T47 x5 bt20.1).f0,(rd_T47 x5 bt20.1).f1,(rd_T47 x5 bt20.1).f2,bt39.1⟩ : S47)),bt39.2)) else (none)) else (none))) else (if bt22.1 = 3 then (if 0 ≤ bt20.1 then (if bt20.1 < (x5.length : Int) then (some (x7000,(x5.set (bt20.1 : Int).toNat (⟨(rd_T47 x5 bt20.1).f0,!((rd_T47 x5 bt20.1).f1),(rd_T47 x5 bt20.1).f2,(rd_T47 x5 bt20.1).f3⟩ : S47)),bt22.2)) else (none)) else (none)) else (some (x7000,x5,bt22.2)))))))
def spec_someGroup.l0 : Nat → List (S47) → Int → List Int → Int → List (S85) → Option ((List (S85)) × (List (S47)) × Int)
 | 0,_,_,_,_,_=>none
 | k + 1,x5,x6,x1000,x1001,x7000=>if x6 < (x5.length : Int) then (if 0 ≤ x6 then (spec_someGroup.l0 k (x5.set (x6 : Int).toNat (⟨wrap64 (((rd_T47 x5 x6).f0) - 2),(rd_T47 x5 x6).f1,(rd_T47 x5 x6).f2,(rd_T47 x5 x6).f3⟩ : S47)) (wrap64 (x6 + 1)) x1000 x1001 x7000) else (none)) else (spec_someGroup.j1 k x5 x1000 x1001 x7000)
end
def spec_someGroup.f (k : Nat) (s0_0 : List Int) (s0_1 : Int) : Option ((List (S85)) × (List (S47)) × Int):=(spec_someTree.f k s0_0 s0_1).bind fun bt2=>(if (bt2.1.length : Int) = 0 then (some (bt2.1,(([(⟨0,false,0,0⟩ : S47)] : List (S47))),bt2.2)) else ((spec_goodGroup.f k s0_0 bt2.2 bt2.1 0).bind fun bt10=>(if (bt10.1.length : Int) > 16 then ((spec_goodGroup.f k s0_0 bt10.2 bt2.1 2).bind fun bt14=>(spec_someGroup.l0 k bt14.1 0 s0_0 bt14.2 bt2.1)) else (spec_someGroup.j1 k bt10.1 s0_0 bt10.2 bt2.1))))
theorem spec_someGroup.mono_l : ∀ k,(∀ y0 y1 y2 y3,LeO (spec_someGroup.j1 k y0 y1 y2 y3) (spec_someGroup.j1 (k + 1) y0 y1 y2 y3)) ∧ (∀ y0 y1 y2 y3 y4,LeO (spec_someGroup.l0 k y0 y1 y2 y3 y4) (spec_someGroup.l0 (k + 1) y0 y1 y2 y3 y4))
 | 0=>⟨fun _ _ _ _ r h=>by simp [spec_someGroup.j1] at h,fun _ _ _ _ _ r h=>by simp [spec_someGroup.l0] at h⟩
 | k + 1=>by
  obtain ⟨ih0,ih1⟩:=spec_someGroup.mono_l k
  refine ⟨?_,?_⟩
  ·intro y0 y1 y2 y3
   unfold spec_someGroup.j1
   repeat' first
   | (with_reducible exact ih0 _ _ _ _)
   | (with_reducible exact ih1 _ _ _ _ _)
   | (with_reducible exact spec_goodGroup.mono _ _ _ _ _)
   | (with_reducible exact spec_reader_one.mono _ _ _ _)
   | (with_reducible exact spec_reader_pick.mono _ _ _ _)
   | (with_reducible exact spec_someTree.mono _ _ _)
   | (with_reducible exact LeO.refl _)
   | (with_reducible exact LeO.none _)
   | (with_reducible refine LeO.ite ?_ ?_)
   | (with_reducible refine LeO.bind ?_ (fun _=>?_))
   | exact ih0 _ _ _ _
   | exact ih1 _ _ _ _ _
   | exact spec_goodGroup.mono _ _ _ _ _
   | exact spec_reader_one.mono _ _ _ _
   | exact spec_reader_pick.mono _ _ _ _
   | exact spec_someTree.mono _ _ _
   | exact LeO.none _
   | refine LeO.ite ?_ ?_
   | refine LeO.bind ?_ (fun _=>?_)
  ·intro y0 y1 y2 y3 y4
   unfold spec_someGroup.l0
   repeat' first
   | (with_reducible exact ih0 _ _ _ _)
   | (with_reducible exact ih1 _ _ _ _ _)
   | (with_reducible exact spec_goodGroup.mono _ _ _ _ _)
   | (with_reducible exact spec_reader_one.mono _ _ _ _)
   | (with_reducible exact spec_reader_pick.mono _ _ _ _)
   | (with_reducible exact spec_someTree.mono _ _ _)
   | (with_reducible exact LeO.refl _)
   | (with_reducible exact LeO.none _)
   | (with_reducible refine LeO.ite ?_ ?_)
   | (with_reducible refine LeO.bind ?_ (fun _=>?_))
   | exact ih0 _ _ _ _
   | exact ih1 _ _ _ _ _
   | exact spec_goodGroup.mono _ _ _ _ _
   | exact spec_reader_one.mono _ _ _ _
   | exact spec_reader_pick.mono _ _ _ _
   | exact spec_someTree.mono _ _ _
   | exact LeO.none _
   | refine LeO.ite ?_ ?_
   | refine LeO.bind ?_ (fun _=>?_)
theorem spec_someGroup.mono : ∀ a0 a1 k,LeO (spec_someGroup.f k a0 a1) (spec_someGroup.f (k + 1) a0 a1):=by
 intro a0 a1 k
 obtain ⟨ih0,ih1⟩:=spec_someGroup.mono_l k
 unfold spec_someGroup.f
 repeat' first
   | (with_reducible exact ih0 _ _ _ _)
   | (with_reducible exact ih1 _ _ _ _ _)
   | (with_reducible exact spec_goodGroup.mono _ _ _ _ _)
   | (with_reducible exact spec_reader_one.mono _ _ _ _)
   | (with_reducible exact spec_reader_pick.mono _ _ _ _)
   | (with_reducible exact spec_someTree.mono _ _ _)
   | (with_reducible exact LeO.refl _)
   | (with_reducible exact LeO.none _)
   | (with_reducible refine LeO.ite ?_ ?_)
   | (with_reducible refine LeO.bind ?_ (fun _=>?_))
   | exact ih0 _ _ _ _
   | exact ih1 _ _ _ _ _
   | exact spec_goodGroup.mono _ _ _ _ _
   | exact spec_reader_one.mono _ _ _ _
   | exact spec_reader_pick.mono _ _ _ _
   | exact spec_someTree.mono _ _ _
   | exact LeO.none _
   | refine LeO.ite ?_ ?_
   | refine LeO.bind ?_ (fun _=>?_)
set_option maxHeartbeats 8000000 in
set_option maxRecDepth 100000 in
theorem spec_someGroup.calls (k : Nat) (g : Nat) (s0_0 : List Int) (s0_1 : Int) (r1 : List (S85)) (r2 : List (S47)) (r3 : Int) (w0 w : World) (hI : IsS81 w0 w g s0_0 s0_1) (hB : Below w0.heap.size w0 w) (h : spec_someGroup.f k s0_0 s0_1 = some (r1,r2,r3)) :
  Calls Try.prog 36 #[.pointer (some ⟨g,0,none⟩)] w fun e w'=>∃ v0_ v1_ : Value,e = .returned (.tuple #[.agg #[v0_],v1_]) ∧ Kd.R k85 85 w' w.heap.size (fun _=>True) v0_ r1 ∧ Kd.R k47 47 w' w.heap.size (fun _=>True) v1_ r2 ∧ IsS81 w0 w' g s0_0 r3 ∧ Below w0.heap.size w0 w' ∧ KeepBut w w' g none:=by
 have hu25:=Try.underlying25
 have hu47:=Try.underlying47
 have HI0:=a0_ hI
 have HK:=a0_ (KeepBut.refl w g none)
 have HL:=a0_ hB.size
 clear hI
 have HW0:=a0_ hB.size
 have HB:=a0_ hB
 clear hB
 have H : ((spec_someTree.f k s0_0 s0_1).bind fun bt2=>(if (bt2.1.length : Int) = 0 then (some (bt2.1,(([(⟨0,false,0,0⟩ : S47)] : List (S47))),bt2.2)) else ((spec_goodGroup.f k s0_0 bt2.2 bt2.1 0).bind fun bt10=>(if (bt10.1.length : Int) > 16 then ((spec_goodGroup.f k s0_0 bt10.2 bt2.1 2).bind fun bt14=>(spec_someGroup.l0 k bt14.1 0 s0_0 bt14.2 bt2.1)) else (spec_someGroup.j1 k bt10.1 s0_0 bt10.2 bt2.1))))) = some (r1,r2,r3):=h
 clear h
 replace H:=Option.bind_eq_some_iff.mp H
 obtain ⟨⟨t2,t5⟩,A20,H⟩:=H
 try dsimp only at H
 have A2:=a0_ A20
 clear A20
 by_cases c3 : (t2.length : Int) = 0
 ·rw [if_pos c3] at H
  have c3b0 : ((t2.length : Int) == 0) = true:=beq_iff_eq.mpr c3
  have c3b1 : ((t2.length : Int) != 0) = false:=bne_eq_false_iff_eq.mpr c3
  clear c3
  obtain ⟨y7,hy7⟩ : ∃ y_ : List (S47),y_ = (([(⟨0,false,0,0⟩ : S47)] : List (S47))):=⟨_,rfl⟩
  replace H : (some (t2,y7,t5)) = some (r1,r2,r3):=by first | (rw [hy7];with_reducible exact H) | (have H2_:=(Option.bind_some _ _).symm.trans H;rw [hy7];with_reducible exact H2_) | (have H2_:=(Option.bind_some _ _).symm.trans H;with_reducible exact H2_) | with_reducible exact H | (rw [hy7];exact H) | exact H
  have Ny7:=a0_ hy7
  clear hy7
  simp only [Option.some.injEq,Prod.mk.injEq] at H
  obtain ⟨rfl,rfl,rfl⟩:=H
  go_enter Try.func36,Try.ntmps36
  go_wp2_with (first | ((with_reducible refine gate_dst (N:=2) rfl ?_);refine box_event ?hg (N:=2) ?hd (cs:=#[.slice none 0 0]) (t:=25) ?hr ?_;(case hd=>rfl);(case hg=>rfl);(case hr=>first | (go_simp;done) | (go_simp;rfl));intro gb1 hg w4 hbox hb;have n0_:=a0_ (IsS81.below is0_ hb);have n1_:=a0_ (KeepBut.trans (w:=w) hk_ (KeepBut.of_below hb g none) (.inl rfl));have n2_:=a0_ (below_step hbi0_ hb);have n3_:=a0_ (hbox);have n4_:=a0_ ((by rw [hg];exact (keep_size (w:=w) (g:=g) (row:=none) hk_) : w.heap.size ≤ gb1));have n5_:=a0_ ((Nat.le_trans HW0.out (by rw [hg];exact (keep_size (w:=w) (g:=g) (row:=none) hk_) : w.heap.size ≤ gb1) : w0.heap.size ≤ gb1));have n6_:=a0_ ((by rw [hg];exact Nat.ne_of_lt (IsS81.lt (is0_ : IsS81 w0 _ g s0_0 s0_1)) : g ≠ gb1));have n7_:=a0_ ((by rw [hg];exact Nat.ne_of_gt (IsS81.lt (is0_ : IsS81 w0 _ g s0_0 s0_1)) : gb1 ≠ g));clear HI0 HK HB;have HI0:=n0_;have HK:=n1_;have HB:=n2_;have BK1:=n3_;have GW1:=n4_;have GE1:=n5_;have NB0_1:=n6_;have NB1_0:=n7_;clear n0_ n1_ n2_ n3_ n4_ n5_ n6_ n7_;clear hb hbox hg) | ((with_reducible refine gate_callee (f:=61) rfl ?_);refine goesL_ (some 9) rfl rfl Try.func61 (by kernel_rfl) rfl #[.pointer (some ⟨g,0,none⟩)] rfl lm_ ?_;(with_reducible refine (spec_someTree.calls k g s0_0 s0_1 t2 t5 w0 _ ?side1 ?side2 A2.out).mono ?_);(case side1=>exact is0_);(case side2=>exact hbi0_);rintro e w5 ⟨v3,rfl,ho0,hi,hb,hk⟩;refine ⟨_,rfl,?_⟩;replace BK1:=kk_ hk BK1 NB1_0;have HO4:=a0_ (Kd.R_lower ho0 (keep_size (w:=w) (g:=g) (row:=none) hk_));replace HK:=a0_ (KeepBut.trans (w:=w) hk_ hk (.inl rfl));replace HI0:=a0_ (hi);replace HB:=a0_ (hb);(try clear hb);(try clear ho0)) | ((with_reducible refine gate_dst (N:=4) rfl ?_);refine box_event ?hg (N:=4) ?hd (cs:=#[.slice none 0 0]) (t:=25) ?hr ?_;(case hd=>rfl);(case hg=>rfl);(case hr=>first | (go_simp;done) | (go_simp;rfl));intro gb6 hg w6 hbox hb;have n0_:=rb_ HO4 hb;have n1_:=a0_ (IsS81.below is0_ hb);have n2_:=kb_ BK1 hb;have n3_:=a0_ (KeepBut.trans (w:=w) hk_ (KeepBut.of_below hb g none) (.inl rfl));have n4_:=a0_ (below_step hbi0_ hb);have n5_:=a0_ (hbox);have n6_:=a0_ ((by rw [hg];exact (keep_size (w:=w) (g:=g) (row:=none) hk_) : w.heap.size ≤ gb6));have n7_:=a0_ ((Nat.le_trans HW0.out (by rw [hg];exact (keep_size (w:=w) (g:=g) (row:=none) hk_) : w.heap.size ≤ gb6) : w0.heap.size ≤ gb6));have n8_:=a0_ ((by rw [hg];exact Nat.ne_of_lt (blk_lt (bb_ BK1.out)) : gb1 ≠ gb6));have n9_:=a0_ ((by rw [hg];exact Nat.ne_of_gt (blk_lt (bb_ BK1.out)) : gb6 ≠ gb1));have n10_:=a0_ ((by rw [hg];exact Nat.ne_of_lt (IsS81.lt (is0_ : IsS81 w0 _ g s0_0 t5)) : g ≠ gb6));have n11_:=a0_ ((by rw [hg];exact Nat.ne_of_gt (IsS81.lt (is0_ : IsS81 w0 _ g s0_0 t5)) : gb6 ≠ g));clear HO4 HI0;clear BK1 HK HB;have HO4:=n0_;have HI0:=n1_;have BK1:=n2_;have HK:=n3_;have HB:=n4_;have BK6:=n5_;have GW6:=n6_;have GE6:=n7_;have NB1_6:=n8_;have NB6_1:=n9_;have NB0_6:=n10_;have NB6_0:=n11_;clear n0_ n1_ n2_ n3_ n4_ n5_ n6_ n7_ n8_ n9_ n10_ n11_;clear hb hbox hg;obtain ⟨Ao7,co7,eo7⟩:=Kd.R_slice HO4.out;subst eo7;have hnb8:=NB6_1.out;have hnc8:=NB1_6.out;have hnb9:=NB6_0.out;have hnc9:=NB0_6.out;have hcz10_0 : w6.cell? ⟨gb6,0,none⟩ = some (.slice none 0 0):=(blk_cell BK6.out 0).trans rfl;have hfz10_0:=blk_frozen BK6.out 0) | ((with_reducible refine gate_dst (N:=16) rfl ?_);refine Kd.R_lit k47 _ 47 ?hg (N:=16) ?hd (xs:=([(⟨0,false,0,0⟩ : S47)] : List (S47))) (inner:=[.int .i64 0,.bool false,.int .i64 0,.int .i64 0]) (ok:=fun _=>True) (okp:=fun _=>True) ?hr ?hp (fun _ hk=>hk) trivial (Below.refl _ _) (Nat.le_refl _) (by simp) ?_;(case hd=>rfl);(case hg=>rfl);(case hr=>first | (go_simp;done) | (go_simp;rfl));(case hp=>exact (Reps.c4 (show Kd.M k47 _ _ _ (⟨0,false,0,0⟩ : S47) [.int .i64 0,.bool false,.int .i64 0,.int .i64 0] from (k47_mkM _ _ _ (⟨0,false,0,0⟩ : S47) )) (Reps.none _ _)));intro v8 w11 ho12 hb hg_ hnew_;clear hg_ hnew_;(first | rw [← Ny7.out] at ho12 | (simp only [Int.reduceToNat] at ho12;rw [← Ny7.out] at ho12));have n0_:=a0_ (Kd.R_below (by (with_reducible repeat (first | apply Kd.R_alloc | apply Kd.R_drewN | apply Kd.R_drew));exact (Kd.R_mono (Kd.R_far (p:=⟨gb6,0,none⟩) (Kd.R_types HO4.out BK6.out (by decide)) (fun _ hk=>hk.2) (.slice Ao7 t2.length co7)) (fun _ h_=>h_.1))) hb);have n1_:=a0_ (Kd.R_lower ho12 (keep_size (w:=w) (g:=g) (row:=none) hk_));have n2_:=a0_ (IsS81.below (is0_ : IsS81 w0 (w6.setCell ⟨gb6,0,none⟩ (.slice Ao7 t2.length co7)) g s0_0 t5) hb);have n3_:=kf_ BK1 NB1_6 hb;have n4_:=a0_ (blk_below (g:=gb6) (o:=.cells #[.slice Ao7 t2.length co7] 25 (0,0)) (by (with_reducible repeat (first | refine blk_drewN ?_ _ | refine blk_drew ?_ | refine blk_alloc ?_ _));refine blk_put (cs:=#[.slice none 0 0]) ?_ 0 _ rfl;(with_reducible repeat (first | refine blk_drewN ?_ _ | refine blk_drew ?_ | refine blk_alloc ?_ _));exact BK6.out) hb);have n5_:=a0_ (KeepBut.trans (w:=w) hk_ (KeepBut.of_below hb g none) (.inl rfl));have n6_:=a0_ (below_step hbi0_ hb);clear HO4 HI0;clear BK1 BK6;clear HK HB;have HO4:=n0_;have HO9:=n1_;have HI0:=n2_;have BK1:=n3_;have BK6:=n4_;have HK:=n5_;have HB:=n6_;clear n0_ n1_ n2_ n3_ n4_ n5_ n6_;clear hb ho12;have hnb13:=NB1_0.out;have hnc13:=NB0_1.out;have hcz14_0 : w11.cell? ⟨gb1,0,none⟩ = some (.slice none 0 0):=(blk_cell BK1.out 0).trans rfl;have hfz14_0:=blk_frozen BK1.out 0))
  refine bodyPost_ret (results_ct rfl _ _ gb1 25 #[.slice Ao7 t2.length co7] (0,0) _ rfl (by (with_reducible repeat (first | refine blk_drewN ?_ _ | refine blk_drew ?_ | refine blk_alloc ?_ _));refine blk_put (cs:=#[.slice none 0 0]) ?_ 0 _ rfl;(with_reducible repeat (first | refine blk_drewN ?_ _ | refine blk_drew ?_ | refine blk_alloc ?_ _));exact BK1.out) Try.underlying25 rfl (by kernel_rfl)) rfl ?_
  exact ⟨_,_,by first | rfl | (simp [errW_none,errW_some] <;> rfl) | (simp [*,errW_none,errW_some] <;> rfl),by (with_reducible repeat (first | apply Kd.R_alloc | apply Kd.R_drewN | apply Kd.R_drew));exact Kd.R_mono (Kd.R_far (p:=⟨gb1,0,none⟩) (Kd.R_types HO4.out BK1.out (by decide)) (fun _ hk=>hk.2) (.slice Ao7 t2.length co7)) (fun _ hk=>trivial),by (with_reducible repeat (first | apply Kd.R_alloc | apply Kd.R_drewN | apply Kd.R_drew));exact Kd.R_mono (Kd.R_far (p:=⟨gb1,0,none⟩) (Kd.R_types HO9.out BK1.out (by decide)) (fun _ hk=>hk.2) (.slice Ao7 t2.length co7)) (fun _ hk=>trivial),is0_,hbi0_,hk_⟩
 ·rw [if_neg c3] at H
  have c3b0 : ((t2.length : Int) == 0) = false:=beq_eq_false_iff_ne.mpr c3
  have c3b1 : ((t2.length : Int) != 0) = true:=bne_iff_ne.mpr c3
  have c3b2 : ¬ (t2 = []):=fun h_=>c3 (by rw [h_];rfl)
  replace H:=Option.bind_eq_some_iff.mp H
  obtain ⟨⟨t10,t13⟩,A150,H⟩:=H
  try dsimp only at H
  have A15:=a0_ A150
  clear A150
  have HC16:=a0_ H
  clear H
  go_enter Try.func36,Try.ntmps36
  go_upto_if 22 with (first | ((with_reducible refine gate_dst (N:=2) rfl ?_);refine box_event ?hg (N:=2) ?hd (cs:=#[.slice none 0 0]) (t:=25) ?hr ?_;(case hd=>rfl);(case hg=>rfl);(case hr=>first | (go_simp;done) | (go_simp;rfl));intro gb1 hg w17 hbox hb;have n0_:=a0_ (IsS81.below is0_ hb);have n1_:=a0_ (KeepBut.trans (w:=w) hk_ (KeepBut.of_below hb g none) (.inl rfl));have n2_:=a0_ (below_step hbi0_ hb);have n3_:=a0_ (hbox);have n4_:=a0_ ((by rw [hg];exact (keep_size (w:=w) (g:=g) (row:=none) hk_) : w.heap.size ≤ gb1));have n5_:=a0_ ((Nat.le_trans HW0.out (by rw [hg];exact (keep_size (w:=w) (g:=g) (row:=none) hk_) : w.heap.size ≤ gb1) : w0.heap.size ≤ gb1));have n6_:=a0_ ((by rw [hg];exact Nat.ne_of_lt (IsS81.lt (is0_ : IsS81 w0 _ g s0_0 s0_1)) : g ≠ gb1));have n7_:=a0_ ((by rw [hg];exact Nat.ne_of_gt (IsS81.lt (is0_ : IsS81 w0 _ g s0_0 s0_1)) : gb1 ≠ g));clear HI0 HK HB;have HI0:=n0_;have HK:=n1_;have HB:=n2_;have BK1:=n3_;have GW1:=n4_;have GE1:=n5_;have NB0_1:=n6_;have NB1_0:=n7_;clear n0_ n1_ n2_ n3_ n4_ n5_ n6_ n7_;clear hb hbox hg) | ((with_reducible refine gate_callee (f:=61) rfl ?_);refine goesL_ (some 9) rfl rfl Try.func61 (by kernel_rfl) rfl #[.pointer (some ⟨g,0,none⟩)] rfl lm_ ?_;(with_reducible refine (spec_someTree.calls k g s0_0 s0_1 t2 t5 w0 _ ?side1 ?side2 A2.out).mono ?_);(case side1=>exact is0_);(case side2=>exact hbi0_);rintro e w18 ⟨v3,rfl,ho0,hi,hb,hk⟩;refine ⟨_,rfl,?_⟩;replace BK1:=kk_ hk BK1 NB1_0;have HO4:=a0_ (Kd.R_lower ho0 (keep_size (w:=w) (g:=g) (row:=none) hk_));replace HK:=a0_ (KeepBut.trans (w:=w) hk_ hk (.inl rfl));replace HI0:=a0_ (hi);replace HB:=a0_ (hb);(try clear hb);(try clear ho0)) | ((with_reducible refine gate_dst (N:=4) rfl ?_);refine box_event ?hg (N:=4) ?hd (cs:=#[.slice none 0 0]) (t:=25) ?hr ?_;(case hd=>rfl);(case hg=>rfl);(case hr=>first | (go_simp;done) | (go_simp;rfl));intro gb6 hg w19 hbox hb;have n0_:=rb_ HO4 hb;have n1_:=a0_ (IsS81.below is0_ hb);have n2_:=kb_ BK1 hb;have n3_:=a0_ (KeepBut.trans (w:=w) hk_ (KeepBut.of_below hb g none) (.inl rfl));have n4_:=a0_ (below_step hbi0_ hb);have n5_:=a0_ (hbox);have n6_:=a0_ ((by rw [hg];exact (keep_size (w:=w) (g:=g) (row:=none) hk_) : w.heap.size ≤ gb6));have n7_:=a0_ ((Nat.le_trans HW0.out (by rw [hg];exact (keep_size (w:=w) (g:=g) (row:=none) hk_) : w.heap.size ≤ gb6) : w0.heap.size ≤ gb6));have n8_:=a0_ ((by rw [hg];exact Nat.ne_of_lt (blk_lt (bb_ BK1.out)) : gb1 ≠ gb6));have n9_:=a0_ ((by rw [hg];exact Nat.ne_of_gt (blk_lt (bb_ BK1.out)) : gb6 ≠ gb1));have n10_:=a0_ ((by rw [hg];exact Nat.ne_of_lt (IsS81.lt (is0_ : IsS81 w0 _ g s0_0 t5)) : g ≠ gb6));have n11_:=a0_ ((by rw [hg];exact Nat.ne_of_gt (IsS81.lt (is0_ : IsS81 w0 _ g s0_0 t5)) : gb6 ≠ g));clear HO4 HI0;clear BK1 HK HB;have HO4:=n0_;have HI0:=n1_;have BK1:=n2_;have HK:=n3_;have HB:=n4_;have BK6:=n5_;have GW6:=n6_;have GE6:=n7_;have NB1_6:=n8_;have NB6_1:=n9_;have NB0_6:=n10_;have NB6_0:=n11_;clear n0_ n1_ n2_ n3_ n4_ n5_ n6_ n7_ n8_ n9_ n10_ n11_;clear hb hbox hg;obtain ⟨Ao20,co20,eo20⟩:=Kd.R_slice HO4.out;subst eo20;have hnb21:=NB6_1.out;have hnc21:=NB1_6.out;have hnb22:=NB6_0.out;have hnc22:=NB0_6.out;have hcz23_0 : w19.cell? ⟨gb6,0,none⟩ = some (.slice none 0 0):=(blk_cell BK6.out 0).trans rfl;have hfz23_0:=blk_frozen BK6.out 0) | ((with_reducible refine gate_callee (f:=62) rfl ?_);refine goesL_ (some 19) rfl rfl Try.func62 (by kernel_rfl) rfl #[.pointer (some ⟨g,0,none⟩),.agg #[.slice Ao20 t2.length co20],.int .i64 0] rfl lm_ ?_;(with_reducible refine (spec_goodGroup.calls k g s0_0 t5 _ _ t2 0 t10 t13 w0 _ ?side1 ?side2 ?side3 ?side4 A15.out).mono ?_);(case side1=>exact is0_);(case side2=>exact hbi0_);(case side3=>exact Kd.C_foot_own (IsS81.apart (is0_ : IsS81 w0 _ g s0_0 t5) (by (with_reducible repeat (first | apply Kd.R_alloc | apply Kd.R_drewN | apply Kd.R_drew));exact (Kd.R_mono (Kd.R_far (p:=⟨gb6,0,none⟩) (Kd.R_types HO4.out BK6.out (by decide)) (fun _ hk=>hk.2) (.slice Ao20 t2.length co20)) (fun _ h_=>h_.1))) (by decide)) (fun _ h_=>h_.2));(case side4=>exact (Kd.R_reads' HO4.out).2.1);rintro e w24 ⟨v11,rfl,ho0,hi,hb,hk⟩;refine ⟨_,rfl,?_⟩;replace BK1:=kk_ hk BK1 NB1_0;replace HO4:=a0_ (Kd.R_mono (Kd.R_keep (IsS81.apart (is0_ : IsS81 w0 _ g s0_0 t5) (by (with_reducible repeat (first | apply Kd.R_alloc | apply Kd.R_drewN | apply Kd.R_drew));exact (Kd.R_mono (Kd.R_far (p:=⟨gb6,0,none⟩) (Kd.R_types HO4.out BK6.out (by decide)) (fun _ hk=>hk.2) (.slice Ao20 t2.length co20)) (fun _ h_=>h_.1))) (by decide)) hk (fun _ h=>h.2)) (fun _ h=>h.1));replace BK6:=a0_ (KeepBut.blk hk (g':=gb6) (o:=.cells #[.slice Ao20 t2.length co20] 25 (0,0)) (by (with_reducible repeat (first | refine blk_drewN ?_ _ | refine blk_drew ?_ | refine blk_alloc ?_ _));refine blk_put (cs:=#[.slice none 0 0]) ?_ 0 _ rfl;(with_reducible repeat (first | refine blk_drewN ?_ _ | refine blk_drew ?_ | refine blk_alloc ?_ _));exact BK6.out) NB6_0.out (by simp));have HO12:=a0_ (Kd.R_lower ho0 (keep_size (w:=w) (g:=g) (row:=none) hk_));replace HK:=a0_ (KeepBut.trans (w:=w) hk_ hk (.inl rfl));replace HI0:=a0_ (hi);replace HB:=a0_ (hb);(try clear hb);(try clear ho0);obtain ⟨Ao25,co25,eo25⟩:=Kd.R_slice HO12.out;subst eo25))
  (try simp only [Act.put,s1_,s2_,s3_])
  go_cut [5] (fun v5 wc=>∃ (kq : Nat) (x5_15 : List (S47)) (x1001_15 : Int),Aside0 (spec_someGroup.j1 kq x5_15 s0_0 x1001_15 t2 = some (r1,r2,r3)) ∧ Aside0 (kq ≤ k) ∧ Aside0 (Kd.R k47 47 wc w.heap.size (fun _=>True) v5 x5_15) ∧ Aside0 (Kd.R k85 85 wc w.heap.size (fun _=>True) (.slice Ao20 t2.length co20) t2) ∧ Aside0 (wc.heap[gb1]? = some (.cells #[(.slice none 0 0)] 25 (0,0))) ∧ Aside0 (wc.heap[gb6]? = some (.cells #[(.slice Ao20 t2.length co20)] 25 (0,0))) ∧ Aside0 (IsS81 w0 wc g s0_0 x1001_15) ∧ Aside0 (KeepBut w wc g none) ∧ Aside0 (Below w0.heap.size w0 wc))
  case first =>
   have H:=HC16.out
   clear HC16
   by_cases c26 : (t10.length : Int) > 16
   ·rw [if_pos c26] at H
    have c26b0 : decide (16 < (t10.length : Int)) = true:=decide_eq_true c26
    have c26b1 : decide (16 < t10.length) = true:=decide_eq_true (by omega)
    clear c26
    (first | rw [c26b0] | (simp only [i64_w,i32_w];rw [c26b0]) | skip)
    replace H:=Option.bind_eq_some_iff.mp H
    obtain ⟨⟨t14,t17⟩,A270,H⟩:=H
    replace H : (spec_someGroup.l0 k t14 0 s0_0 t17 t2) = some (r1,r2,r3):=H
    have A27:=a0_ A270
    clear A270
    have H':=a0_ H
    clear H
    have hnb28:=NB6_1.out
    have hnc28:=NB1_6.out
    have hnb29:=NB6_0.out
    have hnc29:=NB0_6.out
    have hcz30_0 : w24.cell? ⟨gb6,0,none⟩ = some (.slice Ao20 t2.length co20):=(blk_cell BK6.out 0).trans rfl
    have hfz30_0:=blk_frozen BK6.out 0
    go_wp2_with (first | ((with_reducible refine gate_callee (f:=62) rfl ?_);refine goesL_ (some 25) rfl rfl Try.func62 (by kernel_rfl) rfl #[.pointer (some ⟨g,0,none⟩),.agg #[.slice Ao20 t2.length co20],.int .i64 2] rfl lm_ ?_;(with_reducible refine (spec_goodGroup.calls k g s0_0 t13 _ _ t2 2 t14 t17 w0 _ ?side1 ?side2 ?side3 ?side4 A27.out).mono ?_);(case side1=>exact is0_);(case side2=>exact hbi0_);(case side3=>exact Kd.C_foot_own (IsS81.apart (is0_ : IsS81 w0 _ g s0_0 t13) (rr_ HO4.out) (by decide)) (fun _ h_=>h_.2));(case side4=>exact (Kd.R_reads' HO4.out).2.1);rintro e w31 ⟨v15,rfl,ho0,hi,hb,hk⟩;refine ⟨_,rfl,?_⟩;have n0_:=kk_ hk BK1 NB1_0;have n1_:=a0_ (Kd.R_mono (Kd.R_keep (IsS81.apart (is0_ : IsS81 w0 _ g s0_0 t13) (rr_ HO4.out) (by decide)) hk (fun _ h=>h.2)) (fun _ h=>h.1));have n2_:=kk_ hk BK6 NB6_0;have n3_:=a0_ (Kd.R_mono (Kd.R_told (Kd.R_oldK (IsS81.apart (is0_ : IsS81 w0 _ g s0_0 t13) (rr_ HO12.out) (by decide)) hk) (Kd.R_base ho0)) (fun _ h_=>h_.1));have n4_:=a0_ (Kd.R_lower (Kd.R_new' ho0 (Kd.R_lt (rr_ HO12.out))) (keep_size (w:=w) (g:=g) (row:=none) hk_));have n5_:=a0_ (KeepBut.trans (w:=w) hk_ hk (.inl rfl));have n6_:=a0_ (hb);have n7_:=a0_ (hi);clear BK1 HO4;clear BK6 HO12;clear HK HB HI0;have BK1:=n0_;have HO4:=n1_;have BK6:=n2_;have HO12:=n3_;have HO16:=n4_;have HK:=n5_;have HB:=n6_;have HI0:=n7_;clear n0_ n1_ n2_ n3_ n4_ n5_ n6_ n7_;(try clear hb);(try clear ho0)))
    go_loopg [6] k (fun kq v6 w'=>∃ (x5_1 : List (S47)) (x6_1 : Int),v6 = .int .i64 x6_1 ∧ Aside0 (spec_someGroup.l0 kq x5_1 x6_1 s0_0 t17 t2 = some (r1,r2,r3)) ∧ Aside0 (kq ≤ k) ∧ Aside0 (Kd.R k47 47 w' w.heap.size (fun _=>True) v15 x5_1) ∧ Aside0 (Kd.R k85 85 w' w.heap.size (fun _=>True) (.slice Ao20 t2.length co20) t2) ∧ Aside0 (w'.heap[gb1]? = some (.cells #[(.slice none 0 0)] 25 (0,0))) ∧ Aside0 (w'.heap[gb6]? = some (.cells #[(.slice Ao20 t2.length co20)] 25 (0,0))) ∧ Aside0 (IsS81 w0 w' g s0_0 t17) ∧ Aside0 (KeepBut w w' g none) ∧ Aside0 (Below w0.heap.size w0 w'))
    case atStart=>exact ⟨(t14),(0),(by first | rfl | (simp;done) | (simp [*];done)),H',⟨Nat.le_refl _⟩,⟨by (with_reducible repeat (first | apply Kd.R_alloc | apply Kd.R_drewN | apply Kd.R_drew));exact Kd.R_mono HO16.out (fun _ hk=>trivial)⟩,⟨by (with_reducible repeat (first | apply Kd.R_alloc | apply Kd.R_drewN | apply Kd.R_drew));exact HO4.out⟩,⟨by (with_reducible repeat (first | refine blk_drewN ?_ _ | refine blk_drew ?_ | refine blk_alloc ?_ _));exact BK1.out⟩,⟨by (with_reducible repeat (first | refine blk_drewN ?_ _ | refine blk_drew ?_ | refine blk_alloc ?_ _));exact BK6.out⟩,⟨is0_⟩,⟨hk_⟩,⟨hbi0_⟩⟩
    case round =>
     clear H'
     try clear c1
     try clear c2
     try clear p2
     try clear c3
     try clear c3b0
     try clear c3b1
     try clear c3b2
     try clear c4
     try clear c6
     try clear c8
     try clear c9
     try clear c13
     try clear c21
     try clear c22
     try clear c26
     try clear c26b0
     try clear c26b1
     try clear c28
     try clear c29
     try clear hcz10_0
     try clear hcz14_0
     try clear hcz23_0
     try clear hcz30_0
     try clear hfz10_0
     try clear hfz14_0
     try clear hfz23_0
     try clear hfz30_0
     obtain ⟨x5_1,x6_1,rfl,HA,HK1,HO_5,Z7,BK1,BK6,HI0,HK,HB⟩:=hrel
     cases gk with
     | zero=>exact absurd HA.out (by simp [spec_someGroup.l0])
     | succ k1 =>
      have H:=HA.out
      clear HA
      simp only [spec_someGroup.l0] at H
      by_cases c32 : x6_1 < (x5_1.length : Int)
      ·rw [if_pos c32] at H
       have c32b0 : decide (x6_1 < (x5_1.length : Int)) = true:=decide_eq_true c32
       clear c32
       by_cases c33 : 0 ≤ x6_1
       ·rw [if_pos c33] at H
        have c33b0 : decide (0 ≤ x6_1) = true:=decide_eq_true c33
        clear c33
        obtain ⟨y19,hy19⟩ : ∃ y_ : List (S47),y_ = (x5_1.set (x6_1 : Int).toNat (⟨wrap64 (((rd_T47 x5_1 x6_1).f0) - 2),(rd_T47 x5_1 x6_1).f1,(rd_T47 x5_1 x6_1).f2,(rd_T47 x5_1 x6_1).f3⟩ : S47)):=⟨_,rfl⟩
        replace H : (spec_someGroup.l0 k1 y19 (wrap64 (x6_1 + 1)) s0_0 t17 t2) = some (r1,r2,r3):=by first | (rw [hy19];with_reducible exact H) | (have H2_:=(Option.bind_some _ _).symm.trans H;rw [hy19];with_reducible exact H2_) | (have H2_:=(Option.bind_some _ _).symm.trans H;with_reducible exact H2_) | with_reducible exact H | (rw [hy19];exact H) | exact H
        have Ny19:=a0_ hy19
        clear hy19
        have H':=a0_ H
        clear H
        obtain ⟨Ao35,co35,eo35⟩:=Kd.R_slice HO_5.out
        subst eo35
        have p18 : 0 ≤ (x6_1 : Int):=of_decide_eq_true (by first | (with_reducible assumption) | assumption)
        have q18 : x6_1 < (x5_1.length : Int):=of_decide_eq_true (by first | (with_reducible assumption) | assumption)
        obtain ⟨ad18,e18,hx18_0,hx18_1,hx18_2,hx18_3⟩:=at_T47 (Kd.R_reads' HO_5.out).2.2 x6_1 p18 q18
        cases e18
        replace p18:=eq_true p18
        replace q18:=eq_true q18
        have p34 : 0 ≤ (x6_1 : Int):=of_decide_eq_true (by first | (with_reducible assumption) | assumption)
        have q34 : (x6_1 : Int) < ((x5_1.length : Int) : Int):=of_decide_eq_true (by first | (with_reducible assumption) | assumption)
        obtain ⟨go34,co34,eo34,gb34,gl34,cl34,HG34⟩:=Kd.R_form HO_5.out (by omega)
        (first | cases eo34 | (injection eo34 with ea_ en_ ec_;(first | subst ea_ | (injection ea_ with ea_;subst ea_));subst ec_;clear en_))
        have GB34:=a0_ gb34
        have GG34:=a0_ HG34
        clear gb34 gl34 HG34
        (first | simp only [add_plain] at hx18_0 | skip)
        (first | simp only [add_plain] at hx18_1 | skip)
        (first | simp only [add_plain] at hx18_2 | skip)
        (first | simp only [add_plain] at hx18_3 | skip)
        obtain ⟨ce34,hcl34,hM34,hcc34,hfr34⟩:=Kd.R_elem HO_5.out z47 (x6_1 : Int) p34 q34
        obtain rfl:=k47_openM hM34
        have hx34_0 : wr.cell? ⟨go34,(x6_1 : Int).toNat * 4,none⟩ = some (.int .i64 ((rd_T47 x5_1 x6_1).f0)):=hcc34 0 _ rfl
        have hx34_1 : wr.cell? ⟨go34,(x6_1 : Int).toNat * 4 + 1,none⟩ = some (.bool ((rd_T47 x5_1 x6_1).f1)):=hcc34 1 _ rfl
        have hx34_2 : wr.cell? ⟨go34,(x6_1 : Int).toNat * 4 + 2,none⟩ = some (.int .i64 ((rd_T47 x5_1 x6_1).f2)):=hcc34 2 _ rfl
        have hx34_3 : wr.cell? ⟨go34,(x6_1 : Int).toNat * 4 + 3,none⟩ = some (.int .i64 ((rd_T47 x5_1 x6_1).f3)):=hcc34 3 _ rfl
        have hf34_0 : wr.frozen? ⟨go34,(x6_1 : Int).toNat * 4,none⟩ = false:=hfr34 0
        have hf34_1 : wr.frozen? ⟨go34,(x6_1 : Int).toNat * 4 + 1,none⟩ = false:=hfr34 1
        have hf34_2 : wr.frozen? ⟨go34,(x6_1 : Int).toNat * 4 + 2,none⟩ = false:=hfr34 2
        have hf34_3 : wr.frozen? ⟨go34,(x6_1 : Int).toNat * 4 + 3,none⟩ = false:=hfr34 3
        clear hcl34 hcc34 hfr34 hM34
        replace p34:=eq_true p34
        replace q34:=eq_true q34
        have HX36:=a0_ (show Kd.R k47 47 wr w.heap.size (fun _=>True) (.slice (some ⟨go34,0,none⟩) x5_1.length co35) x5_1 from (rr_ HO_5.out))
        obtain ⟨ce36,hcl36,hM36,hcc36,hfr36⟩:=Kd.R_elem HX36.out z47 (x6_1 : Int) (of_decide_eq_true (by first | (with_reducible assumption) | assumption)) (by have h_ : (x6_1 : Int) < ((x5_1.length : Int) : Int):=of_decide_eq_true (by first | (with_reducible assumption) | assumption);first | exact h_ | (have e_:=(Kd.R_reads' HO_5.out).1;omega) | simpa using h_)
        obtain rfl:=k47_openM hM36
        have HP36:=Kd.R_seg HX36.out (x6_1 : Int) (of_decide_eq_true (by first | (with_reducible assumption) | assumption)) (by have h_ : (x6_1 : Int) < ((x5_1.length : Int) : Int):=of_decide_eq_true (by first | (with_reducible assumption) | assumption);first | exact h_ | (have e_:=(Kd.R_reads' HO_5.out).1;omega) | simpa using h_) (seg:=[.int .i64 (wrap64 (((rd_T47 x5_1 x6_1).f0) - 2))]) (j:=0) hcl36 hcc36 (show 1 ≤ 4 from by decide) (x':=(⟨wrap64 (((rd_T47 x5_1 x6_1).f0) - 2),(rd_T47 x5_1 x6_1).f1,(rd_T47 x5_1 x6_1).f2,(rd_T47 x5_1 x6_1).f3⟩ : S47)) (k47_mkM _ _ _ (⟨wrap64 (((rd_T47 x5_1 x6_1).f0) - 2),(rd_T47 x5_1 x6_1).f1,(rd_T47 x5_1 x6_1).f2,(rd_T47 x5_1 x6_1).f3⟩ : S47) ) (fun _ hk=>hk)
        have hx36_0:=hcc36 0 _ rfl
        (try simp only [show (k47).sz = 4 from rfl,Nat.mul_one,Nat.add_zero] at hx36_0)
        have hf36_0:=hfr36 0
        (try simp only [show (k47).sz = 4 from rfl,Nat.mul_one,Nat.add_zero] at hf36_0)
        clear hcl36 hcc36 hfr36 hM36
        go_wp2_with (first | ((with_reducible refine gate_store (t:=3) (p:=41) rfl ?_);refine store_event (t:=3) (p:=41) (v:=?vo_w37) (w1:=(wr.setCell ⟨go34,(x6_1 : Int).toNat * 4,none⟩ (.int .i64 (wrap64 (((rd_T47 x5_1 x6_1).f0) - 2))))) ?hg ?ho ?hn ?hr ?_;(case ho=>rfl);(case hg=>rfl);(case hn=>rfl);(case hr=>first | (go_simp;done) | (go_simp;rfl));intro w37 hw;have hg : wr.grownBy w37 (some go34):=(by rw [hw];exact HP36.2);have hp_ : Kd.R k47 47 w37 w.heap.size (fun _=>True) (.slice (some ⟨go34,0,none⟩) x5_1.length co35) y19:=(by rw [hw,Ny19.out];exact HP36.1);clear HP36;have n0_:=a0_ (hp_);have n1_:=a0_ (Kd.R_over' (v:=(.slice (some ⟨go34,0,none⟩) x5_1.length co35)) (rr_ Z7.out) (Kd.R_typed HO_5.out) (by decide) hg);have n2_:=a0_ (blk_grown (bb_ BK1.out) hg (Kd.R_ne HO_5.out BK1.out (by decide)));have n3_:=a0_ (blk_grown (bb_ BK6.out) hg (Kd.R_ne HO_5.out BK6.out (by decide)));have n4_:=a0_ (IsS81.grown is0_ hg (IsS81.own_ne HI0.out HO_5.out (by decide)));have n5_:=a0_ ((by rw [hw];exact below_set (HB.out) (Nat.le_trans HL.out GB34.out) : Below w0.heap.size w0 w37));have n6_:=a0_ (KeepBut.trans (w:=w) hk_ (KeepBut.of_grown hg g) (Kd.R_base2 HO_5.out));clear HO_5 Z7;clear BK1 BK6;clear HI0 HB HK;have HO_5:=n0_;have Z7:=n1_;have BK1:=n2_;have BK6:=n3_;have HI0:=n4_;have HB:=n5_;have HK:=n6_;clear n0_ n1_ n2_ n3_ n4_ n5_ n6_;clear hg hw hp_))
        go_roundg k1
        case measure=>have:=HK1.out;omega
        case rel=>exact ⟨(y19),(wrap64 (x6_1 + 1)),(by first | rfl | (simp;done) | (simp [*];done)),H',⟨by have:=HK1.out;omega⟩,⟨by (with_reducible repeat (first | apply Kd.R_alloc | apply Kd.R_drewN | apply Kd.R_drew));exact HO_5.out⟩,⟨by (with_reducible repeat (first | apply Kd.R_alloc | apply Kd.R_drewN | apply Kd.R_drew));exact Z7.out⟩,⟨by (with_reducible repeat (first | refine blk_drewN ?_ _ | refine blk_drew ?_ | refine blk_alloc ?_ _));exact BK1.out⟩,⟨by (with_reducible repeat (first | refine blk_drewN ?_ _ | refine blk_drew ?_ | refine blk_alloc ?_ _));exact BK6.out⟩,⟨is0_⟩,⟨hk_⟩,⟨hbi0_⟩⟩
       ·rw [if_neg c33] at H
        exact absurd H (by simp)
      ·rw [if_neg c32] at H
       have c32b0 : decide (x6_1 < (x5_1.length : Int)) = false:=decide_eq_false c32
       clear c32
       have H':=a0_ H
       clear H
       obtain ⟨Ao38,co38,eo38⟩:=Kd.R_slice HO_5.out
       subst eo38
       go_wp2
       go_meet
       case rel=>exact ⟨_,(x5_1),(t17),H',⟨by have:=HK1.out;first | omega | exact Nat.le_refl _⟩,⟨by (with_reducible repeat (first | apply Kd.R_alloc | apply Kd.R_drewN | apply Kd.R_drew));exact HO_5.out⟩,⟨by (with_reducible repeat (first | apply Kd.R_alloc | apply Kd.R_drewN | apply Kd.R_drew));exact Z7.out⟩,⟨by (with_reducible repeat (first | refine blk_drewN ?_ _ | refine blk_drew ?_ | refine blk_alloc ?_ _));exact BK1.out⟩,⟨by (with_reducible repeat (first | refine blk_drewN ?_ _ | refine blk_drew ?_ | refine blk_alloc ?_ _));exact BK6.out⟩,⟨is0_⟩,⟨hk_⟩,⟨hbi0_⟩⟩
   ·rw [if_neg c26] at H
    have c26b0 : decide (16 < (t10.length : Int)) = false:=decide_eq_false c26
    have c26b1 : decide (16 < t10.length) = false:=decide_eq_false (by omega)
    clear c26
    (first | rw [c26b0] | (simp only [i64_w,i32_w];rw [c26b0]) | skip)
    have H':=a0_ H
    clear H
    go_wp2
    go_meet
    case rel=>exact ⟨_,(t10),(t13),H',⟨by first | omega | exact Nat.le_refl _⟩,⟨by (with_reducible repeat (first | apply Kd.R_alloc | apply Kd.R_drewN | apply Kd.R_drew));exact HO12.out⟩,⟨by (with_reducible repeat (first | apply Kd.R_alloc | apply Kd.R_drewN | apply Kd.R_drew));exact HO4.out⟩,⟨by (with_reducible repeat (first | refine blk_drewN ?_ _ | refine blk_drew ?_ | refine blk_alloc ?_ _));exact BK1.out⟩,⟨by (with_reducible repeat (first | refine blk_drewN ?_ _ | refine blk_drew ?_ | refine blk_alloc ?_ _));exact BK6.out⟩,⟨is0_⟩,⟨hk_⟩,⟨hbi0_⟩⟩
  case rest =>
   clear HC16
   try clear c1
   try clear p1
   try clear q1
   try clear hx1
   try clear c2
   try clear p2
   try clear c3
   try clear c3b0
   try clear c3b1
   try clear c3b2
   try clear p3
   try clear q3
   try clear hx3
   try clear hf3
   try clear c4
   try clear c6
   try clear p6
   try clear c8
   try clear c9
   try clear c13
   try clear p18
   try clear q18
   try clear hx18
   try clear c21
   try clear c22
   try clear c26
   try clear c26b0
   try clear c26b1
   try clear c28
   try clear c29
   try clear c32
   try clear c32b0
   try clear c33
   try clear c33b0
   try clear c34
   try clear p34
   try clear q34
   try clear hx34
   try clear hf34
   try clear c36
   try clear hx36
   try clear hf36
   try clear hcz10_0
   try clear hcz14_0
   try clear hcz23_0
   try clear hcz30_0
   try clear hfz10_0
   try clear hfz14_0
   try clear hfz23_0
   try clear hfz30_0
   try clear hx18_0
   try clear hx18_1
   try clear hx18_2
   try clear hx18_3
   try clear hx34_0
   try clear hx34_1
   try clear hx34_2
   try clear hx34_3
   try clear hx36_0
   try clear p18
   try clear p2
   try clear p34
   try clear q18
   try clear q34
   obtain ⟨kq,x5_15,x1001_15,HA,HJ15,HO_5,Z7,BK1,BK6,HI0,HK,HB⟩:=hcut
   cases kq with
   | zero=>exact absurd HA.out (by simp [spec_someGroup.j1])
   | succ kj15 =>
    have H:=HA.out
    clear HA
    simp only [spec_someGroup.j1] at H
    replace H:=Option.bind_eq_some_iff.mp H
    obtain ⟨⟨t20,t21⟩,A390,H⟩:=H
    try dsimp only at H
    have A39:=a0_ A390
    clear A390
    replace H:=Option.bind_eq_some_iff.mp H
    obtain ⟨⟨t22,t23⟩,A400,H⟩:=H
    try dsimp only at H
    have A40:=a0_ A400
    clear A400
    by_cases c41 : t22 = 0
    ·rw [if_pos c41] at H
     have c41b0 : (t22 == 0) = true:=beq_iff_eq.mpr c41
     have c41b1 : (t22 != 0) = false:=bne_eq_false_iff_eq.mpr c41
     clear c41
     obtain ⟨y24,hy24⟩ : ∃ y_ : List Int,y_ = (([(-1),6,0,1] : List Int)):=⟨_,rfl⟩
     replace H : ((spec_reader_one.f kj15 s0_0 t23 y24).bind fun bt27=>(if 0 ≤ t20 then (if t20 < (x5_15.length : Int) then (some (t2,(x5_15.set (t20 : Int).toNat (⟨bt27.1,(rd_T47 x5_15 t20).f1,(rd_T47 x5_15 t20).f2,(rd_T47 x5_15 t20).f3⟩ : S47)),bt27.2)) else (none)) else (none))) = some (r1,r2,r3):=by first | (rw [hy24];with_reducible exact H) | (have H2_:=(Option.bind_some _ _).symm.trans H;rw [hy24];with_reducible exact H2_) | (have H2_:=(Option.bind_some _ _).symm.trans H;with_reducible exact H2_) | with_reducible exact H | (rw [hy24];exact H) | exact H
     have Ny24:=a0_ hy24
     clear hy24
     replace H:=Option.bind_eq_some_iff.mp H
     obtain ⟨⟨t27,t28⟩,A420,H⟩:=H
     try dsimp only at H
     have A42:=a0_ A420
     clear A420
     by_cases c43 : 0 ≤ t20
     ·rw [if_pos c43] at H
      have c43b0 : decide (0 ≤ t20) = true:=decide_eq_true c43
      clear c43
      by_cases c44 : t20 < (x5_15.length : Int)
      ·rw [if_pos c44] at H
       have c44b0 : decide (t20 < (x5_15.length : Int)) = true:=decide_eq_true c44
       clear c44
       obtain ⟨y29,hy29⟩ : ∃ y_ : List (S47),y_ = (x5_15.set (t20 : Int).toNat (⟨t27,(rd_T47 x5_15 t20).f1,(rd_T47 x5_15 t20).f2,(rd_T47 x5_15 t20).f3⟩ : S47)):=⟨_,rfl⟩
       replace H : (some (t2,y29,t28)) = some (r1,r2,r3):=by first | (rw [hy29];with_reducible exact H) | (have H2_:=(Option.bind_some _ _).symm.trans H;rw [hy29];with_reducible exact H2_) | (have H2_:=(Option.bind_some _ _).symm.trans H;with_reducible exact H2_) | with_reducible exact H | (rw [hy29];exact H) | exact H
       have Ny29:=a0_ hy29
       clear hy29
       simp only [Option.some.injEq,Prod.mk.injEq] at H
       obtain ⟨rfl,rfl,rfl⟩:=H
       obtain ⟨Ao46,co46,eo46⟩:=Kd.R_slice HO_5.out
       subst eo46
       go_wp2_with (first | ((with_reducible refine gate_callee (f:=63) rfl ?_);refine goesL_ (some 45) rfl rfl Try.func63 (by kernel_rfl) rfl #[.pointer (some ⟨g,0,none⟩),.int .i64 (x5_15.length : Int)] rfl lm_ ?_;(with_reducible refine (spec_reader_pick.calls kj15 g s0_0 x1001_15 (x5_15.length : Int) t20 t21 w0 _ ?side1 ?side2 A39.out).mono ?_);(case side1=>exact is0_);(case side2=>exact hbi0_);rintro e w47 ⟨rfl,hi,hb,hk⟩;refine ⟨_,rfl,?_⟩;replace HO_5:=a0_ (Kd.R_mono (Kd.R_keep (IsS81.apart (is0_ : IsS81 w0 _ g s0_0 x1001_15) (rr_ HO_5.out) (by decide)) hk (fun _ h=>h.2)) (fun _ h=>h.1));replace Z7:=a0_ (Kd.R_mono (Kd.R_keep (IsS81.apart (is0_ : IsS81 w0 _ g s0_0 x1001_15) (rr_ Z7.out) (by decide)) hk (fun _ h=>h.2)) (fun _ h=>h.1));replace BK1:=kk_ hk BK1 NB1_0;replace BK6:=kk_ hk BK6 NB6_0;replace HK:=a0_ (KeepBut.trans (w:=w) hk_ hk (.inl rfl));replace HI0:=a0_ (hi);replace HB:=a0_ (hb);(try clear hb);(try clear hb2);(try clear hk);(try clear hi)) | ((with_reducible refine gate_callee (f:=63) rfl ?_);refine goesL_ (some 47) rfl rfl Try.func63 (by kernel_rfl) rfl #[.pointer (some ⟨g,0,none⟩),.int .i64 24] rfl lm_ ?_;(with_reducible refine (spec_reader_pick.calls kj15 g s0_0 t21 24 t22 t23 w0 _ ?side1 ?side2 A40.out).mono ?_);(case side1=>exact is0_);(case side2=>exact hbi0_);rintro e w48 ⟨rfl,hi,hb,hk⟩;refine ⟨_,rfl,?_⟩;replace HO_5:=a0_ (Kd.R_mono (Kd.R_keep (IsS81.apart (is0_ : IsS81 w0 _ g s0_0 t21) (rr_ HO_5.out) (by decide)) hk (fun _ h=>h.2)) (fun _ h=>h.1));replace Z7:=a0_ (Kd.R_mono (Kd.R_keep (IsS81.apart (is0_ : IsS81 w0 _ g s0_0 t21) (rr_ Z7.out) (by decide)) hk (fun _ h=>h.2)) (fun _ h=>h.1));replace BK1:=kk_ hk BK1 NB1_0;replace BK6:=kk_ hk BK6 NB6_0;replace HK:=a0_ (KeepBut.trans (w:=w) hk_ hk (.inl rfl));replace HI0:=a0_ (hi);replace HB:=a0_ (hb);(try clear hb);(try clear hb2);(try clear hk);(try clear hi)) | ((with_reducible refine gate_dst (N:=53) rfl ?_);refine Kd.R_lit (Kd.int .i64) _ 3 ?hg (N:=53) ?hd (xs:=([(-1),6,0,1] : List Int)) (inner:=[.int .i64 (-1),.int .i64 6,.int .i64 0,.int .i64 1]) (ok:=fun _=>True) (okp:=fun _=>True) ?hr ?hp (fun _ hk=>hk) trivial (Below.refl _ _) (Nat.le_refl _) (by simp) ?_;(case hd=>rfl);(case hg=>rfl);(case hr=>first | (go_simp;done) | (go_simp;rfl));(case hp=>exact (Reps.one (show Kd.M (Kd.int .i64) _ _ _ (-1) [.int .i64 (-1)] from rfl) (Reps.one (show Kd.M (Kd.int .i64) _ _ _ 6 [.int .i64 6] from rfl) (Reps.one (show Kd.M (Kd.int .i64) _ _ _ 0 [.int .i64 0] from rfl) (Reps.one (show Kd.M (Kd.int .i64) _ _ _ 1 [.int .i64 1] from rfl) (Reps.none _ _))))));intro v25 w49 ho50 hb hg_ hnew_;clear hg_ hnew_;(first | rw [← Ny24.out] at ho50 | (simp only [Int.reduceToNat] at ho50;rw [← Ny24.out] at ho50));have n0_:=rb_ HO_5 hb;have n1_:=rb_ Z7 hb;have n2_:=a0_ (Kd.R_lower ho50 (keep_size (w:=w) (g:=g) (row:=none) hk_));have n3_:=kb_ BK1 hb;have n4_:=kb_ BK6 hb;have n5_:=a0_ (IsS81.below is0_ hb);have n6_:=a0_ (KeepBut.trans (w:=w) hk_ (KeepBut.of_below hb g none) (.inl rfl));have n7_:=a0_ (below_step hbi0_ hb);clear HO_5 Z7;clear BK1 BK6;clear HI0 HK HB;have HO_5:=n0_;have Z7:=n1_;have HO26:=n2_;have BK1:=n3_;have BK6:=n4_;have HI0:=n5_;have HK:=n6_;have HB:=n7_;clear n0_ n1_ n2_ n3_ n4_ n5_ n6_ n7_;clear hb ho50;obtain ⟨Ao51,co51,eo51⟩:=Kd.R_slice HO26.out;subst eo51) | ((with_reducible refine gate_callee (f:=64) rfl ?_);refine goesL_ (some 54) rfl rfl Try.func64 (by kernel_rfl) rfl #[.pointer (some ⟨g,0,none⟩),.slice Ao51 y24.length co51] rfl lm_ ?_;(with_reducible refine (spec_reader_one.calls kj15 g s0_0 t23 _ _ y24 t27 t28 w0 _ ?side1 ?side2 ?side3 ?side4 ?side5 A42.out).mono ?_);(case side1=>exact is0_);(case side2=>exact hbi0_);(case side3=>exact cc_ (Kd.R_reads' HO26.out).2.2);(case side4=>exact (Kd.R_reads' HO26.out).2.1);(case side5=>exact far_slice (IsS81.own_ne HI0.out HO26.out (by decide)));rintro e w52 ⟨rfl,hi,hb,hk⟩;refine ⟨_,rfl,?_⟩;replace HO_5:=a0_ (Kd.R_mono (Kd.R_keep (IsS81.apart (is0_ : IsS81 w0 _ g s0_0 t23) (rr_ HO_5.out) (by decide)) hk (fun _ h=>h.2)) (fun _ h=>h.1));replace Z7:=a0_ (Kd.R_mono (Kd.R_keep (IsS81.apart (is0_ : IsS81 w0 _ g s0_0 t23) (rr_ Z7.out) (by decide)) hk (fun _ h=>h.2)) (fun _ h=>h.1));replace BK1:=kk_ hk BK1 NB1_0;replace BK6:=kk_ hk BK6 NB6_0;replace HO26:=a0_ (Kd.R_mono (Kd.R_keep (IsS81.apart (is0_ : IsS81 w0 _ g s0_0 t23) (rr_ HO26.out) (by decide)) hk (fun _ h=>h.2)) (fun _ h=>h.1));replace HK:=a0_ (KeepBut.trans (w:=w) hk_ hk (.inl rfl));replace HI0:=a0_ (hi);replace HB:=a0_ (hb);(try clear hb);have p45 : 0 ≤ (t20 : Int):=of_decide_eq_true (by first | (with_reducible assumption) | assumption);have q45 : (t20 : Int) < ((x5_15.length : Int) : Int):=of_decide_eq_true (by first | (with_reducible assumption) | assumption);obtain ⟨go45,co45,eo45,gb45,gl45,cl45,HG45⟩:=Kd.R_form HO_5.out (by omega);(first | cases eo45 | (injection eo45 with ea_ en_ ec_;(first | subst ea_ | (injection ea_ with ea_;subst ea_));subst ec_;clear en_));have GB45:=a0_ gb45;have GG45:=a0_ HG45;clear gb45 gl45 HG45;obtain ⟨ce45,hcl45,hM45,hcc45,hfr45⟩:=Kd.R_elem HO_5.out z47 (t20 : Int) p45 q45;obtain rfl:=k47_openM hM45;have hx45_0 : w52.cell? ⟨go45,(t20 : Int).toNat * 4,none⟩ = some (.int .i64 ((rd_T47 x5_15 t20).f0)):=hcc45 0 _ rfl;have hx45_1 : w52.cell? ⟨go45,(t20 : Int).toNat * 4 + 1,none⟩ = some (.bool ((rd_T47 x5_15 t20).f1)):=hcc45 1 _ rfl;have hx45_2 : w52.cell? ⟨go45,(t20 : Int).toNat * 4 + 2,none⟩ = some (.int .i64 ((rd_T47 x5_15 t20).f2)):=hcc45 2 _ rfl;have hx45_3 : w52.cell? ⟨go45,(t20 : Int).toNat * 4 + 3,none⟩ = some (.int .i64 ((rd_T47 x5_15 t20).f3)):=hcc45 3 _ rfl;have hf45_0 : w52.frozen? ⟨go45,(t20 : Int).toNat * 4,none⟩ = false:=hfr45 0;have hf45_1 : w52.frozen? ⟨go45,(t20 : Int).toNat * 4 + 1,none⟩ = false:=hfr45 1;have hf45_2 : w52.frozen? ⟨go45,(t20 : Int).toNat * 4 + 2,none⟩ = false:=hfr45 2;have hf45_3 : w52.frozen? ⟨go45,(t20 : Int).toNat * 4 + 3,none⟩ = false:=hfr45 3;clear hcl45 hcc45 hfr45 hM45;replace p45:=eq_true p45;replace q45:=eq_true q45;have HX53:=a0_ (show Kd.R k47 47 w52 w.heap.size (fun _=>True) (.slice (some ⟨go45,0,none⟩) x5_15.length co46) x5_15 from (rr_ HO_5.out));obtain ⟨ce53,hcl53,hM53,hcc53,hfr53⟩:=Kd.R_elem HX53.out z47 (t20 : Int) (of_decide_eq_true (by first | (with_reducible assumption) | assumption)) (by have h_ : (t20 : Int) < ((x5_15.length : Int) : Int):=of_decide_eq_true (by first | (with_reducible assumption) | assumption);first | exact h_ | (have e_:=(Kd.R_reads' HO_5.out).1;omega) | simpa using h_);obtain rfl:=k47_openM hM53;have HP53:=Kd.R_seg HX53.out (t20 : Int) (of_decide_eq_true (by first | (with_reducible assumption) | assumption)) (by have h_ : (t20 : Int) < ((x5_15.length : Int) : Int):=of_decide_eq_true (by first | (with_reducible assumption) | assumption);first | exact h_ | (have e_:=(Kd.R_reads' HO_5.out).1;omega) | simpa using h_) (seg:=[.int .i64 t27]) (j:=0) hcl53 hcc53 (show 1 ≤ 4 from by decide) (x':=(⟨t27,(rd_T47 x5_15 t20).f1,(rd_T47 x5_15 t20).f2,(rd_T47 x5_15 t20).f3⟩ : S47)) (k47_mkM _ _ _ (⟨t27,(rd_T47 x5_15 t20).f1,(rd_T47 x5_15 t20).f2,(rd_T47 x5_15 t20).f3⟩ : S47) ) (fun _ hk=>hk);have hx53_0:=hcc53 0 _ rfl;(try simp only [show (k47).sz = 4 from rfl,Nat.mul_one,Nat.add_zero] at hx53_0);have hf53_0:=hfr53 0;(try simp only [show (k47).sz = 4 from rfl,Nat.mul_one,Nat.add_zero] at hf53_0);clear hcl53 hcc53 hfr53 hM53) | ((with_reducible refine gate_store (t:=3) (p:=56) rfl ?_);refine store_event (t:=3) (p:=56) (v:=?vo_w54) (w1:=(w52.setCell ⟨go45,(t20 : Int).toNat * 4,none⟩ (.int .i64 t27))) ?hg ?ho ?hn ?hr ?_;(case ho=>rfl);(case hg=>rfl);(case hn=>rfl);(case hr=>first | (go_simp;done) | (go_simp;rfl));intro w54 hw;have hg : w52.grownBy w54 (some go45):=(by rw [hw];exact HP53.2);have hp_ : Kd.R k47 47 w54 w.heap.size (fun _=>True) (.slice (some ⟨go45,0,none⟩) x5_15.length co46) y29:=(by rw [hw,Ny29.out];exact HP53.1);clear HP53;have n0_:=a0_ (hp_);have n1_:=a0_ (Kd.R_over' (v:=(.slice (some ⟨go45,0,none⟩) x5_15.length co46)) (rr_ Z7.out) (Kd.R_typed HO_5.out) (by decide) hg);have n2_:=a0_ (blk_grown (bb_ BK1.out) hg (Kd.R_ne HO_5.out BK1.out (by decide)));have n3_:=a0_ (blk_grown (bb_ BK6.out) hg (Kd.R_ne HO_5.out BK6.out (by decide)));have n4_:=a0_ (IsS81.grown is0_ hg (IsS81.own_ne HI0.out HO_5.out (by decide)));have n5_:=a0_ (Kd.R_over' (v:=(.slice (some ⟨go45,0,none⟩) x5_15.length co46)) (rr_ HO26.out) (Kd.R_typed HO_5.out) (by decide) hg);have n6_:=a0_ ((by rw [hw];exact below_set (HB.out) (Nat.le_trans HL.out GB45.out) : Below w0.heap.size w0 w54));have n7_:=a0_ (KeepBut.trans (w:=w) hk_ (KeepBut.of_grown hg g) (Kd.R_base2 HO_5.out));clear HO_5 Z7;clear BK1 BK6;clear HI0 HO26;clear HB HK;have HO_5:=n0_;have Z7:=n1_;have BK1:=n2_;have BK6:=n3_;have HI0:=n4_;have HO26:=n5_;have HB:=n6_;have HK:=n7_;clear n0_ n1_ n2_ n3_ n4_ n5_ n6_ n7_;clear hg hw hp_;have hnb55:=NB6_1.out;have hnc55:=NB1_6.out;have hnb56:=NB6_0.out;have hnc56:=NB0_6.out;have hcz57_0 : w54.cell? ⟨gb6,0,none⟩ = some (.slice Ao20 t2.length co20):=(blk_cell BK6.out 0).trans rfl;have hfz57_0:=blk_frozen BK6.out 0;have hnb58:=NB1_0.out;have hnc58:=NB0_1.out;have hcz59_0 : w54.cell? ⟨gb1,0,none⟩ = some (.slice none 0 0):=(blk_cell BK1.out 0).trans rfl;have hfz59_0:=blk_frozen BK1.out 0))
       refine bodyPost_ret (results_ct rfl _ _ gb1 25 #[.slice Ao20 t2.length co20] (0,0) _ rfl (by (with_reducible repeat (first | refine blk_drewN ?_ _ | refine blk_drew ?_ | refine blk_alloc ?_ _));refine blk_put (cs:=#[.slice none 0 0]) ?_ 0 _ rfl;(with_reducible repeat (first | refine blk_drewN ?_ _ | refine blk_drew ?_ | refine blk_alloc ?_ _));exact BK1.out) Try.underlying25 rfl (by kernel_rfl)) rfl ?_
       exact ⟨_,_,by first | rfl | (simp [errW_none,errW_some] <;> rfl) | (simp [*,errW_none,errW_some] <;> rfl),by (with_reducible repeat (first | apply Kd.R_alloc | apply Kd.R_drewN | apply Kd.R_drew));exact Kd.R_mono (Kd.R_far (p:=⟨gb1,0,none⟩) (Kd.R_types Z7.out BK1.out (by decide)) (fun _ hk=>hk.2) (.slice Ao20 t2.length co20)) (fun _ hk=>trivial),by (with_reducible repeat (first | apply Kd.R_alloc | apply Kd.R_drewN | apply Kd.R_drew));exact Kd.R_mono (Kd.R_far (p:=⟨gb1,0,none⟩) (Kd.R_types HO_5.out BK1.out (by decide)) (fun _ hk=>hk.2) (.slice Ao20 t2.length co20)) (fun _ hk=>trivial),is0_,hbi0_,hk_⟩
      ·rw [if_neg c44] at H
       exact absurd H (by simp)
     ·rw [if_neg c43] at H
      exact absurd H (by simp)
    ·rw [if_neg c41] at H
     have c41b0 : (t22 == 0) = false:=beq_eq_false_iff_ne.mpr c41
     have c41b1 : (t22 != 0) = true:=bne_iff_ne.mpr c41
     by_cases c60 : t22 = 1
     ·rw [if_pos c60] at H
      have c60b0 : (t22 == 1) = true:=beq_iff_eq.mpr c60
      have c60b1 : (t22 != 1) = false:=bne_eq_false_iff_eq.mpr c60
      clear c60
      obtain ⟨y30,hy30⟩ : ∃ y_ : List Int,y_ = (([(-1),8,1] : List Int)):=⟨_,rfl⟩
      replace H : ((spec_reader_one.f kj15 s0_0 t23 y30).bind fun bt33=>(if 0 ≤ t20 then (if t20 < (x5_15.length : Int) then (some (t2,(x5_15.set (t20 : Int).toNat (⟨(rd_T47 x5_15 t20).f0,(rd_T47 x5_15 t20).f1,bt33.1,(rd_T47 x5_15 t20).f3⟩ : S47)),bt33.2)) else (none)) else (none))) = some (r1,r2,r3):=by first | (rw [hy30];with_reducible exact H) | (have H2_:=(Option.bind_some _ _).symm.trans H;rw [hy30];with_reducible exact H2_) | (have H2_:=(Option.bind_some _ _).symm.trans H;with_reducible exact H2_) | with_reducible exact H | (rw [hy30];exact H) | exact H
      have Ny30:=a0_ hy30
      clear hy30
      replace H:=Option.bind_eq_some_iff.mp H
      obtain ⟨⟨t33,t34⟩,A610,H⟩:=H
      try dsimp only at H
      have A61:=a0_ A610
      clear A610
      by_cases c62 : 0 ≤ t20
      ·rw [if_pos c62] at H
       have c62b0 : decide (0 ≤ t20) = true:=decide_eq_true c62
       clear c62
       by_cases c63 : t20 < (x5_15.length : Int)
       ·rw [if_pos c63] at H
        have c63b0 : decide (t20 < (x5_15.length : Int)) = true:=decide_eq_true c63
        clear c63
        obtain ⟨y35,hy35⟩ : ∃ y_ : List (S47),y_ = (x5_15.set (t20 : Int).toNat (⟨(rd_T47 x5_15 t20).f0,(rd_T47 x5_15 t20).f1,t33,(rd_T47 x5_15 t20).f3⟩ : S47)):=⟨_,rfl⟩
        replace H : (some (t2,y35,t34)) = some (r1,r2,r3):=by first | (rw [hy35];with_reducible exact H) | (have H2_:=(Option.bind_some _ _).symm.trans H;rw [hy35];with_reducible exact H2_) | (have H2_:=(Option.bind_some _ _).symm.trans H;with_reducible exact H2_) | with_reducible exact H | (rw [hy35];exact H) | exact H
        have Ny35:=a0_ hy35
        clear hy35
        simp only [Option.some.injEq,Prod.mk.injEq] at H
        obtain ⟨rfl,rfl,rfl⟩:=H
        obtain ⟨Ao65,co65,eo65⟩:=Kd.R_slice HO_5.out
        subst eo65
        go_wp2_with (first | ((with_reducible refine gate_callee (f:=63) rfl ?_);refine goesL_ (some 45) rfl rfl Try.func63 (by kernel_rfl) rfl #[.pointer (some ⟨g,0,none⟩),.int .i64 (x5_15.length : Int)] rfl lm_ ?_;(with_reducible refine (spec_reader_pick.calls kj15 g s0_0 x1001_15 (x5_15.length : Int) t20 t21 w0 _ ?side1 ?side2 A39.out).mono ?_);(case side1=>exact is0_);(case side2=>exact hbi0_);rintro e w66 ⟨rfl,hi,hb,hk⟩;refine ⟨_,rfl,?_⟩;replace HO_5:=a0_ (Kd.R_mono (Kd.R_keep (IsS81.apart (is0_ : IsS81 w0 _ g s0_0 x1001_15) (rr_ HO_5.out) (by decide)) hk (fun _ h=>h.2)) (fun _ h=>h.1));replace Z7:=a0_ (Kd.R_mono (Kd.R_keep (IsS81.apart (is0_ : IsS81 w0 _ g s0_0 x1001_15) (rr_ Z7.out) (by decide)) hk (fun _ h=>h.2)) (fun _ h=>h.1));replace BK1:=kk_ hk BK1 NB1_0;replace BK6:=kk_ hk BK6 NB6_0;replace HK:=a0_ (KeepBut.trans (w:=w) hk_ hk (.inl rfl));replace HI0:=a0_ (hi);replace HB:=a0_ (hb);(try clear hb);(try clear hb2);(try clear hk);(try clear hi)) | ((with_reducible refine gate_callee (f:=63) rfl ?_);refine goesL_ (some 47) rfl rfl Try.func63 (by kernel_rfl) rfl #[.pointer (some ⟨g,0,none⟩),.int .i64 24] rfl lm_ ?_;(with_reducible refine (spec_reader_pick.calls kj15 g s0_0 t21 24 t22 t23 w0 _ ?side1 ?side2 A40.out).mono ?_);(case side1=>exact is0_);(case side2=>exact hbi0_);rintro e w67 ⟨rfl,hi,hb,hk⟩;refine ⟨_,rfl,?_⟩;replace HO_5:=a0_ (Kd.R_mono (Kd.R_keep (IsS81.apart (is0_ : IsS81 w0 _ g s0_0 t21) (rr_ HO_5.out) (by decide)) hk (fun _ h=>h.2)) (fun _ h=>h.1));replace Z7:=a0_ (Kd.R_mono (Kd.R_keep (IsS81.apart (is0_ : IsS81 w0 _ g s0_0 t21) (rr_ Z7.out) (by decide)) hk (fun _ h=>h.2)) (fun _ h=>h.1));replace BK1:=kk_ hk BK1 NB1_0;replace BK6:=kk_ hk BK6 NB6_0;replace HK:=a0_ (KeepBut.trans (w:=w) hk_ hk (.inl rfl));replace HI0:=a0_ (hi);replace HB:=a0_ (hb);(try clear hb);(try clear hb2);(try clear hk);(try clear hi)) | ((with_reducible refine gate_dst (N:=62) rfl ?_);refine Kd.R_lit (Kd.int .i64) _ 3 ?hg (N:=62) ?hd (xs:=([(-1),8,1] : List Int)) (inner:=[.int .i64 (-1),.int .i64 8,.int .i64 1]) (ok:=fun _=>True) (okp:=fun _=>True) ?hr ?hp (fun _ hk=>hk) trivial (Below.refl _ _) (Nat.le_refl _) (by simp) ?_;(case hd=>rfl);(case hg=>rfl);(case hr=>first | (go_simp;done) | (go_simp;rfl));(case hp=>exact (Reps.one (show Kd.M (Kd.int .i64) _ _ _ (-1) [.int .i64 (-1)] from rfl) (Reps.one (show Kd.M (Kd.int .i64) _ _ _ 8 [.int .i64 8] from rfl) (Reps.one (show Kd.M (Kd.int .i64) _ _ _ 1 [.int .i64 1] from rfl) (Reps.none _ _)))));intro v31 w68 ho69 hb hg_ hnew_;clear hg_ hnew_;(first | rw [← Ny30.out] at ho69 | (simp only [Int.reduceToNat] at ho69;rw [← Ny30.out] at ho69));have n0_:=rb_ HO_5 hb;have n1_:=rb_ Z7 hb;have n2_:=a0_ (Kd.R_lower ho69 (keep_size (w:=w) (g:=g) (row:=none) hk_));have n3_:=kb_ BK1 hb;have n4_:=kb_ BK6 hb;have n5_:=a0_ (IsS81.below is0_ hb);have n6_:=a0_ (KeepBut.trans (w:=w) hk_ (KeepBut.of_below hb g none) (.inl rfl));have n7_:=a0_ (below_step hbi0_ hb);clear HO_5 Z7;clear BK1 BK6;clear HI0 HK HB;have HO_5:=n0_;have Z7:=n1_;have HO32:=n2_;have BK1:=n3_;have BK6:=n4_;have HI0:=n5_;have HK:=n6_;have HB:=n7_;clear n0_ n1_ n2_ n3_ n4_ n5_ n6_ n7_;clear hb ho69;obtain ⟨Ao70,co70,eo70⟩:=Kd.R_slice HO32.out;subst eo70) | ((with_reducible refine gate_callee (f:=64) rfl ?_);refine goesL_ (some 63) rfl rfl Try.func64 (by kernel_rfl) rfl #[.pointer (some ⟨g,0,none⟩),.slice Ao70 y30.length co70] rfl lm_ ?_;(with_reducible refine (spec_reader_one.calls kj15 g s0_0 t23 _ _ y30 t33 t34 w0 _ ?side1 ?side2 ?side3 ?side4 ?side5 A61.out).mono ?_);(case side1=>exact is0_);(case side2=>exact hbi0_);(case side3=>exact cc_ (Kd.R_reads' HO32.out).2.2);(case side4=>exact (Kd.R_reads' HO32.out).2.1);(case side5=>exact far_slice (IsS81.own_ne HI0.out HO32.out (by decide)));rintro e w71 ⟨rfl,hi,hb,hk⟩;refine ⟨_,rfl,?_⟩;replace HO_5:=a0_ (Kd.R_mono (Kd.R_keep (IsS81.apart (is0_ : IsS81 w0 _ g s0_0 t23) (rr_ HO_5.out) (by decide)) hk (fun _ h=>h.2)) (fun _ h=>h.1));replace Z7:=a0_ (Kd.R_mono (Kd.R_keep (IsS81.apart (is0_ : IsS81 w0 _ g s0_0 t23) (rr_ Z7.out) (by decide)) hk (fun _ h=>h.2)) (fun _ h=>h.1));replace BK1:=kk_ hk BK1 NB1_0;replace BK6:=kk_ hk BK6 NB6_0;replace HO32:=a0_ (Kd.R_mono (Kd.R_keep (IsS81.apart (is0_ : IsS81 w0 _ g s0_0 t23) (rr_ HO32.out) (by decide)) hk (fun _ h=>h.2)) (fun _ h=>h.1));replace HK:=a0_ (KeepBut.trans (w:=w) hk_ hk (.inl rfl));replace HI0:=a0_ (hi);replace HB:=a0_ (hb);(try clear hb);have p64 : 0 ≤ (t20 : Int):=of_decide_eq_true (by first | (with_reducible assumption) | assumption);have q64 : (t20 : Int) < ((x5_15.length : Int) : Int):=of_decide_eq_true (by first | (with_reducible assumption) | assumption);obtain ⟨go64,co64,eo64,gb64,gl64,cl64,HG64⟩:=Kd.R_form HO_5.out (by omega);(first | cases eo64 | (injection eo64 with ea_ en_ ec_;(first | subst ea_ | (injection ea_ with ea_;subst ea_));subst ec_;clear en_));have GB64:=a0_ gb64;have GG64:=a0_ HG64;clear gb64 gl64 HG64;obtain ⟨ce64,hcl64,hM64,hcc64,hfr64⟩:=Kd.R_elem HO_5.out z47 (t20 : Int) p64 q64;obtain rfl:=k47_openM hM64;have hx64_0 : w71.cell? ⟨go64,(t20 : Int).toNat * 4,none⟩ = some (.int .i64 ((rd_T47 x5_15 t20).f0)):=hcc64 0 _ rfl;have hx64_1 : w71.cell? ⟨go64,(t20 : Int).toNat * 4 + 1,none⟩ = some (.bool ((rd_T47 x5_15 t20).f1)):=hcc64 1 _ rfl;have hx64_2 : w71.cell? ⟨go64,(t20 : Int).toNat * 4 + 2,none⟩ = some (.int .i64 ((rd_T47 x5_15 t20).f2)):=hcc64 2 _ rfl;have hx64_3 : w71.cell? ⟨go64,(t20 : Int).toNat * 4 + 3,none⟩ = some (.int .i64 ((rd_T47 x5_15 t20).f3)):=hcc64 3 _ rfl;have hf64_0 : w71.frozen? ⟨go64,(t20 : Int).toNat * 4,none⟩ = false:=hfr64 0;have hf64_1 : w71.frozen? ⟨go64,(t20 : Int).toNat * 4 + 1,none⟩ = false:=hfr64 1;have hf64_2 : w71.frozen? ⟨go64,(t20 : Int).toNat * 4 + 2,none⟩ = false:=hfr64 2;have hf64_3 : w71.frozen? ⟨go64,(t20 : Int).toNat * 4 + 3,none⟩ = false:=hfr64 3;clear hcl64 hcc64 hfr64 hM64;replace p64:=eq_true p64;replace q64:=eq_true q64;have HX72:=a0_ (show Kd.R k47 47 w71 w.heap.size (fun _=>True) (.slice (some ⟨go64,0,none⟩) x5_15.length co65) x5_15 from (rr_ HO_5.out));obtain ⟨ce72,hcl72,hM72,hcc72,hfr72⟩:=Kd.R_elem HX72.out z47 (t20 : Int) (of_decide_eq_true (by first | (with_reducible assumption) | assumption)) (by have h_ : (t20 : Int) < ((x5_15.length : Int) : Int):=of_decide_eq_true (by first | (with_reducible assumption) | assumption);first | exact h_ | (have e_:=(Kd.R_reads' HO_5.out).1;omega) | simpa using h_);obtain rfl:=k47_openM hM72;have HP72:=Kd.R_seg HX72.out (t20 : Int) (of_decide_eq_true (by first | (with_reducible assumption) | assumption)) (by have h_ : (t20 : Int) < ((x5_15.length : Int) : Int):=of_decide_eq_true (by first | (with_reducible assumption) | assumption);first | exact h_ | (have e_:=(Kd.R_reads' HO_5.out).1;omega) | simpa using h_) (seg:=[.int .i64 t33]) (j:=2) hcl72 hcc72 (show 3 ≤ 4 from by decide) (x':=(⟨(rd_T47 x5_15 t20).f0,(rd_T47 x5_15 t20).f1,t33,(rd_T47 x5_15 t20).f3⟩ : S47)) (k47_mkM _ _ _ (⟨(rd_T47 x5_15 t20).f0,(rd_T47 x5_15 t20).f1,t33,(rd_T47 x5_15 t20).f3⟩ : S47) ) (fun _ hk=>hk);have hx72_2:=hcc72 2 _ rfl;(try simp only [show (k47).sz = 4 from rfl,Nat.mul_one,Nat.add_zero] at hx72_2);have hf72_2:=hfr72 2;(try simp only [show (k47).sz = 4 from rfl,Nat.mul_one,Nat.add_zero] at hf72_2);clear hcl72 hcc72 hfr72 hM72) | ((with_reducible refine gate_store (t:=3) (p:=65) rfl ?_);refine store_event (t:=3) (p:=65) (v:=?vo_w73) (w1:=(w71.setCell ⟨go64,(t20 : Int).toNat * 4 + 2,none⟩ (.int .i64 t33))) ?hg ?ho ?hn ?hr ?_;(case ho=>rfl);(case hg=>rfl);(case hn=>rfl);(case hr=>first | (go_simp;done) | (go_simp;rfl));intro w73 hw;have hg : w71.grownBy w73 (some go64):=(by rw [hw];exact HP72.2);have hp_ : Kd.R k47 47 w73 w.heap.size (fun _=>True) (.slice (some ⟨go64,0,none⟩) x5_15.length co65) y35:=(by rw [hw,Ny35.out];exact HP72.1);clear HP72;have n0_:=a0_ (hp_);have n1_:=a0_ (Kd.R_over' (v:=(.slice (some ⟨go64,0,none⟩) x5_15.length co65)) (rr_ Z7.out) (Kd.R_typed HO_5.out) (by decide) hg);have n2_:=a0_ (blk_grown (bb_ BK1.out) hg (Kd.R_ne HO_5.out BK1.out (by decide)));have n3_:=a0_ (blk_grown (bb_ BK6.out) hg (Kd.R_ne HO_5.out BK6.out (by decide)));have n4_:=a0_ (IsS81.grown is0_ hg (IsS81.own_ne HI0.out HO_5.out (by decide)));have n5_:=a0_ (Kd.R_over' (v:=(.slice (some ⟨go64,0,none⟩) x5_15.length co65)) (rr_ HO32.out) (Kd.R_typed HO_5.out) (by decide) hg);have n6_:=a0_ ((by rw [hw];exact below_set (HB.out) (Nat.le_trans HL.out GB64.out) : Below w0.heap.size w0 w73));have n7_:=a0_ (KeepBut.trans (w:=w) hk_ (KeepBut.of_grown hg g) (Kd.R_base2 HO_5.out));clear HO_5 Z7;clear BK1 BK6;clear HI0 HO32;clear HB HK;have HO_5:=n0_;have Z7:=n1_;have BK1:=n2_;have BK6:=n3_;have HI0:=n4_;have HO32:=n5_;have HB:=n6_;have HK:=n7_;clear n0_ n1_ n2_ n3_ n4_ n5_ n6_ n7_;clear hg hw hp_;have hnb74:=NB6_1.out;have hnc74:=NB1_6.out;have hnb75:=NB6_0.out;have hnc75:=NB0_6.out;have hcz76_0 : w73.cell? ⟨gb6,0,none⟩ = some (.slice Ao20 t2.length co20):=(blk_cell BK6.out 0).trans rfl;have hfz76_0:=blk_frozen BK6.out 0;have hnb77:=NB1_0.out;have hnc77:=NB0_1.out;have hcz78_0 : w73.cell? ⟨gb1,0,none⟩ = some (.slice none 0 0):=(blk_cell BK1.out 0).trans rfl;have hfz78_0:=blk_frozen BK1.out 0))
        refine bodyPost_ret (results_ct rfl _ _ gb1 25 #[.slice Ao20 t2.length co20] (0,0) _ rfl (by (with_reducible repeat (first | refine blk_drewN ?_ _ | refine blk_drew ?_ | refine blk_alloc ?_ _));refine blk_put (cs:=#[.slice none 0 0]) ?_ 0 _ rfl;(with_reducible repeat (first | refine blk_drewN ?_ _ | refine blk_drew ?_ | refine blk_alloc ?_ _));exact BK1.out) Try.underlying25 rfl (by kernel_rfl)) rfl ?_
        exact ⟨_,_,by first | rfl | (simp [errW_none,errW_some] <;> rfl) | (simp [*,errW_none,errW_some] <;> rfl),by (with_reducible repeat (first | apply Kd.R_alloc | apply Kd.R_drewN | apply Kd.R_drew));exact Kd.R_mono (Kd.R_far (p:=⟨gb1,0,none⟩) (Kd.R_types Z7.out BK1.out (by decide)) (fun _ hk=>hk.2) (.slice Ao20 t2.length co20)) (fun _ hk=>trivial),by (with_reducible repeat (first | apply Kd.R_alloc | apply Kd.R_drewN | apply Kd.R_drew));exact Kd.R_mono (Kd.R_far (p:=⟨gb1,0,none⟩) (Kd.R_types HO_5.out BK1.out (by decide)) (fun _ hk=>hk.2) (.slice Ao20 t2.length co20)) (fun _ hk=>trivial),is0_,hbi0_,hk_⟩
       ·rw [if_neg c63] at H
        exact absurd H (by simp)
      ·rw [if_neg c62] at H
       exact absurd H (by simp)
     ·rw [if_neg c60] at H
      have c60b0 : (t22 == 1) = false:=beq_eq_false_iff_ne.mpr c60
      have c60b1 : (t22 != 1) = true:=bne_iff_ne.mpr c60
      by_cases c79 : t22 = 2
      ·rw [if_pos c79] at H
       have c79b0 : (t22 == 2) = true:=beq_iff_eq.mpr c79
       have c79b1 : (t22 != 2) = false:=bne_eq_false_iff_eq.mpr c79
       clear c79
       obtain ⟨y36,hy36⟩ : ∃ y_ : List Int,y_ = (([(-1),100] : List Int)):=⟨_,rfl⟩
       replace H : ((spec_reader_one.f kj15 s0_0 t23 y36).bind fun bt39=>(if 0 ≤ t20 then (if t20 < (x5_15.length : Int) then (some (t2,(x5_15.set (t20 : Int).toNat (⟨(rd_T47 x5_15 t20).f0,(rd_T47 x5_15 t20).f1,(rd_T47 x5_15 t20).f2,bt39.1⟩ : S47)),bt39.2)) else (none)) else (none))) = some (r1,r2,r3):=by first | (rw [hy36];with_reducible exact H) | (have H2_:=(Option.bind_some _ _).symm.trans H;rw [hy36];with_reducible exact H2_) | (have H2_:=(Option.bind_some _ _).symm.trans H;with_reducible exact H2_) | with_reducible exact H | (rw [hy36];exact H) | exact H
       have Ny36:=a0_ hy36
       clear hy36
       replace H:=Option.bind_eq_some_iff.mp H
       obtain ⟨⟨t39,t40⟩,A800,H⟩:=H
       try dsimp only at H
       have A80:=a0_ A800
       clear A800
       by_cases c81 : 0 ≤ t20
       ·rw [if_pos c81] at H
        have c81b0 : decide (0 ≤ t20) = true:=decide_eq_true c81
        clear c81
        by_cases c82 : t20 < (x5_15.length : Int)
        ·rw [if_pos c82] at H
         have c82b0 : decide (t20 < (x5_15.length : Int)) = true:=decide_eq_true c82
         clear c82
         obtain ⟨y41,hy41⟩ : ∃ y_ : List (S47),y_ = (x5_15.set (t20 : Int).toNat (⟨(rd_T47 x5_15 t20).f0,(rd_T47 x5_15 t20).f1,(rd_T47 x5_15 t20).f2,t39⟩ : S47)):=⟨_,rfl⟩
         replace H : (some (t2,y41,t40)) = some (r1,r2,r3):=by first | (rw [hy41];with_reducible exact H) | (have H2_:=(Option.bind_some _ _).symm.trans H;rw [hy41];with_reducible exact H2_) | (have H2_:=(Option.bind_some _ _).symm.trans H;with_reducible exact H2_) | with_reducible exact H | (rw [hy41];exact H) | exact H
         have Ny41:=a0_ hy41
         clear hy41
         simp only [Option.some.injEq,Prod.mk.injEq] at H
         obtain ⟨rfl,rfl,rfl⟩:=H
         obtain ⟨Ao84,co84,eo84⟩:=Kd.R_slice HO_5.out
         subst eo84
         go_wp2_with (first | ((with_reducible refine gate_callee (f:=63) rfl ?_);refine goesL_ (some 45) rfl rfl Try.func63 (by kernel_rfl) rfl #[.pointer (some ⟨g,0,none⟩),.int .i64 (x5_15.length : Int)] rfl lm_ ?_;(with_reducible refine (spec_reader_pick.calls kj15 g s0_0 x1001_15 (x5_15.length : Int) t20 t21 w0 _ ?side1 ?side2 A39.out).mono ?_);(case side1=>exact is0_);(case side2=>exact hbi0_);rintro e w85 ⟨rfl,hi,hb,hk⟩;refine ⟨_,rfl,?_⟩;replace HO_5:=a0_ (Kd.R_mono (Kd.R_keep (IsS81.apart (is0_ : IsS81 w0 _ g s0_0 x1001_15) (rr_ HO_5.out) (by decide)) hk (fun _ h=>h.2)) (fun _ h=>h.1));replace Z7:=a0_ (Kd.R_mono (Kd.R_keep (IsS81.apart (is0_ : IsS81 w0 _ g s0_0 x1001_15) (rr_ Z7.out) (by decide)) hk (fun _ h=>h.2)) (fun _ h=>h.1));replace BK1:=kk_ hk BK1 NB1_0;replace BK6:=kk_ hk BK6 NB6_0;replace HK:=a0_ (KeepBut.trans (w:=w) hk_ hk (.inl rfl));replace HI0:=a0_ (hi);replace HB:=a0_ (hb);(try clear hb);(try clear hb2);(try clear hk);(try clear hi)) | ((with_reducible refine gate_callee (f:=63) rfl ?_);refine goesL_ (some 47) rfl rfl Try.func63 (by kernel_rfl) rfl #[.pointer (some ⟨g,0,none⟩),.int .i64 24] rfl lm_ ?_;(with_reducible refine (spec_reader_pick.calls kj15 g s0_0 t21 24 t22 t23 w0 _ ?side1 ?side2 A40.out).mono ?_);(case side1=>exact is0_);(case side2=>exact hbi0_);rintro e w86 ⟨rfl,hi,hb,hk⟩;refine ⟨_,rfl,?_⟩;replace HO_5:=a0_ (Kd.R_mono (Kd.R_keep (IsS81.apart (is0_ : IsS81 w0 _ g s0_0 t21) (rr_ HO_5.out) (by decide)) hk (fun _ h=>h.2)) (fun _ h=>h.1));replace Z7:=a0_ (Kd.R_mono (Kd.R_keep (IsS81.apart (is0_ : IsS81 w0 _ g s0_0 t21) (rr_ Z7.out) (by decide)) hk (fun _ h=>h.2)) (fun _ h=>h.1));replace BK1:=kk_ hk BK1 NB1_0;replace BK6:=kk_ hk BK6 NB6_0;replace HK:=a0_ (KeepBut.trans (w:=w) hk_ hk (.inl rfl));replace HI0:=a0_ (hi);replace HB:=a0_ (hb);(try clear hb);(try clear hb2);(try clear hk);(try clear hi)) | ((with_reducible refine gate_dst (N:=71) rfl ?_);refine Kd.R_lit (Kd.int .i64) _ 3 ?hg (N:=71) ?hd (xs:=([(-1),100] : List Int)) (inner:=[.int .i64 (-1),.int .i64 100]) (ok:=fun _=>True) (okp:=fun _=>True) ?hr ?hp (fun _ hk=>hk) trivial (Below.refl _ _) (Nat.le_refl _) (by simp) ?_;(case hd=>rfl);(case hg=>rfl);(case hr=>first | (go_simp;done) | (go_simp;rfl));(case hp=>exact (Reps.one (show Kd.M (Kd.int .i64) _ _ _ (-1) [.int .i64 (-1)] from rfl) (Reps.one (show Kd.M (Kd.int .i64) _ _ _ 100 [.int .i64 100] from rfl) (Reps.none _ _))));intro v37 w87 ho88 hb hg_ hnew_;clear hg_ hnew_;(first | rw [← Ny36.out] at ho88 | (simp only [Int.reduceToNat] at ho88;rw [← Ny36.out] at ho88));have n0_:=rb_ HO_5 hb;have n1_:=rb_ Z7 hb;have n2_:=a0_ (Kd.R_lower ho88 (keep_size (w:=w) (g:=g) (row:=none) hk_));have n3_:=kb_ BK1 hb;have n4_:=kb_ BK6 hb;have n5_:=a0_ (IsS81.below is0_ hb);have n6_:=a0_ (KeepBut.trans (w:=w) hk_ (KeepBut.of_below hb g none) (.inl rfl));have n7_:=a0_ (below_step hbi0_ hb);clear HO_5 Z7;clear BK1 BK6;clear HI0 HK HB;have HO_5:=n0_;have Z7:=n1_;have HO38:=n2_;have BK1:=n3_;have BK6:=n4_;have HI0:=n5_;have HK:=n6_;have HB:=n7_;clear n0_ n1_ n2_ n3_ n4_ n5_ n6_ n7_;clear hb ho88;obtain ⟨Ao89,co89,eo89⟩:=Kd.R_slice HO38.out;subst eo89) | ((with_reducible refine gate_callee (f:=64) rfl ?_);refine goesL_ (some 72) rfl rfl Try.func64 (by kernel_rfl) rfl #[.pointer (some ⟨g,0,none⟩),.slice Ao89 y36.length co89] rfl lm_ ?_;(with_reducible refine (spec_reader_one.calls kj15 g s0_0 t23 _ _ y36 t39 t40 w0 _ ?side1 ?side2 ?side3 ?side4 ?side5 A80.out).mono ?_);(case side1=>exact is0_);(case side2=>exact hbi0_);(case side3=>exact cc_ (Kd.R_reads' HO38.out).2.2);(case side4=>exact (Kd.R_reads' HO38.out).2.1);(case side5=>exact far_slice (IsS81.own_ne HI0.out HO38.out (by decide)));rintro e w90 ⟨rfl,hi,hb,hk⟩;refine ⟨_,rfl,?_⟩;replace HO_5:=a0_ (Kd.R_mono (Kd.R_keep (IsS81.apart (is0_ : IsS81 w0 _ g s0_0 t23) (rr_ HO_5.out) (by decide)) hk (fun _ h=>h.2)) (fun _ h=>h.1));replace Z7:=a0_ (Kd.R_mono (Kd.R_keep (IsS81.apart (is0_ : IsS81 w0 _ g s0_0 t23) (rr_ Z7.out) (by decide)) hk (fun _ h=>h.2)) (fun _ h=>h.1));replace BK1:=kk_ hk BK1 NB1_0;replace BK6:=kk_ hk BK6 NB6_0;replace HO38:=a0_ (Kd.R_mono (Kd.R_keep (IsS81.apart (is0_ : IsS81 w0 _ g s0_0 t23) (rr_ HO38.out) (by decide)) hk (fun _ h=>h.2)) (fun _ h=>h.1));replace HK:=a0_ (KeepBut.trans (w:=w) hk_ hk (.inl rfl));replace HI0:=a0_ (hi);replace HB:=a0_ (hb);(try clear hb);have p83 : 0 ≤ (t20 : Int):=of_decide_eq_true (by first | (with_reducible assumption) | assumption);have q83 : (t20 : Int) < ((x5_15.length : Int) : Int):=of_decide_eq_true (by first | (with_reducible assumption) | assumption);obtain ⟨go83,co83,eo83,gb83,gl83,cl83,HG83⟩:=Kd.R_form HO_5.out (by omega);(first | cases eo83 | (injection eo83 with ea_ en_ ec_;(first | subst ea_ | (injection ea_ with ea_;subst ea_));subst ec_;clear en_));have GB83:=a0_ gb83;have GG83:=a0_ HG83;clear gb83 gl83 HG83;obtain ⟨ce83,hcl83,hM83,hcc83,hfr83⟩:=Kd.R_elem HO_5.out z47 (t20 : Int) p83 q83;obtain rfl:=k47_openM hM83;have hx83_0 : w90.cell? ⟨go83,(t20 : Int).toNat * 4,none⟩ = some (.int .i64 ((rd_T47 x5_15 t20).f0)):=hcc83 0 _ rfl;have hx83_1 : w90.cell? ⟨go83,(t20 : Int).toNat * 4 + 1,none⟩ = some (.bool ((rd_T47 x5_15 t20).f1)):=hcc83 1 _ rfl;have hx83_2 : w90.cell? ⟨go83,(t20 : Int).toNat * 4 + 2,none⟩ = some (.int .i64 ((rd_T47 x5_15 t20).f2)):=hcc83 2 _ rfl;have hx83_3 : w90.cell? ⟨go83,(t20 : Int).toNat * 4 + 3,none⟩ = some (.int .i64 ((rd_T47 x5_15 t20).f3)):=hcc83 3 _ rfl;have hf83_0 : w90.frozen? ⟨go83,(t20 : Int).toNat * 4,none⟩ = false:=hfr83 0;have hf83_1 : w90.frozen? ⟨go83,(t20 : Int).toNat * 4 + 1,none⟩ = false:=hfr83 1;have hf83_2 : w90.frozen? ⟨go83,(t20 : Int).toNat * 4 + 2,none⟩ = false:=hfr83 2;have hf83_3 : w90.frozen? ⟨go83,(t20 : Int).toNat * 4 + 3,none⟩ = false:=hfr83 3;clear hcl83 hcc83 hfr83 hM83;replace p83:=eq_true p83;replace q83:=eq_true q83;have HX91:=a0_ (show Kd.R k47 47 w90 w.heap.size (fun _=>True) (.slice (some ⟨go83,0,none⟩) x5_15.length co84) x5_15 from (rr_ HO_5.out));obtain ⟨ce91,hcl91,hM91,hcc91,hfr91⟩:=Kd.R_elem HX91.out z47 (t20 : Int) (of_decide_eq_true (by first | (with_reducible assumption) | assumption)) (by have h_ : (t20 : Int) < ((x5_15.length : Int) : Int):=of_decide_eq_true (by first | (with_reducible assumption) | assumption);first | exact h_ | (have e_:=(Kd.R_reads' HO_5.out).1;omega) | simpa using h_);obtain rfl:=k47_openM hM91;have HP91:=Kd.R_seg HX91.out (t20 : Int) (of_decide_eq_true (by first | (with_reducible assumption) | assumption)) (by have h_ : (t20 : Int) < ((x5_15.length : Int) : Int):=of_decide_eq_true (by first | (with_reducible assumption) | assumption);first | exact h_ | (have e_:=(Kd.R_reads' HO_5.out).1;omega) | simpa using h_) (seg:=[.int .i64 t39]) (j:=3) hcl91 hcc91 (show 4 ≤ 4 from by decide) (x':=(⟨(rd_T47 x5_15 t20).f0,(rd_T47 x5_15 t20).f1,(rd_T47 x5_15 t20).f2,t39⟩ : S47)) (k47_mkM _ _ _ (⟨(rd_T47 x5_15 t20).f0,(rd_T47 x5_15 t20).f1,(rd_T47 x5_15 t20).f2,t39⟩ : S47) ) (fun _ hk=>hk);have hx91_3:=hcc91 3 _ rfl;(try simp only [show (k47).sz = 4 from rfl,Nat.mul_one,Nat.add_zero] at hx91_3);have hf91_3:=hfr91 3;(try simp only [show (k47).sz = 4 from rfl,Nat.mul_one,Nat.add_zero] at hf91_3);clear hcl91 hcc91 hfr91 hM91) | ((with_reducible refine gate_store (t:=3) (p:=74) rfl ?_);refine store_event (t:=3) (p:=74) (v:=?vo_w92) (w1:=(w90.setCell ⟨go83,(t20 : Int).toNat * 4 + 3,none⟩ (.int .i64 t39))) ?hg ?ho ?hn ?hr ?_;(case ho=>rfl);(case hg=>rfl);(case hn=>rfl);(case hr=>first | (go_simp;done) | (go_simp;rfl));intro w92 hw;have hg : w90.grownBy w92 (some go83):=(by rw [hw];exact HP91.2);have hp_ : Kd.R k47 47 w92 w.heap.size (fun _=>True) (.slice (some ⟨go83,0,none⟩) x5_15.length co84) y41:=(by rw [hw,Ny41.out];exact HP91.1);clear HP91;have n0_:=a0_ (hp_);have n1_:=a0_ (Kd.R_over' (v:=(.slice (some ⟨go83,0,none⟩) x5_15.length co84)) (rr_ Z7.out) (Kd.R_typed HO_5.out) (by decide) hg);have n2_:=a0_ (blk_grown (bb_ BK1.out) hg (Kd.R_ne HO_5.out BK1.out (by decide)));have n3_:=a0_ (blk_grown (bb_ BK6.out) hg (Kd.R_ne HO_5.out BK6.out (by decide)));have n4_:=a0_ (IsS81.grown is0_ hg (IsS81.own_ne HI0.out HO_5.out (by decide)));have n5_:=a0_ (Kd.R_over' (v:=(.slice (some ⟨go83,0,none⟩) x5_15.length co84)) (rr_ HO38.out) (Kd.R_typed HO_5.out) (by decide) hg);have n6_:=a0_ ((by rw [hw];exact below_set (HB.out) (Nat.le_trans HL.out GB83.out) : Below w0.heap.size w0 w92));have n7_:=a0_ (KeepBut.trans (w:=w) hk_ (KeepBut.of_grown hg g) (Kd.R_base2 HO_5.out));clear HO_5 Z7;clear BK1 BK6;clear HI0 HO38;clear HB HK;have HO_5:=n0_;have Z7:=n1_;have BK1:=n2_;have BK6:=n3_;have HI0:=n4_;have HO38:=n5_;have HB:=n6_;have HK:=n7_;clear n0_ n1_ n2_ n3_ n4_ n5_ n6_ n7_;clear hg hw hp_;have hnb93:=NB6_1.out;have hnc93:=NB1_6.out;have hnb94:=NB6_0.out;have hnc94:=NB0_6.out;have hcz95_0 : w92.cell? ⟨gb6,0,none⟩ = some (.slice Ao20 t2.length co20):=(blk_cell BK6.out 0).trans rfl;have hfz95_0:=blk_frozen BK6.out 0;have hnb96:=NB1_0.out;have hnc96:=NB0_1.out;have hcz97_0 : w92.cell? ⟨gb1,0,none⟩ = some (.slice none 0 0):=(blk_cell BK1.out 0).trans rfl;have hfz97_0:=blk_frozen BK1.out 0))
         refine bodyPost_ret (results_ct rfl _ _ gb1 25 #[.slice Ao20 t2.length co20] (0,0) _ rfl (by (with_reducible repeat (first | refine blk_drewN ?_ _ | refine blk_drew ?_ | refine blk_alloc ?_ _));refine blk_put (cs:=#[.slice none 0 0]) ?_ 0 _ rfl;(with_reducible repeat (first | refine blk_drewN ?_ _ | refine blk_drew ?_ | refine blk_alloc ?_ _));exact BK1.out) Try.underlying25 rfl (by kernel_rfl)) rfl ?_
         exact ⟨_,_,by first | rfl | (simp [errW_none,errW_some] <;> rfl) | (simp [*,errW_none,errW_some] <;> rfl),by (with_reducible repeat (first | apply Kd.R_alloc | apply Kd.R_drewN | apply Kd.R_drew));exact Kd.R_mono (Kd.R_far (p:=⟨gb1,0,none⟩) (Kd.R_types Z7.out BK1.out (by decide)) (fun _ hk=>hk.2) (.slice Ao20 t2.length co20)) (fun _ hk=>trivial),by (with_reducible repeat (first | apply Kd.R_alloc | apply Kd.R_drewN | apply Kd.R_drew));exact Kd.R_mono (Kd.R_far (p:=⟨gb1,0,none⟩) (Kd.R_types HO_5.out BK1.out (by decide)) (fun _ hk=>hk.2) (.slice Ao20 t2.length co20)) (fun _ hk=>trivial),is0_,hbi0_,hk_⟩
        ·rw [if_neg c82] at H
         exact absurd H (by simp)
       ·rw [if_neg c81] at H
        exact absurd H (by simp)
      ·rw [if_neg c79] at H
       have c79b0 : (t22 == 2) = false:=beq_eq_false_iff_ne.mpr c79
       have c79b1 : (t22 != 2) = true:=bne_iff_ne.mpr c79
       by_cases c98 : t22 = 3
       ·rw [if_pos c98] at H
        have c98b0 : (t22 == 3) = true:=beq_iff_eq.mpr c98
        have c98b1 : (t22 != 3) = false:=bne_eq_false_iff_eq.mpr c98
        clear c98
        by_cases c99 : 0 ≤ t20
        ·rw [if_pos c99] at H
         have c99b0 : decide (0 ≤ t20) = true:=decide_eq_true c99
         clear c99
         by_cases c100 : t20 < (x5_15.length : Int)
         ·rw [if_pos c100] at H
          have c100b0 : decide (t20 < (x5_15.length : Int)) = true:=decide_eq_true c100
          clear c100
          obtain ⟨y43,hy43⟩ : ∃ y_ : List (S47),y_ = (x5_15.set (t20 : Int).toNat (⟨(rd_T47 x5_15 t20).f0,!((rd_T47 x5_15 t20).f1),(rd_T47 x5_15 t20).f2,(rd_T47 x5_15 t20).f3⟩ : S47)):=⟨_,rfl⟩
          replace H : (some (t2,y43,t23)) = some (r1,r2,r3):=by first | (rw [hy43];with_reducible exact H) | (have H2_:=(Option.bind_some _ _).symm.trans H;rw [hy43];with_reducible exact H2_) | (have H2_:=(Option.bind_some _ _).symm.trans H;with_reducible exact H2_) | with_reducible exact H | (rw [hy43];exact H) | exact H
          have Ny43:=a0_ hy43
          clear hy43
          simp only [Option.some.injEq,Prod.mk.injEq] at H
          obtain ⟨rfl,rfl,rfl⟩:=H
          obtain ⟨Ao102,co102,eo102⟩:=Kd.R_slice HO_5.out
          subst eo102
          go_wp2_with (first | ((with_reducible refine gate_callee (f:=63) rfl ?_);refine goesL_ (some 45) rfl rfl Try.func63 (by kernel_rfl) rfl #[.pointer (some ⟨g,0,none⟩),.int .i64 (x5_15.length : Int)] rfl lm_ ?_;(with_reducible refine (spec_reader_pick.calls kj15 g s0_0 x1001_15 (x5_15.length : Int) t20 t21 w0 _ ?side1 ?side2 A39.out).mono ?_);(case side1=>exact is0_);(case side2=>exact hbi0_);rintro e w103 ⟨rfl,hi,hb,hk⟩;refine ⟨_,rfl,?_⟩;replace HO_5:=a0_ (Kd.R_mono (Kd.R_keep (IsS81.apart (is0_ : IsS81 w0 _ g s0_0 x1001_15) (rr_ HO_5.out) (by decide)) hk (fun _ h=>h.2)) (fun _ h=>h.1));replace Z7:=a0_ (Kd.R_mono (Kd.R_keep (IsS81.apart (is0_ : IsS81 w0 _ g s0_0 x1001_15) (rr_ Z7.out) (by decide)) hk (fun _ h=>h.2)) (fun _ h=>h.1));replace BK1:=kk_ hk BK1 NB1_0;replace BK6:=kk_ hk BK6 NB6_0;replace HK:=a0_ (KeepBut.trans (w:=w) hk_ hk (.inl rfl));replace HI0:=a0_ (hi);replace HB:=a0_ (hb);(try clear hb);(try clear hb2);(try clear hk);(try clear hi)) | ((with_reducible refine gate_callee (f:=63) rfl ?_);refine goesL_ (some 47) rfl rfl Try.func63 (by kernel_rfl) rfl #[.pointer (some ⟨g,0,none⟩),.int .i64 24] rfl lm_ ?_;(with_reducible refine (spec_reader_pick.calls kj15 g s0_0 t21 24 t22 t23 w0 _ ?side1 ?side2 A40.out).mono ?_);(case side1=>exact is0_);(case side2=>exact hbi0_);rintro e w104 ⟨rfl,hi,hb,hk⟩;refine ⟨_,rfl,?_⟩;replace HO_5:=a0_ (Kd.R_mono (Kd.R_keep (IsS81.apart (is0_ : IsS81 w0 _ g s0_0 t21) (rr_ HO_5.out) (by decide)) hk (fun _ h=>h.2)) (fun _ h=>h.1));replace Z7:=a0_ (Kd.R_mono (Kd.R_keep (IsS81.apart (is0_ : IsS81 w0 _ g s0_0 t21) (rr_ Z7.out) (by decide)) hk (fun _ h=>h.2)) (fun _ h=>h.1));replace BK1:=kk_ hk BK1 NB1_0;replace BK6:=kk_ hk BK6 NB6_0;replace HK:=a0_ (KeepBut.trans (w:=w) hk_ hk (.inl rfl));replace HI0:=a0_ (hi);replace HB:=a0_ (hb);(try clear hb);have p42 : 0 ≤ (t20 : Int):=of_decide_eq_true (by first | (with_reducible assumption) | assumption);have q42 : t20 < (x5_15.length : Int):=of_decide_eq_true (by first | (with_reducible assumption) | assumption);obtain ⟨ad42,e42,hx42_0,hx42_1,hx42_2,hx42_3⟩:=at_T47 (Kd.R_reads' HO_5.out).2.2 t20 p42 q42;cases e42;replace p42:=eq_true p42;replace q42:=eq_true q42;have p101 : 0 ≤ (t20 : Int):=of_decide_eq_true (by first | (with_reducible assumption) | assumption);have q101 : (t20 : Int) < ((x5_15.length : Int) : Int):=of_decide_eq_true (by first | (with_reducible assumption) | assumption);obtain ⟨go101,co101,eo101,gb101,gl101,cl101,HG101⟩:=Kd.R_form HO_5.out (by omega);(first | cases eo101 | (injection eo101 with ea_ en_ ec_;(first | subst ea_ | (injection ea_ with ea_;subst ea_));subst ec_;clear en_));have GB101:=a0_ gb101;have GG101:=a0_ HG101;clear gb101 gl101 HG101;(first | simp only [add_plain] at hx42_0 | skip);(first | simp only [add_plain] at hx42_1 | skip);(first | simp only [add_plain] at hx42_2 | skip);(first | simp only [add_plain] at hx42_3 | skip);obtain ⟨ce101,hcl101,hM101,hcc101,hfr101⟩:=Kd.R_elem HO_5.out z47 (t20 : Int) p101 q101;obtain rfl:=k47_openM hM101;have hx101_0 : w104.cell? ⟨go101,(t20 : Int).toNat * 4,none⟩ = some (.int .i64 ((rd_T47 x5_15 t20).f0)):=hcc101 0 _ rfl;have hx101_1 : w104.cell? ⟨go101,(t20 : Int).toNat * 4 + 1,none⟩ = some (.bool ((rd_T47 x5_15 t20).f1)):=hcc101 1 _ rfl;have hx101_2 : w104.cell? ⟨go101,(t20 : Int).toNat * 4 + 2,none⟩ = some (.int .i64 ((rd_T47 x5_15 t20).f2)):=hcc101 2 _ rfl;have hx101_3 : w104.cell? ⟨go101,(t20 : Int).toNat * 4 + 3,none⟩ = some (.int .i64 ((rd_T47 x5_15 t20).f3)):=hcc101 3 _ rfl;have hf101_0 : w104.frozen? ⟨go101,(t20 : Int).toNat * 4,none⟩ = false:=hfr101 0;have hf101_1 : w104.frozen? ⟨go101,(t20 : Int).toNat * 4 + 1,none⟩ = false:=hfr101 1;have hf101_2 : w104.frozen? ⟨go101,(t20 : Int).toNat * 4 + 2,none⟩ = false:=hfr101 2;have hf101_3 : w104.frozen? ⟨go101,(t20 : Int).toNat * 4 + 3,none⟩ = false:=hfr101 3;clear hcl101 hcc101 hfr101 hM101;replace p101:=eq_true p101;replace q101:=eq_true q101;have HX105:=a0_ (show Kd.R k47 47 w104 w.heap.size (fun _=>True) (.slice (some ⟨go101,0,none⟩) x5_15.length co102) x5_15 from (rr_ HO_5.out));obtain ⟨ce105,hcl105,hM105,hcc105,hfr105⟩:=Kd.R_elem HX105.out z47 (t20 : Int) (of_decide_eq_true (by first | (with_reducible assumption) | assumption)) (by have h_ : (t20 : Int) < ((x5_15.length : Int) : Int):=of_decide_eq_true (by first | (with_reducible assumption) | assumption);first | exact h_ | (have e_:=(Kd.R_reads' HO_5.out).1;omega) | simpa using h_);obtain rfl:=k47_openM hM105;have HP105:=Kd.R_seg HX105.out (t20 : Int) (of_decide_eq_true (by first | (with_reducible assumption) | assumption)) (by have h_ : (t20 : Int) < ((x5_15.length : Int) : Int):=of_decide_eq_true (by first | (with_reducible assumption) | assumption);first | exact h_ | (have e_:=(Kd.R_reads' HO_5.out).1;omega) | simpa using h_) (seg:=[.bool (!((rd_T47 x5_15 t20).f1))]) (j:=1) hcl105 hcc105 (show 2 ≤ 4 from by decide) (x':=(⟨(rd_T47 x5_15 t20).f0,!((rd_T47 x5_15 t20).f1),(rd_T47 x5_15 t20).f2,(rd_T47 x5_15 t20).f3⟩ : S47)) (k47_mkM _ _ _ (⟨(rd_T47 x5_15 t20).f0,!((rd_T47 x5_15 t20).f1),(rd_T47 x5_15 t20).f2,(rd_T47 x5_15 t20).f3⟩ : S47) ) (fun _ hk=>hk);have hx105_1:=hcc105 1 _ rfl;(try simp only [show (k47).sz = 4 from rfl,Nat.mul_one,Nat.add_zero] at hx105_1);have hf105_1:=hfr105 1;(try simp only [show (k47).sz = 4 from rfl,Nat.mul_one,Nat.add_zero] at hf105_1);clear hcl105 hcc105 hfr105 hM105) | ((with_reducible refine gate_store (t:=4) (p:=86) rfl ?_);refine store_event (t:=4) (p:=86) (v:=?vo_w106) (w1:=(w104.setCell ⟨go101,(t20 : Int).toNat * 4 + 1,none⟩ (.bool (!((rd_T47 x5_15 t20).f1))))) ?hg ?ho ?hn ?hr ?_;(case ho=>rfl);(case hg=>rfl);(case hn=>rfl);(case hr=>first | (go_simp;done) | (go_simp;rfl));intro w106 hw;have hg : w104.grownBy w106 (some go101):=(by rw [hw];exact HP105.2);have hp_ : Kd.R k47 47 w106 w.heap.size (fun _=>True) (.slice (some ⟨go101,0,none⟩) x5_15.length co102) y43:=(by rw [hw,Ny43.out];exact HP105.1);clear HP105;have n0_:=a0_ (hp_);have n1_:=a0_ (Kd.R_over' (v:=(.slice (some ⟨go101,0,none⟩) x5_15.length co102)) (rr_ Z7.out) (Kd.R_typed HO_5.out) (by decide) hg);have n2_:=a0_ (blk_grown (bb_ BK1.out) hg (Kd.R_ne HO_5.out BK1.out (by decide)));have n3_:=a0_ (blk_grown (bb_ BK6.out) hg (Kd.R_ne HO_5.out BK6.out (by decide)));have n4_:=a0_ (IsS81.grown is0_ hg (IsS81.own_ne HI0.out HO_5.out (by decide)));have n5_:=a0_ ((by rw [hw];exact below_set (HB.out) (Nat.le_trans HL.out GB101.out) : Below w0.heap.size w0 w106));have n6_:=a0_ (KeepBut.trans (w:=w) hk_ (KeepBut.of_grown hg g) (Kd.R_base2 HO_5.out));clear HO_5 Z7;clear BK1 BK6;clear HI0 HB HK;have HO_5:=n0_;have Z7:=n1_;have BK1:=n2_;have BK6:=n3_;have HI0:=n4_;have HB:=n5_;have HK:=n6_;clear n0_ n1_ n2_ n3_ n4_ n5_ n6_;clear hg hw hp_;have hnb107:=NB6_1.out;have hnc107:=NB1_6.out;have hnb108:=NB6_0.out;have hnc108:=NB0_6.out;have hcz109_0 : w106.cell? ⟨gb6,0,none⟩ = some (.slice Ao20 t2.length co20):=(blk_cell BK6.out 0).trans rfl;have hfz109_0:=blk_frozen BK6.out 0;have hnb110:=NB1_0.out;have hnc110:=NB0_1.out;have hcz111_0 : w106.cell? ⟨gb1,0,none⟩ = some (.slice none 0 0):=(blk_cell BK1.out 0).trans rfl;have hfz111_0:=blk_frozen BK1.out 0))
          refine bodyPost_ret (results_ct rfl _ _ gb1 25 #[.slice Ao20 t2.length co20] (0,0) _ rfl (by (with_reducible repeat (first | refine blk_drewN ?_ _ | refine blk_drew ?_ | refine blk_alloc ?_ _));refine blk_put (cs:=#[.slice none 0 0]) ?_ 0 _ rfl;(with_reducible repeat (first | refine blk_drewN ?_ _ | refine blk_drew ?_ | refine blk_alloc ?_ _));exact BK1.out) Try.underlying25 rfl (by kernel_rfl)) rfl ?_
          exact ⟨_,_,by first | rfl | (simp [errW_none,errW_some] <;> rfl) | (simp [*,errW_none,errW_some] <;> rfl),by (with_reducible repeat (first | apply Kd.R_alloc | apply Kd.R_drewN | apply Kd.R_drew));exact Kd.R_mono (Kd.R_far (p:=⟨gb1,0,none⟩) (Kd.R_types Z7.out BK1.out (by decide)) (fun _ hk=>hk.2) (.slice Ao20 t2.length co20)) (fun _ hk=>trivial),by (with_reducible repeat (first | apply Kd.R_alloc | apply Kd.R_drewN | apply Kd.R_drew));exact Kd.R_mono (Kd.R_far (p:=⟨gb1,0,none⟩) (Kd.R_types HO_5.out BK1.out (by decide)) (fun _ hk=>hk.2) (.slice Ao20 t2.length co20)) (fun _ hk=>trivial),is0_,hbi0_,hk_⟩
         ·rw [if_neg c100] at H
          exact absurd H (by simp)
        ·rw [if_neg c99] at H
         exact absurd H (by simp)
       ·rw [if_neg c98] at H
        have c98b0 : (t22 == 3) = false:=beq_eq_false_iff_ne.mpr c98
        have c98b1 : (t22 != 3) = true:=bne_iff_ne.mpr c98
        simp only [Option.some.injEq,Prod.mk.injEq] at H
        obtain ⟨rfl,rfl,rfl⟩:=H
        obtain ⟨Ao112,co112,eo112⟩:=Kd.R_slice HO_5.out
        subst eo112
        go_wp2_with (first | ((with_reducible refine gate_callee (f:=63) rfl ?_);refine goesL_ (some 45) rfl rfl Try.func63 (by kernel_rfl) rfl #[.pointer (some ⟨g,0,none⟩),.int .i64 (x5_15.length : Int)] rfl lm_ ?_;(with_reducible refine (spec_reader_pick.calls kj15 g s0_0 x1001_15 (x5_15.length : Int) t20 t21 w0 _ ?side1 ?side2 A39.out).mono ?_);(case side1=>exact is0_);(case side2=>exact hbi0_);rintro e w113 ⟨rfl,hi,hb,hk⟩;refine ⟨_,rfl,?_⟩;replace HO_5:=a0_ (Kd.R_mono (Kd.R_keep (IsS81.apart (is0_ : IsS81 w0 _ g s0_0 x1001_15) (rr_ HO_5.out) (by decide)) hk (fun _ h=>h.2)) (fun _ h=>h.1));replace Z7:=a0_ (Kd.R_mono (Kd.R_keep (IsS81.apart (is0_ : IsS81 w0 _ g s0_0 x1001_15) (rr_ Z7.out) (by decide)) hk (fun _ h=>h.2)) (fun _ h=>h.1));replace BK1:=kk_ hk BK1 NB1_0;replace BK6:=kk_ hk BK6 NB6_0;replace HK:=a0_ (KeepBut.trans (w:=w) hk_ hk (.inl rfl));replace HI0:=a0_ (hi);replace HB:=a0_ (hb);(try clear hb);(try clear hb2);(try clear hk);(try clear hi)) | ((with_reducible refine gate_callee (f:=63) rfl ?_);refine goesL_ (some 47) rfl rfl Try.func63 (by kernel_rfl) rfl #[.pointer (some ⟨g,0,none⟩),.int .i64 24] rfl lm_ ?_;(with_reducible refine (spec_reader_pick.calls kj15 g s0_0 t21 24 t22 t23 w0 _ ?side1 ?side2 A40.out).mono ?_);(case side1=>exact is0_);(case side2=>exact hbi0_);rintro e w114 ⟨rfl,hi,hb,hk⟩;refine ⟨_,rfl,?_⟩;replace HO_5:=a0_ (Kd.R_mono (Kd.R_keep (IsS81.apart (is0_ : IsS81 w0 _ g s0_0 t21) (rr_ HO_5.out) (by decide)) hk (fun _ h=>h.2)) (fun _ h=>h.1));replace Z7:=a0_ (Kd.R_mono (Kd.R_keep (IsS81.apart (is0_ : IsS81 w0 _ g s0_0 t21) (rr_ Z7.out) (by decide)) hk (fun _ h=>h.2)) (fun _ h=>h.1));replace BK1:=kk_ hk BK1 NB1_0;replace BK6:=kk_ hk BK6 NB6_0;replace HK:=a0_ (KeepBut.trans (w:=w) hk_ hk (.inl rfl));replace HI0:=a0_ (hi);replace HB:=a0_ (hb);(try clear hb);have hnb115:=NB6_1.out;have hnc115:=NB1_6.out;have hnb116:=NB6_0.out;have hnc116:=NB0_6.out;have hcz117_0 : w114.cell? ⟨gb6,0,none⟩ = some (.slice Ao20 t2.length co20):=(blk_cell BK6.out 0).trans rfl;have hfz117_0:=blk_frozen BK6.out 0;have hnb118:=NB1_0.out;have hnc118:=NB0_1.out;have hcz119_0 : w114.cell? ⟨gb1,0,none⟩ = some (.slice none 0 0):=(blk_cell BK1.out 0).trans rfl;have hfz119_0:=blk_frozen BK1.out 0))
        refine bodyPost_ret (results_ct rfl _ _ gb1 25 #[.slice Ao20 t2.length co20] (0,0) _ rfl (by (with_reducible repeat (first | refine blk_drewN ?_ _ | refine blk_drew ?_ | refine blk_alloc ?_ _));refine blk_put (cs:=#[.slice none 0 0]) ?_ 0 _ rfl;(with_reducible repeat (first | refine blk_drewN ?_ _ | refine blk_drew ?_ | refine blk_alloc ?_ _));exact BK1.out) Try.underlying25 rfl (by kernel_rfl)) rfl ?_
        exact ⟨_,_,by first | rfl | (simp [errW_none,errW_some] <;> rfl) | (simp [*,errW_none,errW_some] <;> rfl),by (with_reducible repeat (first | apply Kd.R_alloc | apply Kd.R_drewN | apply Kd.R_drew));exact Kd.R_mono (Kd.R_far (p:=⟨gb1,0,none⟩) (Kd.R_types Z7.out BK1.out (by decide)) (fun _ hk=>hk.2) (.slice Ao20 t2.length co20)) (fun _ hk=>trivial),by (with_reducible repeat (first | apply Kd.R_alloc | apply Kd.R_drewN | apply Kd.R_drew));exact Kd.R_mono (Kd.R_far (p:=⟨gb1,0,none⟩) (Kd.R_types HO_5.out BK1.out (by decide)) (fun _ hk=>hk.2) (.slice Ao20 t2.length co20)) (fun _ hk=>trivial),is0_,hbi0_,hk_⟩
theorem spec_someGroup_j1 (b : List Int) (hb : byL b) (t : List Cls) (g : List Prt) (q : Int) (h0 : 0 ≤ q) (h1 : q ≤ 1099511600000) (hl : 1 ≤ g.length) : ∃ g' q',Ev (fun k=>spec_someGroup.j1 k g b q t) (t,g',q') ∧ q ≤ q' ∧ q' ≤ q + 3 ∧ g'.length = g.length:=by
 obtain ⟨x,hx,x0,x1,_⟩:=spec_pick_ev b q (g.length : Int) hb h0 (by omega)
 have x1:=x1 (by omega)
 obtain ⟨y,hy,y0,y1,_⟩:=spec_pick_ev b (q + 1) 24 hb (by omega) (by omega)
 by_cases c0 : y = 0
 ·obtain ⟨s,hs,_⟩:=spec_one_ev b (q + 1 + 1) [(-1),6,0,1] hb (by omega) (by omega) (by simp)
  refine ⟨g.set (x : Int).toNat ⟨s,(rd_T47 g x).f1,(rd_T47 g x).f2,(rd_T47 g x).f3⟩,q + 1 + 1 + 1,Ev.succ ?_,by omega,by omega,by rw [List.length_set]⟩
  simp only [spec_someGroup.j1]
  exact Ev.bind hx (Ev.bind hy (Ev.pos c0 (Ev.bind hs (Ev.pos x0 (Ev.pos x1 (Ev.const rfl))))))
 by_cases c1 : y = 1
 ·obtain ⟨s,hs,_⟩:=spec_one_ev b (q + 1 + 1) [(-1),8,1] hb (by omega) (by omega) (by simp)
  refine ⟨g.set (x : Int).toNat ⟨(rd_T47 g x).f0,(rd_T47 g x).f1,s,(rd_T47 g x).f3⟩,q + 1 + 1 + 1,Ev.succ ?_,by omega,by omega,by rw [List.length_set]⟩
  simp only [spec_someGroup.j1]
  exact Ev.bind hx (Ev.bind hy (Ev.neg c0 (Ev.pos c1 (Ev.bind hs (Ev.pos x0 (Ev.pos x1 (Ev.const rfl)))))))
 by_cases c2 : y = 2
 ·obtain ⟨s,hs,_⟩:=spec_one_ev b (q + 1 + 1) [(-1),100] hb (by omega) (by omega) (by simp)
  refine ⟨g.set (x : Int).toNat ⟨(rd_T47 g x).f0,(rd_T47 g x).f1,(rd_T47 g x).f2,s⟩,q + 1 + 1 + 1,Ev.succ ?_,by omega,by omega,by rw [List.length_set]⟩
  simp only [spec_someGroup.j1]
  exact Ev.bind hx (Ev.bind hy (Ev.neg c0 (Ev.neg c1 (Ev.pos c2 (Ev.bind hs (Ev.pos x0 (Ev.pos x1 (Ev.const rfl))))))))
 by_cases c3 : y = 3
 ·refine ⟨g.set (x : Int).toNat ⟨(rd_T47 g x).f0,!((rd_T47 g x).f1),(rd_T47 g x).f2,(rd_T47 g x).f3⟩,q + 1 + 1,Ev.succ ?_,by omega,by omega,by rw [List.length_set]⟩
  simp only [spec_someGroup.j1]
  exact Ev.bind hx (Ev.bind hy (Ev.neg c0 (Ev.neg c1 (Ev.neg c2 (Ev.pos c3 (Ev.pos x0 (Ev.pos x1 (Ev.const rfl))))))))
 ·refine ⟨g,q + 1 + 1,Ev.succ ?_,by omega,by omega,rfl⟩
  simp only [spec_someGroup.j1]
  exact Ev.bind hx (Ev.bind hy (Ev.neg c0 (Ev.neg c1 (Ev.neg c2 (Ev.neg c3 (Ev.const rfl))))))
theorem spec_someGroup_l0 (b : List Int) (hb : byL b) (t : List Cls) (q : Int) (h0 : 0 ≤ q) (h1 : q ≤ 1099511600000) (n : Nat) (hn : 1 ≤ n) (hn2 : n ≤ 1000000) : ∀ (d i : Nat) (g : List Prt),i + d = n → g.length = n → ∃ g' q',Ev (fun k=>spec_someGroup.l0 k g (i : Int) b q t) (t,g',q') ∧ q ≤ q' ∧ q' ≤ q + 3 ∧ g'.length = n:=by
 intro d
 induction d with
 | zero =>
  intro i g hi hg
  obtain ⟨g',q',he,a1,a2,a3⟩:=spec_someGroup_j1 b hb t g q h0 h1 (by omega)
  refine ⟨g',q',Ev.succ ?_,a1,a2,by omega⟩
  simp only [spec_someGroup.l0]
  exact Ev.neg (by omega) he
 | succ d ih =>
  intro i g hi hg
  obtain ⟨g',q',he,a1,a2,a3⟩:=ih (i + 1) (g.set ((i : Int)).toNat ⟨wrap64 (((rd_T47 g (i : Int)).f0) - 2),(rd_T47 g (i : Int)).f1,(rd_T47 g (i : Int)).f2,(rd_T47 g (i : Int)).f3⟩) (by omega) (by rw [List.length_set];exact hg)
  refine ⟨g',q',Ev.succ ?_,a1,a2,a3⟩
  simp only [spec_someGroup.l0]
  rw [wrap_succ (i:=(i : Int)) (n:=n) (by omega) (by omega) (by omega)]
  exact Ev.pos (by omega) (Ev.pos (by omega) he)
theorem spec_someGroup_ev (b : List Int) (p : Int) (hb : byL b) (h0 : 0 ≤ p) (hp : p ≤ 1099511500000) : ∃ t g q,Ev (fun k=>spec_someGroup.f k b p) (t,g,q) ∧ p ≤ q ∧ q ≤ p + 400 ∧ t.length ≤ 8 ∧ smT t = true ∧ g.length ≤ 16:=by
 obtain ⟨t,q,ht,h1,h2,h3,h4⟩:=spec_someTree_ev b p hb h0 (by omega)
 have hs:=smT_mk h4
 by_cases hz : (t.length : Int) = 0
 ·exact ⟨t,_,q,Ev.bind ht (Ev.pos hz (Ev.const rfl)),by omega,by omega,h3,hs,by simp⟩
 obtain ⟨g,r,hg,a1,a2,a3,a4⟩:=spec_goodGroup_ev b hb t 3 0 q rfl (by omega) (by omega) (by rw [show cG 3 = 160 by decide];omega) (by decide)
 rw [show cG 3 = 160 by decide] at a2
 rw [show lG 3 = 40 by decide] at a4
 by_cases h16 : (g.length : Int) > 16
 ·obtain ⟨g2,r2,hg2,b1,b2,b3,b4⟩:=spec_goodGroup_ev b hb t 1 2 r rfl (by omega) (by omega) (by rw [show cG 1 = 16 by decide];omega) (by decide)
  rw [show cG 1 = 16 by decide] at b2
  rw [show lG 1 = 4 by decide] at b4
  obtain ⟨g3,r3,hg3,c1,c2,c3⟩:=spec_someGroup_l0 b hb t r2 (by omega) (by omega) g2.length b3 (by omega) g2.length 0 g2 (by omega) rfl
  exact ⟨t,g3,r3,Ev.bind ht (Ev.neg hz (Ev.bind hg (Ev.pos h16 (Ev.bind hg2 hg3)))),by omega,by omega,h3,hs,by omega⟩
 ·obtain ⟨g3,r3,hg3,c1,c2,c3⟩:=spec_someGroup_j1 b hb t g r (by omega) (by omega) a3
  exact ⟨t,g3,r3,Ev.bind ht (Ev.neg hz (Ev.bind hg (Ev.neg h16 hg3))),by omega,by omega,h3,hs,by omega⟩
end Go.Proofs.Ytfphcdbnnienhaa.P
namespace Go.Proofs.Ytfphcdbnnienhaa.P
open Go.RowKit Go.Proofs.YtfphcdbnnienhaaW.PrintWords Go.Proofs.YtfphcdbnnienhaaW.PrintLast Go.Proofs.YtfphcdbnnienhaaW.PrintMore
attribute [local go_sem] max2_int min2_int max_two min_two max_three min_three max_four min_four
set_option linter.unusedVariables false
set_option linter.unusedSimpArgs false
def spec_aClass.f (k : Nat) (s0_0 : List Int) (s0_1 : Int) (l1_0 : List (S85)) : Option (Int × Int):=(spec_reader_pick.f k s0_0 s0_1 16).bind fun bt2=>(if bt2.1 = 0 then ((spec_reader_one.f k s0_0 bt2.2 (([(-1),(l1_0.length : Int),8] : List Int))).bind fun bt7=>(some (bt7.1,bt7.2))) else ((spec_reader_pick.f k s0_0 bt2.2 (l1_0.length : Int)).bind fun bt9=>(some (bt9.1,bt9.2))))
theorem spec_aClass.mono : ∀ a0 a1 a2 k,LeO (spec_aClass.f k a0 a1 a2) (spec_aClass.f (k + 1) a0 a1 a2):=by
 intro a0 a1 a2 k
 unfold spec_aClass.f
 repeat' first
   | (with_reducible exact spec_reader_one.mono _ _ _ _)
   | (with_reducible exact spec_reader_pick.mono _ _ _ _)
   | (with_reducible exact LeO.refl _)
   | (with_reducible exact LeO.none _)
   | (with_reducible refine LeO.ite ?_ ?_)
   | (with_reducible refine LeO.bind ?_ (fun _=>?_))
   | exact spec_reader_one.mono _ _ _ _
   | exact spec_reader_pick.mono _ _ _ _
   | exact LeO.none _
   | refine LeO.ite ?_ ?_
   | refine LeO.bind ?_ (fun _=>?_)
set_option maxHeartbeats 8000000 in
set_option maxRecDepth 100000 in
theorem spec_aClass.calls (k : Nat) (g : Nat) (s0_0 : List Int) (s0_1 : Int) (A1_0 : Option Addr) (c1_0 : Nat) (l1_0 : List (S85)) (r1 : Int) (r2 : Int) (w0 w : World) (hI : IsS81 w0 w g s0_0 s0_1) (hB : Below w0.heap.size w0 w) (hr1_0 : ∀ W_,KeepBut w W_ g none → Kd.C k85 W_ A1_0 l1_0.length l1_0) (hc1_0 : l1_0.length ≤ c1_0) (h : spec_aClass.f k s0_0 s0_1 l1_0 = some (r1,r2)) :
  Calls Try.prog 72 #[.pointer (some ⟨g,0,none⟩),.agg #[.slice A1_0 l1_0.length c1_0]] w fun e w'=>e = .returned (.int .i64 r1) ∧ IsS81 w0 w' g s0_0 r2 ∧ Below w0.heap.size w0 w' ∧ KeepBut w w' g none:=by
 have hu25:=Try.underlying25
 have HR1_0:=a0_ hr1_0
 have HC1_0:=a0_ hc1_0
 clear hr1_0 hc1_0
 have HI0:=a0_ hI
 have HK:=a0_ (KeepBut.refl w g none)
 have HL:=a0_ hB.size
 clear hI
 have HW0:=a0_ hB.size
 have HB:=a0_ hB
 clear hB
 have H : ((spec_reader_pick.f k s0_0 s0_1 16).bind fun bt2=>(if bt2.1 = 0 then ((spec_reader_one.f k s0_0 bt2.2 (([(-1),(l1_0.length : Int),8] : List Int))).bind fun bt7=>(some (bt7.1,bt7.2))) else ((spec_reader_pick.f k s0_0 bt2.2 (l1_0.length : Int)).bind fun bt9=>(some (bt9.1,bt9.2))))) = some (r1,r2):=h
 clear h
 replace H:=Option.bind_eq_some_iff.mp H
 obtain ⟨⟨t2,t3⟩,A30,H⟩:=H
 try dsimp only at H
 have A3:=a0_ A30
 clear A30
 by_cases c4 : t2 = 0
 ·rw [if_pos c4] at H
  have c4b0 : (t2 == 0) = true:=beq_iff_eq.mpr c4
  have c4b1 : (t2 != 0) = false:=bne_eq_false_iff_eq.mpr c4
  clear c4
  obtain ⟨y4,hy4⟩ : ∃ y_ : List Int,y_ = (([(-1),(l1_0.length : Int),8] : List Int)):=⟨_,rfl⟩
  replace H : ((spec_reader_one.f k s0_0 t3 y4).bind fun bt7=>(some (bt7.1,bt7.2))) = some (r1,r2):=by first | (rw [hy4];with_reducible exact H) | (have H2_:=(Option.bind_some _ _).symm.trans H;rw [hy4];with_reducible exact H2_) | (have H2_:=(Option.bind_some _ _).symm.trans H;with_reducible exact H2_) | with_reducible exact H | (rw [hy4];exact H) | exact H
  have Ny4:=a0_ hy4
  clear hy4
  replace H:=Option.bind_eq_some_iff.mp H
  obtain ⟨⟨t7,t8⟩,A50,H⟩:=H
  replace H : (some (t7,t8)) = some (r1,r2):=H
  have A5:=a0_ A50
  clear A50
  simp only [Option.some.injEq,Prod.mk.injEq] at H
  obtain ⟨rfl,rfl⟩:=H
  go_enter Try.func72,Try.ntmps72
  go_wp2_with (first | ((with_reducible refine gate_dst (N:=3) rfl ?_);refine box_event ?hg (N:=3) ?hd (cs:=#[.slice A1_0 l1_0.length c1_0]) (t:=25) ?hr ?_;(case hd=>rfl);(case hg=>rfl);(case hr=>first | (go_simp;done) | (go_simp;rfl));intro gb1 hg w6 hbox hb;have n0_:=a0_ (IsS81.below is0_ hb);have n1_:=a0_ (KeepBut.trans (w:=w) hk_ (KeepBut.of_below hb g none) (.inl rfl));have n2_:=a0_ (below_step hbi0_ hb);have n3_:=a0_ (hbox);have n4_:=a0_ ((by rw [hg];exact (keep_size (w:=w) (g:=g) (row:=none) hk_) : w.heap.size ≤ gb1));have n5_:=a0_ ((Nat.le_trans HW0.out (by rw [hg];exact (keep_size (w:=w) (g:=g) (row:=none) hk_) : w.heap.size ≤ gb1) : w0.heap.size ≤ gb1));have n6_:=a0_ ((by rw [hg];exact Nat.ne_of_lt (IsS81.lt (is0_ : IsS81 w0 _ g s0_0 s0_1)) : g ≠ gb1));have n7_:=a0_ ((by rw [hg];exact Nat.ne_of_gt (IsS81.lt (is0_ : IsS81 w0 _ g s0_0 s0_1)) : gb1 ≠ g));clear HI0 HK HB;have HI0:=n0_;have HK:=n1_;have HB:=n2_;have BK1:=n3_;have GW1:=n4_;have GE1:=n5_;have NB0_1:=n6_;have NB1_0:=n7_;clear n0_ n1_ n2_ n3_ n4_ n5_ n6_ n7_;clear hb hbox hg) | ((with_reducible refine gate_callee (f:=63) rfl ?_);refine goesL_ (some 6) rfl rfl Try.func63 (by kernel_rfl) rfl #[.pointer (some ⟨g,0,none⟩),.int .i64 16] rfl lm_ ?_;(with_reducible refine (spec_reader_pick.calls k g s0_0 s0_1 16 t2 t3 w0 _ ?side1 ?side2 A3.out).mono ?_);(case side1=>exact is0_);(case side2=>exact hbi0_);rintro e w7 ⟨rfl,hi,hb,hk⟩;refine ⟨_,rfl,?_⟩;replace BK1:=kk_ hk BK1 NB1_0;replace HK:=a0_ (KeepBut.trans (w:=w) hk_ hk (.inl rfl));replace HI0:=a0_ (hi);replace HB:=a0_ (hb);(try clear hb);have hnb8:=NB1_0.out;have hnc8:=NB0_1.out;have hcz9_0 : w7.cell? ⟨gb1,0,none⟩ = some (.slice A1_0 l1_0.length c1_0):=(blk_cell BK1.out 0).trans rfl;have hfz9_0:=blk_frozen BK1.out 0) | ((with_reducible refine gate_dst (N:=12) rfl ?_);refine Kd.R_lit (Kd.int .i64) _ 3 ?hg (N:=12) ?hd (xs:=([(-1),(l1_0.length : Int),8] : List Int)) (inner:=[.int .i64 (-1),.int .i64 (l1_0.length : Int),.int .i64 8]) (ok:=fun _=>True) (okp:=fun _=>True) ?hr ?hp (fun _ hk=>hk) trivial (Below.refl _ _) (Nat.le_refl _) (by simp) ?_;(case hd=>rfl);(case hg=>rfl);(case hr=>first | (go_simp;done) | (go_simp;rfl));(case hp=>exact (Reps.one (show Kd.M (Kd.int .i64) _ _ _ (-1) [.int .i64 (-1)] from rfl) (Reps.one (show Kd.M (Kd.int .i64) _ _ _ (l1_0.length : Int) [.int .i64 (l1_0.length : Int)] from rfl) (Reps.one (show Kd.M (Kd.int .i64) _ _ _ 8 [.int .i64 8] from rfl) (Reps.none _ _)))));intro v5 w10 ho11 hb hg_ hnew_;clear hg_ hnew_;(first | rw [← Ny4.out] at ho11 | (simp only [Int.reduceToNat] at ho11;rw [← Ny4.out] at ho11));have n0_:=a0_ (Kd.R_lower ho11 (keep_size (w:=w) (g:=g) (row:=none) hk_));have n1_:=a0_ (IsS81.below is0_ hb);have n2_:=kb_ BK1 hb;have n3_:=a0_ (KeepBut.trans (w:=w) hk_ (KeepBut.of_below hb g none) (.inl rfl));have n4_:=a0_ (below_step hbi0_ hb);clear HI0 BK1;clear HK HB;have HO6:=n0_;have HI0:=n1_;have BK1:=n2_;have HK:=n3_;have HB:=n4_;clear n0_ n1_ n2_ n3_ n4_;clear hb ho11;obtain ⟨Ao12,co12,eo12⟩:=Kd.R_slice HO6.out;subst eo12) | ((with_reducible refine gate_callee (f:=64) rfl ?_);refine goesL_ (some 13) rfl rfl Try.func64 (by kernel_rfl) rfl #[.pointer (some ⟨g,0,none⟩),.slice Ao12 y4.length co12] rfl lm_ ?_;(with_reducible refine (spec_reader_one.calls k g s0_0 t3 _ _ y4 t7 t8 w0 _ ?side1 ?side2 ?side3 ?side4 ?side5 A5.out).mono ?_);(case side1=>exact is0_);(case side2=>exact hbi0_);(case side3=>exact cc_ (Kd.R_reads' HO6.out).2.2);(case side4=>exact (Kd.R_reads' HO6.out).2.1);(case side5=>exact far_slice (IsS81.own_ne HI0.out HO6.out (by decide)));rintro e w13 ⟨rfl,hi,hb,hk⟩;refine ⟨_,rfl,?_⟩;replace BK1:=kk_ hk BK1 NB1_0;replace HO6:=a0_ (Kd.R_mono (Kd.R_keep (IsS81.apart (is0_ : IsS81 w0 _ g s0_0 t3) (rr_ HO6.out) (by decide)) hk (fun _ h=>h.2)) (fun _ h=>h.1));replace HK:=a0_ (KeepBut.trans (w:=w) hk_ hk (.inl rfl));replace HI0:=a0_ (hi);replace HB:=a0_ (hb);(try clear hb);(try clear hb2);(try clear hk);(try clear hi)))
  go_ret
  exact ⟨by first | rfl | (simp [errW_none,errW_some] <;> rfl) | (simp [*,errW_none,errW_some] <;> rfl),is0_,hbi0_,hk_⟩
 ·rw [if_neg c4] at H
  have c4b0 : (t2 == 0) = false:=beq_eq_false_iff_ne.mpr c4
  have c4b1 : (t2 != 0) = true:=bne_iff_ne.mpr c4
  replace H:=Option.bind_eq_some_iff.mp H
  obtain ⟨⟨t9,t10⟩,A140,H⟩:=H
  replace H : (some (t9,t10)) = some (r1,r2):=H
  have A14:=a0_ A140
  clear A140
  simp only [Option.some.injEq,Prod.mk.injEq] at H
  obtain ⟨rfl,rfl⟩:=H
  go_enter Try.func72,Try.ntmps72
  go_wp2_with (first | ((with_reducible refine gate_dst (N:=3) rfl ?_);refine box_event ?hg (N:=3) ?hd (cs:=#[.slice A1_0 l1_0.length c1_0]) (t:=25) ?hr ?_;(case hd=>rfl);(case hg=>rfl);(case hr=>first | (go_simp;done) | (go_simp;rfl));intro gb1 hg w15 hbox hb;have n0_:=a0_ (IsS81.below is0_ hb);have n1_:=a0_ (KeepBut.trans (w:=w) hk_ (KeepBut.of_below hb g none) (.inl rfl));have n2_:=a0_ (below_step hbi0_ hb);have n3_:=a0_ (hbox);have n4_:=a0_ ((by rw [hg];exact (keep_size (w:=w) (g:=g) (row:=none) hk_) : w.heap.size ≤ gb1));have n5_:=a0_ ((Nat.le_trans HW0.out (by rw [hg];exact (keep_size (w:=w) (g:=g) (row:=none) hk_) : w.heap.size ≤ gb1) : w0.heap.size ≤ gb1));have n6_:=a0_ ((by rw [hg];exact Nat.ne_of_lt (IsS81.lt (is0_ : IsS81 w0 _ g s0_0 s0_1)) : g ≠ gb1));have n7_:=a0_ ((by rw [hg];exact Nat.ne_of_gt (IsS81.lt (is0_ : IsS81 w0 _ g s0_0 s0_1)) : gb1 ≠ g));clear HI0 HK HB;have HI0:=n0_;have HK:=n1_;have HB:=n2_;have BK1:=n3_;have GW1:=n4_;have GE1:=n5_;have NB0_1:=n6_;have NB1_0:=n7_;clear n0_ n1_ n2_ n3_ n4_ n5_ n6_ n7_;clear hb hbox hg) | ((with_reducible refine gate_callee (f:=63) rfl ?_);refine goesL_ (some 6) rfl rfl Try.func63 (by kernel_rfl) rfl #[.pointer (some ⟨g,0,none⟩),.int .i64 16] rfl lm_ ?_;(with_reducible refine (spec_reader_pick.calls k g s0_0 s0_1 16 t2 t3 w0 _ ?side1 ?side2 A3.out).mono ?_);(case side1=>exact is0_);(case side2=>exact hbi0_);rintro e w16 ⟨rfl,hi,hb,hk⟩;refine ⟨_,rfl,?_⟩;replace BK1:=kk_ hk BK1 NB1_0;replace HK:=a0_ (KeepBut.trans (w:=w) hk_ hk (.inl rfl));replace HI0:=a0_ (hi);replace HB:=a0_ (hb);(try clear hb);have hnb17:=NB1_0.out;have hnc17:=NB0_1.out;have hcz18_0 : w16.cell? ⟨gb1,0,none⟩ = some (.slice A1_0 l1_0.length c1_0):=(blk_cell BK1.out 0).trans rfl;have hfz18_0:=blk_frozen BK1.out 0) | ((with_reducible refine gate_callee (f:=63) rfl ?_);refine goesL_ (some 18) rfl rfl Try.func63 (by kernel_rfl) rfl #[.pointer (some ⟨g,0,none⟩),.int .i64 (l1_0.length : Int)] rfl lm_ ?_;(with_reducible refine (spec_reader_pick.calls k g s0_0 t3 (l1_0.length : Int) t9 t10 w0 _ ?side1 ?side2 A14.out).mono ?_);(case side1=>exact is0_);(case side2=>exact hbi0_);rintro e w19 ⟨rfl,hi,hb,hk⟩;refine ⟨_,rfl,?_⟩;replace BK1:=kk_ hk BK1 NB1_0;replace HK:=a0_ (KeepBut.trans (w:=w) hk_ hk (.inl rfl));replace HI0:=a0_ (hi);replace HB:=a0_ (hb);(try clear hb);(try clear hb2);(try clear hk);(try clear hi)))
  go_ret
  exact ⟨by first | rfl | (simp [errW_none,errW_some] <;> rfl) | (simp [*,errW_none,errW_some] <;> rfl),is0_,hbi0_,hk_⟩
theorem spec_aClass_ev (b : List Int) (p : Int) (t : List Cls) (hb : byL b) (h0 : 0 ≤ p) (hp : p ≤ 1099511627000) : ∃ x q,Ev (fun k=>spec_aClass.f k b p t) (x,q) ∧ p ≤ q ∧ q ≤ p + 2 ∧ (t.length ≤ 8 → -1 ≤ x ∧ x ≤ 8):=by
 obtain ⟨y,hy,y0,y1,_⟩:=spec_pick_ev b p 16 hb h0 (by omega)
 by_cases c0 : y = 0
 ·obtain ⟨s,hs,hsm⟩:=spec_one_ev b (p + 1) [(-1),(t.length : Int),8] hb (by omega) (by omega) (by simp)
  simp only [List.mem_cons,List.not_mem_nil,or_false] at hsm
  exact ⟨_,_,Ev.bind hy (Ev.pos c0 (Ev.bind hs (Ev.const rfl))),by omega,by omega,fun h=>by simp only;omega⟩
 ·obtain ⟨s,hs,s0,s1,s2⟩:=spec_pick_ev b (p + 1) (t.length : Int) hb (by omega) (by omega)
  exact ⟨_,_,Ev.bind hy (Ev.neg c0 (Ev.bind hs (Ev.const rfl))),by omega,by omega,fun h=>by simp only;omega⟩
end Go.Proofs.Ytfphcdbnnienhaa.P
namespace Go.Proofs.Ytfphcdbnnienhaa.P
open Go.RowKit Go.Proofs.YtfphcdbnnienhaaW.PrintWords Go.Proofs.YtfphcdbnnienhaaW.PrintLast Go.Proofs.YtfphcdbnnienhaaW.PrintMore
attribute [local go_sem] max2_int min2_int max_two min_two max_three min_three max_four min_four
set_option linter.unusedVariables false
set_option linter.unusedSimpArgs false
def spec_groupClass.f (k : Nat) (s0_0 : List Int) (s0_1 : Int) : Option ((List (S85)) × (List (S47)) × Int × Int):=(spec_someGroup.f k s0_0 s0_1).bind fun bt2=>((spec_aClass.f k s0_0 bt2.2.2 bt2.1).bind fun bt10=>(some (bt2.1,bt2.2.1,bt10.1,bt10.2)))
theorem spec_groupClass.mono : ∀ a0 a1 k,LeO (spec_groupClass.f k a0 a1) (spec_groupClass.f (k + 1) a0 a1):=by
 intro a0 a1 k
 unfold spec_groupClass.f
 repeat' first
   | (with_reducible exact spec_aClass.mono _ _ _ _)
   | (with_reducible exact spec_someGroup.mono _ _ _)
   | (with_reducible exact LeO.refl _)
   | (with_reducible exact LeO.none _)
   | (with_reducible refine LeO.ite ?_ ?_)
   | (with_reducible refine LeO.bind ?_ (fun _=>?_))
   | exact spec_aClass.mono _ _ _ _
   | exact spec_someGroup.mono _ _ _
   | exact LeO.none _
   | refine LeO.ite ?_ ?_
   | refine LeO.bind ?_ (fun _=>?_)
def spec_groupClass.T2 : Bool × List (List Nat × List Nat):=(true,[([],[]),([],[]),([],[]),([],[]),([2,3],[2,3]),([0,4,0],[0]),([1,5,0,1,5],[1]),([4,6,0,1,2,3,4,5,6],[4])])
def spec_groupClass.B2 : List Nat:=[0,0,0,0,12,29,63,127]
theorem spec_groupClass.tab2 : rtab .any (opsOf Try.f43 2) = spec_groupClass.T2:=by kernel_rfl
theorem spec_groupClass.bits2 : waitsOk spec_groupClass.T2.2 spec_groupClass.B2 = true:=by kernel_rfl
set_option maxHeartbeats 8000000 in
set_option maxRecDepth 100000 in
theorem spec_groupClass.calls (k : Nat) (g : Nat) (s0_0 : List Int) (s0_1 : Int) (r1 : List (S85)) (r2 : List (S47)) (r3 : Int) (r4 : Int) (w0 w : World) (hI : IsS81 w0 w g s0_0 s0_1) (hB : Below w0.heap.size w0 w) (h : spec_groupClass.f k s0_0 s0_1 = some (r1,r2,r3,r4)) :
  Calls Try.prog 43 #[.pointer (some ⟨g,0,none⟩)] w fun e w'=>∃ v0_ v1_ : Value,e = .returned (.tuple #[.agg #[v0_],v1_,.int .i64 r3]) ∧ Kd.R k85 85 w' w.heap.size (fun _=>True) v0_ r1 ∧ Kd.R k47 47 w' w.heap.size (fun _=>True) v1_ r2 ∧ IsS81 w0 w' g s0_0 r4 ∧ Below w0.heap.size w0 w' ∧ KeepBut w w' g none:=by
 have hu25:=Try.underlying25
 have HI0:=a0_ hI
 have HK:=a0_ (KeepBut.refl w g none)
 have HL:=a0_ hB.size
 clear hI
 have HW0:=a0_ hB.size
 have HB:=a0_ hB
 clear hB
 have H : ((spec_someGroup.f k s0_0 s0_1).bind fun bt2=>((spec_aClass.f k s0_0 bt2.2.2 bt2.1).bind fun bt10=>(some (bt2.1,bt2.2.1,bt10.1,bt10.2)))) = some (r1,r2,r3,r4):=h
 clear h
 replace H:=Option.bind_eq_some_iff.mp H
 obtain ⟨⟨t2,t5,t8⟩,A20,H⟩:=H
 try dsimp only at H
 have A2:=a0_ A20
 clear A20
 replace H:=Option.bind_eq_some_iff.mp H
 obtain ⟨⟨t10,t11⟩,A30,H⟩:=H
 replace H : (some (t2,t5,t10,t11)) = some (r1,r2,r3,r4):=H
 have A3:=a0_ A30
 clear A30
 simp only [Option.some.injEq,Prod.mk.injEq] at H
 obtain ⟨rfl,rfl,rfl,rfl⟩:=H
 go_enter Try.func43,Try.ntmps43
 try go_wp2_with (first | ((with_reducible refine gate_dst (N:=2) rfl ?_);refine box_event ?hg (N:=2) ?hd (cs:=#[.slice none 0 0]) (t:=25) ?hr ?_;(case hd=>rfl);(case hg=>rfl);(case hr=>first | (go_simp;done) | (go_simp;rfl));intro gb1 hg w4 hbox hb;have n0_:=a0_ (IsS81.below is0_ hb);have n1_:=a0_ (KeepBut.trans (w:=w) hk_ (KeepBut.of_below hb g none) (.inl rfl));have n2_:=a0_ (below_step hbi0_ hb);have n3_:=a0_ (hbox);have n4_:=a0_ ((by rw [hg];exact (keep_size (w:=w) (g:=g) (row:=none) hk_) : w.heap.size ≤ gb1));have n5_:=a0_ ((Nat.le_trans HW0.out (by rw [hg];exact (keep_size (w:=w) (g:=g) (row:=none) hk_) : w.heap.size ≤ gb1) : w0.heap.size ≤ gb1));have n6_:=a0_ ((by rw [hg];exact Nat.ne_of_lt (IsS81.lt (is0_ : IsS81 w0 _ g s0_0 s0_1)) : g ≠ gb1));have n7_:=a0_ ((by rw [hg];exact Nat.ne_of_gt (IsS81.lt (is0_ : IsS81 w0 _ g s0_0 s0_1)) : gb1 ≠ g));clear HI0 HK HB;have HI0:=n0_;have HK:=n1_;have HB:=n2_;have BK1:=n3_;have GW1:=n4_;have GE1:=n5_;have NB0_1:=n6_;have NB1_0:=n7_;clear n0_ n1_ n2_ n3_ n4_ n5_ n6_ n7_;clear hb hbox hg) | ((with_reducible refine gate_callee (f:=36) rfl ?_);refine goesL_ (some 9) rfl rfl Try.func36 (by kernel_rfl) rfl #[.pointer (some ⟨g,0,none⟩)] rfl lm_ ?_;(with_reducible refine (spec_someGroup.calls k g s0_0 s0_1 t2 t5 t8 w0 _ ?side1 ?side2 A2.out).mono ?_);(case side1=>exact is0_);(case side2=>exact hbi0_);rintro e w5 ⟨v3,v6,rfl,ho0,ho1,hi,hb,hk⟩;refine ⟨_,rfl,?_⟩;replace BK1:=kk_ hk BK1 NB1_0;have HO4:=a0_ (Kd.R_lower ho0 (keep_size (w:=w) (g:=g) (row:=none) hk_));have HO7:=a0_ (Kd.R_lower ho1 (keep_size (w:=w) (g:=g) (row:=none) hk_));replace HK:=a0_ (KeepBut.trans (w:=w) hk_ hk (.inl rfl));replace HI0:=a0_ (hi);replace HB:=a0_ (hb);(try clear hb);(try clear ho0);(try clear ho1)) | ((with_reducible refine gate_dst (N:=5) rfl ?_);refine box_event ?hg (N:=5) ?hd (cs:=#[.slice none 0 0]) (t:=25) ?hr ?_;(case hd=>rfl);(case hg=>rfl);(case hr=>first | (go_simp;done) | (go_simp;rfl));intro gb9 hg w6 hbox hb;have n0_:=rb_ HO4 hb;have n1_:=rb_ HO7 hb;have n2_:=a0_ (IsS81.below is0_ hb);have n3_:=kb_ BK1 hb;have n4_:=a0_ (KeepBut.trans (w:=w) hk_ (KeepBut.of_below hb g none) (.inl rfl));have n5_:=a0_ (below_step hbi0_ hb);have n6_:=a0_ (hbox);have n7_:=a0_ ((by rw [hg];exact (keep_size (w:=w) (g:=g) (row:=none) hk_) : w.heap.size ≤ gb9));have n8_:=a0_ ((Nat.le_trans HW0.out (by rw [hg];exact (keep_size (w:=w) (g:=g) (row:=none) hk_) : w.heap.size ≤ gb9) : w0.heap.size ≤ gb9));have n9_:=a0_ ((by rw [hg];exact Nat.ne_of_lt (blk_lt (bb_ BK1.out)) : gb1 ≠ gb9));have n10_:=a0_ ((by rw [hg];exact Nat.ne_of_gt (blk_lt (bb_ BK1.out)) : gb9 ≠ gb1));have n11_:=a0_ ((by rw [hg];exact Nat.ne_of_lt (IsS81.lt (is0_ : IsS81 w0 _ g s0_0 t8)) : g ≠ gb9));have n12_:=a0_ ((by rw [hg];exact Nat.ne_of_gt (IsS81.lt (is0_ : IsS81 w0 _ g s0_0 t8)) : gb9 ≠ g));clear HO4 HO7;clear HI0 BK1;clear HK HB;have HO4:=n0_;have HO7:=n1_;have HI0:=n2_;have BK1:=n3_;have HK:=n4_;have HB:=n5_;have BK9:=n6_;have GW9:=n7_;have GE9:=n8_;have NB1_9:=n9_;have NB9_1:=n10_;have NB0_9:=n11_;have NB9_0:=n12_;clear n0_ n1_ n2_ n3_ n4_ n5_ n6_ n7_ n8_ n9_ n10_ n11_ n12_;clear hb hbox hg;obtain ⟨Ao7,co7,eo7⟩:=Kd.R_slice HO4.out;subst eo7;have hnb8:=NB9_1.out;have hnc8:=NB1_9.out;have hnb9:=NB9_0.out;have hnc9:=NB0_9.out;have hcz10_0 : w6.cell? ⟨gb9,0,none⟩ = some (.slice none 0 0):=(blk_cell BK9.out 0).trans rfl;have hfz10_0:=blk_frozen BK9.out 0))
 have n0_ : Aside0 (Kd.R k85 85 (w6.setCell ⟨gb9,0,none⟩ (.slice Ao7 t2.length co7)) w.heap.size (fun _=>True) (.slice Ao7 t2.length co7) t2):=⟨by (with_reducible repeat (first | apply Kd.R_alloc | apply Kd.R_drewN | apply Kd.R_drew));exact Kd.R_mono (Kd.R_far (p:=⟨gb9,0,none⟩) (Kd.R_types HO4.out BK9.out (by decide)) (fun _ hk=>hk.2) (.slice Ao7 t2.length co7)) (fun _ hk=>trivial)⟩
 have n1_ : Aside0 (Kd.R k47 47 (w6.setCell ⟨gb9,0,none⟩ (.slice Ao7 t2.length co7)) w.heap.size (fun _=>True) v6 t5):=⟨by (with_reducible repeat (first | apply Kd.R_alloc | apply Kd.R_drewN | apply Kd.R_drew));exact Kd.R_mono (Kd.R_far (p:=⟨gb9,0,none⟩) (Kd.R_types HO7.out BK9.out (by decide)) (fun _ hk=>hk.2) (.slice Ao7 t2.length co7)) (fun _ hk=>trivial)⟩
 have n2_ : Aside0 ((w6.setCell ⟨gb9,0,none⟩ (.slice Ao7 t2.length co7)).heap[gb1]? = some (.cells #[.slice none 0 0] 25 (0,0))):=⟨by (with_reducible repeat (first | refine blk_drewN ?_ _ | refine blk_drew ?_ | refine blk_alloc ?_ _));refine blk_far ?_ NB1_9.out _;(with_reducible repeat (first | refine blk_drewN ?_ _ | refine blk_drew ?_ | refine blk_alloc ?_ _));exact BK1.out⟩
 have n3_ : Aside0 ((w6.setCell ⟨gb9,0,none⟩ (.slice Ao7 t2.length co7)).heap[gb9]? = some (.cells #[.slice Ao7 t2.length co7] 25 (0,0))):=⟨by (with_reducible repeat (first | refine blk_drewN ?_ _ | refine blk_drew ?_ | refine blk_alloc ?_ _));refine blk_put (cs:=#[.slice none 0 0]) ?_ 0 _ rfl;(with_reducible repeat (first | refine blk_drewN ?_ _ | refine blk_drew ?_ | refine blk_alloc ?_ _));exact BK9.out⟩
 have n4_ : Aside0 (IsS81 w0 (w6.setCell ⟨gb9,0,none⟩ (.slice Ao7 t2.length co7)) g s0_0 t8):=⟨is0_⟩
 have n5_ : Aside0 (KeepBut w (w6.setCell ⟨gb9,0,none⟩ (.slice Ao7 t2.length co7)) g none):=⟨hk_⟩
 have n6_ : Aside0 (Below w0.heap.size w0 (w6.setCell ⟨gb9,0,none⟩ (.slice Ao7 t2.length co7))):=⟨hbi0_⟩
 (try clear HO4)
 (try clear HO7)
 (try clear BK1)
 (try clear BK9)
 (try clear HI0)
 (try clear HK)
 (try clear HB)
 generalize (w6.setCell ⟨gb9,0,none⟩ (.slice Ao7 t2.length co7)) = w11 at n0_ n1_ n2_ n3_ n4_ n5_ n6_ ⊢
 have HO4:=n0_
 have HO7:=n1_
 have BK1:=n2_
 have BK9:=n3_
 have HI0:=n4_
 have HK:=n5_
 have HB:=n6_
 clear n0_ n1_ n2_ n3_ n4_ n5_ n6_
 have n0_:=a0_ (Kd.R_drew HO4.out)
 have n1_:=a0_ (Kd.R_drew HO7.out)
 have n2_:=a0_ (blk_drew BK1.out)
 have n3_:=a0_ (blk_drew BK9.out)
 have n4_:=a0_ (IsS81.drew HI0.out)
 have n5_:=a0_ (keep_drew HK.out)
 have n6_:=a0_ (below_drew1 HB.out)
 clear HO4
 clear HO7
 clear BK1
 clear BK9
 clear HI0
 clear HK
 clear HB
 have HO4:=n0_
 have HO7:=n1_
 have BK1:=n2_
 have BK9:=n3_
 have HI0:=n4_
 have HK:=n5_
 have HB:=n6_
 clear n0_ n1_ n2_ n3_ n4_ n5_ n6_
 refine start_ (n:=8) (S:=fun w'=>w'.cell? ⟨gb9,0,none⟩ = some (.slice Ao7 t2.length co7)) (ds:=[]) #[false,false,false,false,false,false,false,false] (by kernel_rfl) rfl rfl ((blk_cell BK9.out 0).trans rfl) (fun hHeld=>?_);refine with_tabW spec_groupClass.tab2 spec_groupClass.bits2 (fun HT_ HW_=>?_)
 generalize w11.drew = w12 at HO4 HO7 BK1 BK9 HI0 HK HB hHeld ⊢
 refine pure_ (i:=1) (N:=some 13) (v:=?_) (a':=?_) #[false,true,false,false,false,false,false,false] rfl rfl (any_of HT_.out (by kernel_rfl)) (fun _ _ _ h=>h) (Or.inl ⟨by rfl,?_⟩) ?_ ?_
 rotate_left
 ·intro w'
  go_simp
  with_reducible rfl
 rotate_left
 ·simp only [Act.put,s1_,s2_,s3_,i64_w,i32_w]
  rfl
 refine pure_ (i:=2) (N:=some 14) (v:=?_) (a':=?_) #[false,true,true,false,false,false,false,false] rfl rfl (any_of HT_.out (by kernel_rfl)) (fun _ _ _ h=>h) (Or.inl ⟨by rfl,?_⟩) ?_ ?_
 rotate_left
 ·intro w'
  go_simp
  with_reducible rfl
 rotate_left
 ·simp only [Act.put,s1_,s2_,s3_,i64_w,i32_w]
  rfl
 refine take_ (i:=0) (N:=some 12) (v:=?_) (a':=?_) #[true,true,true,false,false,false,false,false] rfl rfl (take_ofW HT_.out HW_.out (by kernel_rfl)) (fun _ _ _ h=>h) (Or.inl ⟨by rfl,?_⟩) hHeld ?_ ?_
 rotate_left
 ·intro w' s0
  go_simp
  with_reducible rfl
 rotate_left
 ·simp only [Act.put,s1_,s2_,s3_,i64_w,i32_w]
  rfl
 refine take_ (i:=3) (N:=some 15) (v:=?_) (a':=?_) #[true,true,true,true,false,false,false,false] rfl rfl (take_ofW HT_.out HW_.out (by kernel_rfl)) (fun _ _ _ h=>h) (Or.inl ⟨by rfl,?_⟩) hHeld ?_ ?_
 rotate_left
 ·intro w' s0
  go_simp
  with_reducible rfl
 rotate_left
 ·simp only [Act.put,s1_,s2_,s3_,i64_w,i32_w]
  rfl
 refine one_ (i:=4) (N:=some 16) #[true,true,true,true,true,false,false,false] rfl rfl (one_of HT_.out (by kernel_rfl)) (by decide) (fun K hK=>?_)
 refine goes_ Try.func72 (by kernel_rfl) rfl #[.pointer (some ⟨g,0,none⟩),.agg #[.slice Ao7 t2.length co7]] (by rfl) rfl rfl lm_ ?_
 with_reducible refine (spec_aClass.calls k g s0_0 t8 _ _ t2 t10 t11 w0 _ ?side1 ?side2 ?side3 ?side4 A3.out).mono ?_
 (case side1=>exact is0_)
 (case side2=>exact hbi0_)
 (case side3=>exact Kd.C_foot_own (IsS81.apart (is0_ : IsS81 w0 _ g s0_0 t8) (rr_ HO4.out) (by decide)) (fun _ h_=>h_.2))
 (case side4=>exact (Kd.R_reads' HO4.out).2.1)
 rintro e w13 ⟨rfl,hi,hb,hk⟩
 refine ⟨_,rfl,?_⟩
 have n0_:=kk_ hk BK1 NB1_0
 have n1_:=a0_ (Kd.R_mono (Kd.R_keep (IsS81.apart (is0_ : IsS81 w0 _ g s0_0 t8) (rr_ HO4.out) (by decide)) hk (fun _ h=>h.2)) (fun _ h=>h.1))
 have n2_:=a0_ (Kd.R_mono (Kd.R_keep (IsS81.apart (is0_ : IsS81 w0 _ g s0_0 t8) (rr_ HO7.out) (by decide)) hk (fun _ h=>h.2)) (fun _ h=>h.1))
 have n3_:=kk_ hk BK9 NB9_0
 have n4_:=a0_ (KeepBut.trans (w:=w) hk_ hk (.inl rfl))
 have n5_:=a0_ (hb)
 have n6_:=a0_ (hi)
 clear BK1
 clear HO4
 clear HO7
 clear BK9
 clear HK
 clear HB
 clear HI0
 have BK1:=n0_
 have HO4:=n1_
 have HO7:=n2_
 have BK9:=n3_
 have HK:=n4_
 have HB:=n5_
 have HI0:=n6_
 clear n0_ n1_ n2_ n3_ n4_ n5_ n6_
 (try clear hb)
 (try clear hb2)
 (try clear hk)
 (try clear hi)
 refine hK.out _ _ ((blk_cell BK9.out 0).trans rfl) (fun hHeld=>?_)
 clear hK K
 refine norm_ (a':=?_) ?_ ?_
 rotate_left
 ·show Act.put _ (some 16) _ = _
  simp only [Act.put,s1_,s2_,s3_,i64_w,i32_w]
  rfl
 refine one_ (i:=5) (N:=none) #[true,true,true,true,true,true,false,false] rfl rfl (one_of HT_.out (by kernel_rfl)) (by decide) (fun K hK=>?_)
 have hs14 : w13.cell? ⟨gb1,0,none⟩ = some (.slice none 0 0):=(blk_cell BK1.out 0).trans rfl
 have hfs14:=blk_frozen BK1.out 0
 have hns14_1:=NB9_1.out
 have hms14_1:=NB1_9.out
 refine skip_ (w1:=?_) (by rfl) rfl ?_ ?_
 rotate_left
 ·go_simp
  rfl
 refine hK.out _ _ (((cell_far (p:=⟨gb1,_,none⟩) NB9_1.out _).trans (hHeld))) (fun hHeld=>?_)
 clear hK K
 refine pure_ (i:=6) (N:=some 3) (v:=?_) (a':=?_) #[true,true,true,true,true,true,true,false] rfl rfl (any_of HT_.out (by kernel_rfl)) (fun _ _ _ h=>h) (Or.inl ⟨by rfl,?_⟩) ?_ ?_
 rotate_left
 ·intro w'
  go_simp
  with_reducible rfl
 rotate_left
 ·simp only [Act.put,s1_,s2_,s3_,i64_w,i32_w]
  rfl
 refine pure_ (i:=7) (N:=some 4) (v:=?_) (a':=?_) #[true,true,true,true,true,true,true,true] rfl rfl (any_of HT_.out (by kernel_rfl)) (fun _ _ _ h=>h) (Or.inl ⟨by rfl,?_⟩) ?_ ?_
 rotate_left
 ·intro w'
  go_simp
  with_reducible rfl
 rotate_left
 ·simp only [Act.put,s1_,s2_,s3_,i64_w,i32_w]
  rfl
 refine done_ (done_of HT_.out (by kernel_rfl)) ?_
 try go_wp2
 refine bodyPost_ret (results_ctt rfl _ _ gb1 25 #[.slice Ao7 t2.length co7] (0,0) _ rfl (by (with_reducible repeat (first | refine blk_drewN ?_ _ | refine blk_drew ?_ | refine blk_alloc ?_ _));refine blk_put (cs:=#[.slice none 0 0]) ?_ 0 _ rfl;(with_reducible repeat (first | refine blk_drewN ?_ _ | refine blk_drew ?_ | refine blk_alloc ?_ _));exact BK1.out) Try.underlying25 rfl (by kernel_rfl)) rfl ?_
 exact ⟨_,_,by first | rfl | (simp [errW_none,errW_some] <;> rfl) | (simp [*,errW_none,errW_some] <;> rfl),by (with_reducible repeat (first | apply Kd.R_alloc | apply Kd.R_drewN | apply Kd.R_drew));exact Kd.R_mono (Kd.R_far (p:=⟨gb1,0,none⟩) (Kd.R_types HO4.out BK1.out (by decide)) (fun _ hk=>hk.2) (.slice Ao7 t2.length co7)) (fun _ hk=>trivial),by (with_reducible repeat (first | apply Kd.R_alloc | apply Kd.R_drewN | apply Kd.R_drew));exact Kd.R_mono (Kd.R_far (p:=⟨gb1,0,none⟩) (Kd.R_types HO7.out BK1.out (by decide)) (fun _ hk=>hk.2) (.slice Ao7 t2.length co7)) (fun _ hk=>trivial),is0_,hbi0_,hk_⟩
theorem spec_groupClass_ev (b : List Int) (p : Int) (hb : byL b) (h0 : 0 ≤ p) (hp : p ≤ 1099511400000) : ∃ t g a q,Ev (fun k=>spec_groupClass.f k b p) (t,g,a,q) ∧ p ≤ q ∧ q ≤ p + 500 ∧ t.length ≤ 8 ∧ smT t = true ∧ g.length ≤ 16:=by
 obtain ⟨t,g,q,he,a1,a2,a3,a4,a5⟩:=spec_someGroup_ev b p hb h0 (by omega)
 obtain ⟨f,r,hf,f1,f2,_⟩:=spec_aClass_ev b q t hb (by omega) (by omega)
 exact ⟨t,g,f,r,Ev.bind he (Ev.bind hf (Ev.const rfl)),by omega,by omega,a3,a4,a5⟩
end Go.Proofs.Ytfphcdbnnienhaa.P
namespace Go.Proofs.Ytfphcdbnnienhaa.P
open Go.RowKit Go.Proofs.YtfphcdbnnienhaaW.PrintWords Go.Proofs.YtfphcdbnnienhaaW.PrintLast Go.Proofs.YtfphcdbnnienhaaW.PrintMore
attribute [local go_sem] max2_int min2_int max_two min_two max_three min_three max_four min_four
set_option linter.unusedVariables false
set_option linter.unusedSimpArgs false
def spec_DrawSplitGroup.f (k : Nat) (l0 : List Int) : Option ((List (S85)) × (List (S47)) × Int):=(spec_newReader.f l0).bind fun bt2=>((spec_groupClass.f k bt2.1 bt2.2).bind fun bt5=>(some (bt5.1,bt5.2.1,bt5.2.2.1)))
theorem spec_DrawSplitGroup.mono : ∀ a0 k,LeO (spec_DrawSplitGroup.f k a0) (spec_DrawSplitGroup.f (k + 1) a0):=by
 intro a0 k
 unfold spec_DrawSplitGroup.f
 repeat' first
   | (with_reducible exact spec_groupClass.mono _ _ _)
   | (with_reducible exact LeO.refl _)
   | (with_reducible exact LeO.none _)
   | (with_reducible refine LeO.ite ?_ ?_)
   | (with_reducible refine LeO.bind ?_ (fun _=>?_))
   | exact spec_groupClass.mono _ _ _
   | exact LeO.none _
   | refine LeO.ite ?_ ?_
   | refine LeO.bind ?_ (fun _=>?_)
set_option maxHeartbeats 8000000 in
set_option maxRecDepth 100000 in
theorem spec_DrawSplitGroup.calls (k : Nat) (A0 : Option Addr) (c0 : Nat) (l0 : List Int) (r1 : List (S85)) (r2 : List (S47)) (r3 : Int) (w : World) (hr0 : Kd.C (Kd.int .u8) w A0 l0.length l0) (hc0 : l0.length ≤ c0) (h : spec_DrawSplitGroup.f k l0 = some (r1,r2,r3)) :
  Calls Try.prog 24 #[.slice A0 l0.length c0] w fun e w'=>∃ v0_ v1_ : Value,e = .returned (.tuple #[.agg #[v0_],v1_,.int .i64 r3]) ∧ Kd.R k85 85 w' w.heap.size (fun _=>True) v0_ r1 ∧ Kd.R k47 47 w' w.heap.size (fun _=>True) v1_ r2 ∧ Below w.heap.size w w':=by
 have hu25:=Try.underlying25
 have HR0:=a0_ hr0
 have HC0:=a0_ hc0
 clear hr0 hc0
 have HB:=a0_ (Below.refl w.heap.size w)
 have H : ((spec_newReader.f l0).bind fun bt2=>((spec_groupClass.f k bt2.1 bt2.2).bind fun bt5=>(some (bt5.1,bt5.2.1,bt5.2.2.1)))) = some (r1,r2,r3):=h
 clear h
 replace H:=Option.bind_eq_some_iff.mp H
 obtain ⟨⟨t2,t3⟩,A20,H⟩:=H
 try dsimp only at H
 have A2:=a0_ A20
 clear A20
 replace H:=Option.bind_eq_some_iff.mp H
 obtain ⟨⟨t5,t8,t11,t12⟩,A30,H⟩:=H
 replace H : (some (t5,t8,t11)) = some (r1,r2,r3):=H
 have A3:=a0_ A30
 clear A30
 simp only [Option.some.injEq,Prod.mk.injEq] at H
 obtain ⟨rfl,rfl,rfl⟩:=H
 go_enter Try.func24,Try.ntmps24
 go_wp2_with (first | ((with_reducible refine gate_dst (N:=2) rfl ?_);refine box_event ?hg (N:=2) ?hd (cs:=#[.slice none 0 0]) (t:=25) ?hr ?_;(case hd=>rfl);(case hg=>rfl);(case hr=>first | (go_simp;done) | (go_simp;rfl));intro gb1 hg w4 hbox hb;have BK1:=a0_ (hbox);have GW1:=a0_ ((by rw [hg];exact (below_size hb_) : w.heap.size ≤ gb1));have GE1:=a0_ ((by rw [hg];exact (below_size hb_) : w.heap.size ≤ gb1));replace HB:=a0_ (below_step hb_ hb);clear hb hbox hg) | ((with_reducible refine gate_callee (f:=37) rfl ?_);refine goesL_ (some 6) rfl rfl Try.func37 (by kernel_rfl) rfl #[.slice A0 l0.length c0] rfl lm_ ?_;(with_reducible refine (spec_newReader.calls _ _ l0 t2 t3 w _ ?side1 ?side2 ?side3 A2.out).mono ?_);(case side1=>exact hb_);(case side2=>exact HR0.out);(case side3=>exact HC0.out);rintro e w5 ⟨g4,rfl,hi,hb,hb2⟩;refine ⟨_,rfl,?_⟩;have n0_:=a0_ (blk_below (bb_ BK1.out) hb2);have n1_:=a0_ (hb);have n2_:=a0_ (hi);have n3_:=a0_ (IsS81.ne_blk hi (blk_below (bb_ BK1.out) hb2) (by decide));have n4_:=a0_ (Ne.symm (IsS81.ne_blk hi (blk_below (bb_ BK1.out) hb2) (by decide)));clear BK1 HB;have BK1:=n0_;have HB:=n1_;have HI4:=n2_;have NB4_1:=n3_;have NB1_4:=n4_;clear n0_ n1_ n2_ n3_ n4_;(try clear hb);(try clear hb2);(try clear hk);(try clear hi)) | ((with_reducible refine gate_callee (f:=43) rfl ?_);refine goesL_ (some 7) rfl rfl Try.func43 (by kernel_rfl) rfl #[.pointer (some ⟨g4,0,none⟩)] rfl lm_ ?_;(with_reducible refine (spec_groupClass.calls k g4 t2 t3 t5 t8 t11 t12 w _ ?side1 ?side2 A3.out).mono ?_);(case side1=>repeat (first | (with_reducible first | exact HI4.out | apply IsS81.alloc | apply IsS81.drewN | apply IsS81.drew | apply IsS81.set_1 | refine IsS81.far ?_ NB4_1.out _) | exact HI4.out));(case side2=>repeat (first | (with_reducible first | exact HB.out | apply below_alloc | apply pw_below_drewN | apply below_drew1 | refine below_set ?_ (IsS81.ge HI4.out) | refine below_set ?_ GE1.out) | exact HB.out));rintro e w6 ⟨v6,v9,rfl,ho0,ho1,hi,hb,hk⟩;refine ⟨_,rfl,?_⟩;replace BK1:=kk_ hk BK1 NB1_4;have HO7:=a0_ (Kd.R_lower ho0 (below_size (by repeat (first | (with_reducible first | exact HB.out | apply below_alloc | apply pw_below_drewN | apply below_drew1 | refine below_set ?_ (IsS81.ge HI4.out) | refine below_set ?_ GE1.out) | exact HB.out))));have HO10:=a0_ (Kd.R_lower ho1 (below_size (by repeat (first | (with_reducible first | exact HB.out | apply below_alloc | apply pw_below_drewN | apply below_drew1 | refine below_set ?_ (IsS81.ge HI4.out) | refine below_set ?_ GE1.out) | exact HB.out))));replace HI4:=a0_ (hi);replace HB:=a0_ (hb);(try clear hb);(try clear ho0);(try clear ho1);obtain ⟨Ao7,co7,eo7⟩:=Kd.R_slice HO7.out;subst eo7;have hnb8:=NB1_4.out;have hnc8:=NB4_1.out;have hcz9_0 : w6.cell? ⟨gb1,0,none⟩ = some (.slice none 0 0):=(blk_cell BK1.out 0).trans rfl;have hfz9_0:=blk_frozen BK1.out 0))
 refine bodyPost_ret (results_ctt rfl _ _ gb1 25 #[.slice Ao7 t5.length co7] (0,0) _ rfl (by (with_reducible repeat (first | refine blk_drewN ?_ _ | refine blk_drew ?_ | refine blk_alloc ?_ _));refine blk_put (cs:=#[.slice none 0 0]) ?_ 0 _ rfl;(with_reducible repeat (first | refine blk_drewN ?_ _ | refine blk_drew ?_ | refine blk_alloc ?_ _));exact BK1.out) Try.underlying25 rfl (by kernel_rfl)) rfl ?_
 exact ⟨_,_,by first | rfl | (simp [errW_none,errW_some] <;> rfl) | (simp [*,errW_none,errW_some] <;> rfl),by (with_reducible repeat (first | apply Kd.R_alloc | apply Kd.R_drewN | apply Kd.R_drew));exact Kd.R_mono (Kd.R_far (p:=⟨gb1,0,none⟩) (Kd.R_types HO7.out BK1.out (by decide)) (fun _ hk=>hk.2) (.slice Ao7 t5.length co7)) (fun _ hk=>trivial),by (with_reducible repeat (first | apply Kd.R_alloc | apply Kd.R_drewN | apply Kd.R_drew));exact Kd.R_mono (Kd.R_far (p:=⟨gb1,0,none⟩) (Kd.R_types HO10.out BK1.out (by decide)) (fun _ hk=>hk.2) (.slice Ao7 t5.length co7)) (fun _ hk=>trivial),by repeat (first | (with_reducible first | exact HB.out | apply below_alloc | apply pw_below_drewN | apply below_drew1 | refine below_set ?_ (IsS81.ge HI4.out) | refine below_set ?_ GE1.out) | exact HB.out)⟩
theorem spec_DrawSplitGroup_ev (l : List Int) (hl : ∀ x ∈ l,(Lit.int .u8 x).wf = true) : ∃ t g a,Ev (fun k=>spec_DrawSplitGroup.f k l) (t,g,a) ∧ t.length ≤ 8 ∧ smT t = true ∧ g.length ≤ 16:=by
 obtain ⟨b,hn,hb⟩:=spec_newReader_ev l hl
 obtain ⟨t,g,a,q,he,_,_,a3,a4,a5⟩:=spec_groupClass_ev b 0 hb (by omega) (by omega)
 exact ⟨t,g,a,Ev.bind (Ev.const hn) (Ev.bind he (Ev.const rfl)),a3,a4,a5⟩
end Go.Proofs.Ytfphcdbnnienhaa.P
namespace Go.Proofs.Ytfphcdbnnienhaa.P
open Go.RowKit Go.Proofs.YtfphcdbnnienhaaW.PrintWords Go.Proofs.YtfphcdbnnienhaaW.PrintLast Go.Proofs.YtfphcdbnnienhaaW.PrintMore
attribute [local go_sem] max2_int min2_int max_two min_two max_three min_three max_four min_four
set_option linter.unusedVariables false
set_option linter.unusedSimpArgs false
def slices_Clip_Part.f (l0 : List (S47)) : Option ((List (S47))):=if 0 ≤ (l0.length : Int) then (if (l0.length : Int) ≤ (l0.length : Int) then (some (l0.take ((l0.length : Int) : Int).toNat)) else (none)) else (none)
set_option maxHeartbeats 8000000 in
set_option maxRecDepth 100000 in
theorem slices_Clip_Part.calls (P0_ : Nat → Prop) (u9000_ : Value) (l0 : List (S47)) (r : List (S47)) (w0 w : World) (hB : Below w0.heap.size w0 w) (ho0 : Kd.R k47 47 w w0.heap.size P0_ u9000_ l0) (h : slices_Clip_Part.f l0 = some r) :
  Calls Try.prog 39 #[u9000_] w fun e w'=>∃ v0_ : Value,e = .returned (v0_) ∧ Kd.R k47 47 w' w0.heap.size (fun k_=>(P0_ k_ ∨ w.heap.size ≤ k_)) v0_ r ∧ Below w0.heap.size w0 w' ∧ Kept w w' (fun k_=>P0_ k_):=by
 have HO0:=a0_ (show Kd.R k47 47 w w0.heap.size (fun k_=>(P0_ k_ ∨ w.heap.size ≤ k_)) u9000_ l0 from Kd.R_mono ho0 (fun k_ hk=>(.inl hk)))
 have HK:=a0_ (Kept.refl w (fun k_=>P0_ k_))
 have HW0:=a0_ hB.size
 have HB:=a0_ hB
 clear hB
 have H : (if 0 ≤ (l0.length : Int) then (if (l0.length : Int) ≤ (l0.length : Int) then (some (l0.take ((l0.length : Int) : Int).toNat)) else (none)) else (none)) = some r:=h
 clear h
 by_cases c2 : 0 ≤ (l0.length : Int)
 ·rw [if_pos c2] at H
  have c2b0:=eq_true c2
  have c2b1 : decide (0 ≤ (l0.length : Int)) = true:=decide_eq_true c2
  clear c2
  by_cases c3 : (l0.length : Int) ≤ (l0.length : Int)
  ·rw [if_pos c3] at H
   have c3b0:=eq_true c3
   have c3b1 : decide ((l0.length : Int) ≤ (l0.length : Int)) = true:=decide_eq_true c3
   clear c3
   obtain ⟨y1,hy1⟩ : ∃ y_ : List (S47),y_ = (l0.take ((l0.length : Int) : Int).toNat):=⟨_,rfl⟩
   replace H : (some y1) = some r:=by first | (rw [hy1];with_reducible exact H) | (have H2_:=(Option.bind_some _ _).symm.trans H;rw [hy1];with_reducible exact H2_) | (have H2_:=(Option.bind_some _ _).symm.trans H;with_reducible exact H2_) | with_reducible exact H | (rw [hy1];exact H) | exact H
   have Ny1:=a0_ hy1
   clear hy1
   obtain rfl:=Option.some.inj H
   obtain ⟨Ao4,co4,eo4⟩:=Kd.R_slice HO0.out
   subst eo4
   have q5 : l0.length ≤ co4:=(Kd.R_reads' HO0.out).2.1
   have hr5:=Kd.R_clip2 HO0.out (((l0.length : Int) : Int).toNat) (by omega)
   rw [← Ny1.out] at hr5
   clear HO0
   have HO3:=a0_ hr5
   clear hr5
   go_enter Try.func39,Try.ntmps39
   go_wp2
   go_ret
   exact ⟨_,by first | rfl | (simp [errW_none,errW_some] <;> rfl) | (simp [*,errW_none,errW_some] <;> rfl),by (with_reducible repeat (first | apply Kd.R_alloc | apply Kd.R_drewN | apply Kd.R_drew));exact HO3.out,hb_,by repeat (first | (with_reducible first | exact HK.out | apply Kept.alloc | apply Kept.drewN | apply Kept.drew) | exact HK.out)⟩
  ·rw [if_neg c3] at H
   exact absurd H (by simp)
 ·rw [if_neg c2] at H
  exact absurd H (by simp)
theorem slices_Clip_Part_ev (l : List Prt) : slices_Clip_Part.f l = some l:=by
 unfold slices_Clip_Part.f
 rw [if_pos (by omega),if_pos (by omega)]
 simp
end Go.Proofs.Ytfphcdbnnienhaa.P
namespace Go.Proofs.Ytfphcdbnnienhaa.P
open Go.RowKit Go.Proofs.YtfphcdbnnienhaaW.PrintWords Go.Proofs.YtfphcdbnnienhaaW.PrintLast Go.Proofs.YtfphcdbnnienhaaW.PrintMore
attribute [local go_sem] max2_int min2_int max_two min_two max_three min_three max_four min_four
set_option linter.unusedVariables false
set_option linter.unusedSimpArgs false
def impl_end.l0 : Nat → List (S47) → Int → Int → Option (Int)
 | 0,_,_,_=>none
 | k + 1,x0,x1,x5=>if x5 < (x0.length : Int) then (if 0 ≤ x5 then (if 0 ≤ x1 then (if x1 < (x0.length : Int) then (if ((rd_T47 x0 x5).f0) > ((rd_T47 x0 x1).f0) then (impl_end.l0 k x0 x1 (wrap64 (x5 + 1))) else (some x5)) else (none)) else (none)) else (none)) else (some x5)
def impl_end.f (k : Nat) (l0 : List (S47)) (a1 : Int) : Option (Int):=impl_end.l0 k l0 a1 (wrap64 (a1 + 1))
theorem impl_end.mono_l : ∀ k,(∀ y0 y1 y2,LeO (impl_end.l0 k y0 y1 y2) (impl_end.l0 (k + 1) y0 y1 y2))
 | 0=>fun _ _ _ r h=>by simp [impl_end.l0] at h
 | k + 1=>by
  have ih0:=impl_end.mono_l k
  ·intro y0 y1 y2
   unfold impl_end.l0
   repeat' first
   | (with_reducible exact ih0 _ _ _)
   | (with_reducible exact LeO.refl _)
   | (with_reducible exact LeO.none _)
   | (with_reducible refine LeO.ite ?_ ?_)
   | (with_reducible refine LeO.bind ?_ (fun _=>?_))
   | exact ih0 _ _ _
   | exact LeO.none _
   | refine LeO.ite ?_ ?_
   | refine LeO.bind ?_ (fun _=>?_)
theorem impl_end.mono : ∀ a0 a1 k,LeO (impl_end.f k a0 a1) (impl_end.f (k + 1) a0 a1):=by
 intro a0 a1 k
 have ih0:=impl_end.mono_l k
 unfold impl_end.f
 repeat' first
   | (with_reducible exact ih0 _ _ _)
   | (with_reducible exact LeO.refl _)
   | (with_reducible exact LeO.none _)
   | (with_reducible refine LeO.ite ?_ ?_)
   | (with_reducible refine LeO.bind ?_ (fun _=>?_))
   | exact ih0 _ _ _
   | exact LeO.none _
   | refine LeO.ite ?_ ?_
   | refine LeO.bind ?_ (fun _=>?_)
set_option maxHeartbeats 8000000 in
set_option maxRecDepth 100000 in
theorem impl_end.calls (k : Nat) (A0 : Option Addr) (c0 : Nat) (l0 : List (S47)) (a1 : Int) (r : Int) (w : World) (hr0 : Kd.C k47 w A0 l0.length l0) (hc0 : l0.length ≤ c0) (h : impl_end.f k l0 a1 = some r) :
  Calls Try.prog 90 #[.slice A0 l0.length c0,.int .i64 a1] w fun e w'=>e = .returned (.int .i64 r) ∧ Drawn0 w w':=by
 have HR0:=a0_ hr0
 have HC0:=a0_ hc0
 clear hr0 hc0
 have H : (impl_end.l0 k l0 a1 (wrap64 (a1 + 1))) = some r:=h
 clear h
 have H':=a0_ H
 clear H
 go_enter Try.func90,Try.ntmps90
 go_wp2
 repeat (go_quiet (fail);try go_wp2)
 go_loopg [5] k (fun kq v5 w'=>∃ (x5_1 : Int),v5 = .int .i64 x5_1 ∧ Aside0 (impl_end.l0 kq l0 a1 x5_1 = some r) ∧ Aside0 (kq ≤ k) ∧ Drawn0 w w')
 case atStart=>exact ⟨(wrap64 (a1 + 1)),(by first | rfl | (simp;done) | (simp [*];done)),H',⟨Nat.le_refl _⟩,by repeat (first | exact Drawn0.refl _ | apply Drawn0.step)⟩
 case round =>
  clear H'
  try clear p2
  obtain ⟨x5_1,rfl,HA,HK1,⟨m1,rfl⟩⟩:=hrel
  cases gk with
  | zero=>exact absurd HA.out (by simp [impl_end.l0])
  | succ k1 =>
   have H:=HA.out
   clear HA
   simp only [impl_end.l0] at H
   by_cases c3 : x5_1 < (l0.length : Int)
   ·rw [if_pos c3] at H
    have c3b0 : decide (x5_1 < (l0.length : Int)) = true:=decide_eq_true c3
    clear c3
    by_cases c4 : 0 ≤ x5_1
    ·rw [if_pos c4] at H
     have c4b0 : decide (0 ≤ x5_1) = true:=decide_eq_true c4
     clear c4
     by_cases c5 : 0 ≤ a1
     ·rw [if_pos c5] at H
      have c5b0 : decide (0 ≤ a1) = true:=decide_eq_true c5
      clear c5
      by_cases c6 : a1 < (l0.length : Int)
      ·rw [if_pos c6] at H
       have c6b0 : decide (a1 < (l0.length : Int)) = true:=decide_eq_true c6
       clear c6
       by_cases c7 : ((rd_T47 l0 x5_1).f0) > ((rd_T47 l0 a1).f0)
       ·rw [if_pos c7] at H
        have c7b0 : decide (((rd_T47 l0 a1).f0) < ((rd_T47 l0 x5_1).f0)) = true:=decide_eq_true c7
        clear c7
        have H':=a0_ H
        clear H
        have p1 : 0 ≤ (x5_1 : Int):=of_decide_eq_true (by first | (with_reducible assumption) | assumption)
        have q1 : x5_1 < (l0.length : Int):=of_decide_eq_true (by first | (with_reducible assumption) | assumption)
        obtain ⟨ad1,e1,hx1_0,hx1_1,hx1_2,hx1_3⟩:=at_T47 HR0.out x5_1 p1 q1
        cases e1
        replace p1:=eq_true p1
        replace q1:=eq_true q1
        have p2 : 0 ≤ (a1 : Int):=of_decide_eq_true (by first | (with_reducible assumption) | assumption)
        have q2 : a1 < (l0.length : Int):=of_decide_eq_true (by first | (with_reducible assumption) | assumption)
        obtain ⟨ad2,e2,hx2_0,hx2_1,hx2_2,hx2_3⟩:=at_T47 HR0.out a1 p2 q2
        obtain rfl : ad1 = ad2:=(by injection e2)
        replace p2:=eq_true p2
        replace q2:=eq_true q2
        go_wp2
        repeat (go_quiet (fail);try go_wp2)
        go_roundg k1
        case measure=>have:=HK1.out;omega
        case rel=>exact ⟨(wrap64 (x5_1 + 1)),(by first | rfl | (simp;done) | (simp [*];done)),H',⟨by have:=HK1.out;omega⟩,by repeat (first | exact Drawn0.refl _ | apply Drawn0.step)⟩
       ·rw [if_neg c7] at H
        have c7b0 : decide (((rd_T47 l0 a1).f0) < ((rd_T47 l0 x5_1).f0)) = false:=decide_eq_false c7
        clear c7
        obtain rfl:=Option.some.inj H
        have p1 : 0 ≤ (x5_1 : Int):=of_decide_eq_true (by first | (with_reducible assumption) | assumption)
        have q1 : x5_1 < (l0.length : Int):=of_decide_eq_true (by first | (with_reducible assumption) | assumption)
        obtain ⟨ad1,e1,hx1_0,hx1_1,hx1_2,hx1_3⟩:=at_T47 HR0.out x5_1 p1 q1
        cases e1
        replace p1:=eq_true p1
        replace q1:=eq_true q1
        have p2 : 0 ≤ (a1 : Int):=of_decide_eq_true (by first | (with_reducible assumption) | assumption)
        have q2 : a1 < (l0.length : Int):=of_decide_eq_true (by first | (with_reducible assumption) | assumption)
        obtain ⟨ad2,e2,hx2_0,hx2_1,hx2_2,hx2_3⟩:=at_T47 HR0.out a1 p2 q2
        obtain rfl : ad1 = ad2:=(by injection e2)
        replace p2:=eq_true p2
        replace q2:=eq_true q2
        go_wp2
        repeat (go_quiet (fail);try go_wp2)
        go_ret
        exact ⟨by first | rfl | (simp;done) | (simp [*];done),by repeat (first | exact Drawn0.refl _ | apply Drawn0.step)⟩
      ·rw [if_neg c6] at H
       exact absurd H (by simp)
     ·rw [if_neg c5] at H
      exact absurd H (by simp)
    ·rw [if_neg c4] at H
     exact absurd H (by simp)
   ·rw [if_neg c3] at H
    have c3b0 : decide (x5_1 < (l0.length : Int)) = false:=decide_eq_false c3
    clear c3
    obtain rfl:=Option.some.inj H
    go_wp2
    repeat (go_quiet (fail);try go_wp2)
    go_ret
    exact ⟨by first | rfl | (simp;done) | (simp [*];done),by repeat (first | exact Drawn0.refl _ | apply Drawn0.step)⟩
theorem impl_end_ev (g : List Prt) (i : Nat) (hi : i < g.length) (hl : g.length ≤ 9223372036854775807) : Ev (fun k=>impl_end.f k g (i : Int)) ((endG g i : Nat) : Int):=by
 have key : ∀ d j,j + d = g.length → Ev (fun k=>impl_end.l0 k g (i : Int) (j : Int)) ((j + ((g.drop j).takeWhile (fun p=>decide ((g.getD i z47).f0 < p.f0))).length : Nat) : Int):=by
  intro d
  induction d with
  | zero =>
   intro j hj
   rw [List.drop_eq_nil_of_le (by omega)]
   refine Ev.succ (Ev.congr (F:=fun _=>some ((j : Nat) : Int)) (Ev.const rfl) (fun k=>?_))
   simp only [impl_end.l0]
   rw [if_neg (by omega)]
  | succ d ih =>
   intro j hj
   have hlt : j < g.length:=by omega
   have hrd : rd_T47 g (j : Int) = g[j]:=by simp [rd_T47,hlt]
   have hri : rd_T47 g (i : Int) = g.getD i z47:=by simp [rd_T47]
   rw [List.drop_eq_getElem_cons hlt,List.takeWhile_cons]
   refine Ev.succ (Ev.congr (F:=fun k=>if (g.getD i z47).f0 < g[j].f0 then impl_end.l0 k g (i : Int) ((j + 1 : Nat) : Int) else some (j : Int)) ?_ (fun k=>?_))
   ·by_cases h : (g.getD i z47).f0 < g[j].f0
    ·refine Ev.pos h ?_
     rw [decide_eq_true h,if_pos rfl,List.length_cons]
     have:=ih (j + 1) (by omega)
     rw [show j + 1 + ((g.drop (j + 1)).takeWhile (fun p=>decide ((g.getD i z47).f0 < p.f0))).length = j + (((g.drop (j + 1)).takeWhile (fun p=>decide ((g.getD i z47).f0 < p.f0))).length + 1) by omega] at this
     exact this
    ·refine Ev.neg h ?_
     rw [decide_eq_false h,if_neg (by simp)]
     exact Ev.const rfl
   ·simp only [impl_end.l0]
    rw [if_pos (by omega),if_pos (by omega),if_pos (by omega),if_pos (by omega),hrd,hri,wrap_succ (i:=(j : Int)) (n:=g.length) (by omega) (by omega) (by omega)]
    rfl
 have:=key (g.length - (i + 1)) (i + 1) (by omega)
 refine Ev.congr this (fun k=>?_)
 unfold impl_end.f
 rw [wrap_succ (i:=(i : Int)) (n:=g.length) (by omega) (by omega) (by omega)]
 rfl
end Go.Proofs.Ytfphcdbnnienhaa.P
namespace Go.Proofs.Ytfphcdbnnienhaa.P
open Go.RowKit Go.Proofs.YtfphcdbnnienhaaW.PrintWords Go.Proofs.YtfphcdbnnienhaaW.PrintLast Go.Proofs.YtfphcdbnnienhaaW.PrintMore
attribute [local go_sem] max2_int min2_int max_two min_two max_three min_three max_four min_four
set_option linter.unusedVariables false
set_option linter.unusedSimpArgs false
theorem impl_with_1.callsF (B g : Nat) (lb : Array Value) (pq : Bool) (q : Prt) (w : World) (eg : ∀ args w,(callFunc g args).run Try.prog w = .ok (.enter g args) w) (hB : w.heap[B]? = some (.cells #[.func (.func g) #[] lb] 68 (0,0))) (hp : q.f1 = false → ∀ W,Below w.heap.size w W → Calls Try.prog g (#[.agg #[.int .i64 q.f0,.bool q.f1,.int .i64 q.f2,.int .i64 q.f3]] ++ lb) W fun e w'=>e = .returned (.bool pq) ∧ Below W.heap.size W w') :
  Calls Try.prog 91 #[.agg #[.int .i64 q.f0,.bool q.f1,.int .i64 q.f2,.int .i64 q.f3],.pointer (some ⟨B,0,none⟩)] w fun e w'=>e = .returned (.bool (!q.f1 && pq)) ∧ Below w.heap.size w w':=by
 have hu74:=Try.underlying47
 obtain ⟨p0,p1,p2,p3⟩:=q
 have HB:=a0_ (below1 w (.cells #[.int .i64 p0,.bool p1,.int .i64 p2,.int .i64 p3] 47))
 have hcell : (w.alloc (.cells #[.int .i64 p0,.bool p1,.int .i64 p2,.int .i64 p3] 47)).cell? ⟨B,0,none⟩ = some (.func (.func g) #[] lb):=(blk_cell (blk_keptB hB HB.out) 0).trans rfl
 have hx0:=(blk_cell (heap_new1 w (.cells #[.int .i64 p0,.bool p1,.int .i64 p2,.int .i64 p3] 47)) 0).trans rfl
 have hx1:=(blk_cell (heap_new1 w (.cells #[.int .i64 p0,.bool p1,.int .i64 p2,.int .i64 p3] 47)) 1).trans rfl
 have hx2:=(blk_cell (heap_new1 w (.cells #[.int .i64 p0,.bool p1,.int .i64 p2,.int .i64 p3] 47)) 2).trans rfl
 have hx3:=(blk_cell (heap_new1 w (.cells #[.int .i64 p0,.bool p1,.int .i64 p2,.int .i64 p3] 47)) 3).trans rfl
 cases p1 with
 | true =>
  clear hB hp
  go_enter Try.func91,Try.ntmps91
  go_wp2
  go_ret
  exact ⟨rfl,HB.out⟩
 | false =>
  have hcon:=hp rfl _ HB.out
  clear hB hp
  go_enter Try.func91,Try.ntmps91
  go_wp2_with (go_at_fn g;refine hcon.mono ?_;rintro e w' ⟨rfl,hb'⟩)
  go_ret
  exact ⟨by simp,below_step HB.out hb'⟩
end Go.Proofs.Ytfphcdbnnienhaa.P
namespace Go.Proofs.Ytfphcdbnnienhaa.P
open Go.RowKit Go.Proofs.YtfphcdbnnienhaaW.PrintWords Go.Proofs.YtfphcdbnnienhaaW.PrintLast Go.Proofs.YtfphcdbnnienhaaW.PrintMore
attribute [local go_sem] max2_int min2_int max_two min_two max_three min_three max_four min_four
set_option linter.unusedVariables false
set_option linter.unusedSimpArgs false
set_option maxHeartbeats 4000000 in
set_option maxRecDepth 100000 in
theorem impl_with.callsF (A : Option Addr) (c : Nat) (l : List Prt) (g : Nat) (lb : Array Value) (p : Prt → Bool) (w : World) (eg : ∀ args w,(callFunc g args).run Try.prog w = .ok (.enter g args) w)
  (hr : Kd.C k47 w A l.length l) (hc : l.length ≤ c) (hl : l.length ≤ 1048576) (hp : ∀ q,q ∈ l → q.f1 = false → ∀ W,Below w.heap.size w W → Calls Try.prog g (#[.agg #[.int .i64 q.f0,.bool q.f1,.int .i64 q.f2,.int .i64 q.f3]] ++ lb) W fun e w'=>e = .returned (.bool (p q)) ∧ Below W.heap.size W w') :
  Calls Try.prog 77 #[.slice A l.length c,.func (.func g) #[] lb] w fun e w'=>∃ v : Value,e = .returned v ∧ Kd.R k47 47 w' w.heap.size (fun _=>True) v (selW p l l.length) ∧ Below w.heap.size w w':=by
 have HP:=a0_ hp
 have HR:=a0_ hr
 have HC:=a0_ hc
 have HL:=a0_ hl
 have eg2 : ∀ args w,(callFunc 91 args).run Try.prog w = .ok (.enter 91 args) w:=enters_of Try.func91 (by kernel_rfl) rfl
 have EG:=a0_ eg
 have EG2:=a0_ eg2
 clear hp hr hc eg eg2
 have HB:=a0_ (below1 w (.cells #[.func (.func g) #[] lb] 68))
 have BK:=a0_ (heap_new1 w (.cells #[.func (.func g) #[] lb] 68))
 obtain ⟨y1,hy1⟩ : ∃ y_ : List (S47),y_ = (([] : List (S47))):=⟨_,rfl⟩
 have Ny1:=a0_ hy1
 clear hy1
 go_enter Try.func77,Try.ntmps77
 go_wp2_with ((with_reducible refine gate_dst (N:=8) rfl ?_);refine Kd.R_lit k47 _ 47 ?hg (N:=8) ?hd (xs:=([] : List (S47))) (inner:=[]) (ok:=fun _=>True) (okp:=fun _=>True) ?hr ?hp (fun _ hk=>hk) trivial (Below.refl _ _) (Nat.le_refl _) (by simp) ?_;(case hd=>rfl);(case hg=>rfl);(case hr=>first | (go_simp;done) | (go_simp;rfl));(case hp=>exact (Reps.none _ _));intro v2 w4 ho5 hb hg_ hnew_;clear hg_ hnew_;have HO:=a0_ (Kd.R_lower ho5 (below_size HB.out));replace BK:=a0_ (blk_keptB BK.out hb);replace HB:=a0_ (below_step HB.out hb);clear hb ho5)
 go_loopg [5,11] l.length (fun gg s5 s11 wr=>∃ kk : Nat,kk ≤ l.length ∧ l.length - kk ≤ gg ∧ s11 = .int .i64 kk ∧ Aside0 (Kd.R k47 47 wr w.heap.size (fun _=>True) s5 (selW p l kk)) ∧ Aside0 (Below w.heap.size w wr) ∧ Aside0 (wr.heap[w.heap.size]? = some (.cells #[.func (.func g) #[] lb] 68 (0,0))))
 case atStart=>exact ⟨0,Nat.zero_le _,by omega,rfl,HO,HB,BK⟩
 case round =>
  clear HB HO BK
  obtain ⟨kk,hkk,hg,rfl,HO,HB,BK⟩:=hrel
  by_cases hlt : kk < l.length
  ·have hltz : (kk : Int) < (l.length : Int):=by omega
   have hst:=selW_succ p l kk
   have hln:=a0_ (selW_len p l kk)
   have hmax : l.length ≤ 9223372036854775807:=by omega
   obtain ⟨ad,ea,hx0,hx1,hx2,hx3⟩:=at_T47 HR.out (kk : Int) (by omega) (by omega)
   cases ea
   have hrd : rd_T47 l (kk : Int) = l.getD kk z47:=by simp [rd_T47]
   rw [hrd] at hx0 hx1 hx2 hx3
   rw [Int.toNat_natCast] at hx0 hx1 hx2 hx3
   replace hx0:=(HB.out.cell (World.block_lt_of_cell? w _ hx0)).trans hx0
   replace hx1:=(HB.out.cell (World.block_lt_of_cell? w _ hx1)).trans hx1
   replace hx2:=(HB.out.cell (World.block_lt_of_cell? w _ hx2)).trans hx2
   replace hx3:=(HB.out.cell (World.block_lt_of_cell? w _ hx3)).trans hx3
   clear hrd
   have he1:=endG_le l kk hlt
   have he2:=endG_gt l kk
   obtain ⟨kE,hkE⟩:=Ev.out (impl_end_ev l kk hlt hmax)
   have HEN:=a0_ (fun (W : World) (hb : Below w.heap.size w W)=>impl_end.calls kE (some ad) c l (kk : Int) ((endG l kk : Nat) : Int) W (Kd.C_below HR.out hb) HC.out hkE)
   obtain ⟨i013,hi013,_,hsz13,_⟩:=info_parts info47
   have hcut:=cut_mid (P:=Try.prog) 26 47 .i64 .i64 Try.underlying26 hi013 4 hsz13 (some ad) l.length c (kk : Int) ((endG l kk : Nat) : Int) (by omega) (by omega) (by omega) HC.out
   have hrc:=fun (W : World) (hb : Below w.heap.size w W)=>Kd.C_mid (lo:=kk) (hi:=endG l kk) (c:=c) (Kd.C_below HR.out hb) (by omega) (by omega) HC.out
   simp only [Int.toNat_natCast] at hcut
   have hlen : endG l kk - kk = ((l.take (endG l kk)).drop kk).length:=by rw [List.length_drop,List.length_take];omega
   rw [hlen] at hcut
   have hsub : ∀ q,q ∈ (l.take (endG l kk)).drop kk → q ∈ l:=fun q hq=>List.mem_of_mem_take (List.mem_of_mem_drop hq)
   have hkw : keepW p l kk = ((l.take (endG l kk)).drop kk).any (fun q=>!q.f1 && p q):=by unfold keepW;rw [mid_any]
   have hcl : ((l.take (endG l kk)).drop kk).length ≤ c - kk:=by rw [← hlen];have:=HC.out;omega
   generalize (l.take (endG l kk)).drop kk = sub at hcut hrc hlen hsub hkw hcl
   generalize endG l kk = en at HEN hcut
   obtain ⟨A13,hA13⟩ : ∃ AZ_,AZ_ = (if c = kk then (some ad) else ((some ad) : Option Addr).map (·.add (kk * 4))):=⟨_,rfl⟩
   obtain ⟨c13,hc13⟩ : ∃ cZ_,cZ_ = c - kk:=⟨_,rfl⟩
   have hrc2 : ∀ W : World,Below w.heap.size w W → Kd.C k47 W A13 sub.length sub:=fun W hb=>by rw [hA13];exact hrc W hb
   rw [← hA13,← hc13] at hcut
   rw [← hc13] at hcl
   have HCF:=a0_ (fun (W : World) (hb : Below w.heap.size w W) (hB : W.heap[w.heap.size]? = some (.cells #[.func (.func g) #[] lb] 68 (0,0)))=>slices_ContainsFunc_Part.callsF A13 c13 sub 91 #[.pointer (some ⟨w.heap.size,0,none⟩)] (fun q=>!q.f1 && p q) W EG2.out (hrc2 W hb) hcl (fun q hq W' hW=>impl_with_1.callsF w.heap.size g lb (p q) q W' EG.out (blk_keptB hB hW) (fun hf W2 hW2=>HP.out q (hsub q hq) hf W2 (below_step (below_step hb hW) hW2))))
   rw [← hkw] at HCF
   have HH:=a0_ hlen
   clear hkE hrc hrc2 hsub hkw hcl hi013 hsz13 hA13 hc13 hlen he1 he2
   generalize hy : l.getD kk z47 = y at hx0 hx1 hx2 hx3 hst
   clear hy
   obtain ⟨y0,y1,y2,y3⟩:=y
   go_upto_region 5 with (fail)
   have HB1:=a0_ (below_alloc HB.out (.cells #[.int .i64 y0,.bool y1,.int .i64 y2,.int .i64 y3] 47))
   have BK1:=a0_ (blk_alloc BK.out (.cells #[.int .i64 y0,.bool y1,.int .i64 y2,.int .i64 y3] 47))
   have BY:=a0_ (heap_new1 wr (.cells #[.int .i64 y0,.bool y1,.int .i64 y2,.int .i64 y3] 47))
   have HO1:=a0_ (Kd.R_alloc HO.out (.cells #[.int .i64 y0,.bool y1,.int .i64 y2,.int .i64 y3] 47))
   clear HB BK HO hx0 hx1 hx2 hx3
   generalize wr.alloc (.cells #[.int .i64 y0,.bool y1,.int .i64 y2,.int .i64 y3] 47) = W1 at HB1 BK1 BY HO1 ⊢
   generalize wr.heap.size = gb at BY ⊢
   have hcz : W1.cell? ⟨w.heap.size,0,none⟩ = some (.func (.func g) #[] lb):=(blk_cell BK1.out 0).trans rfl
   cases hq : keepW p l kk with
   | true =>
    rw [hq] at HCF hst
    have HST:=a0_ hst
    clear hst hq
    go_wp2_with (first
     | (go_at_call 90;(with_reducible refine (HEN.out _ HB1.out).mono ?_);rintro e w' ⟨rfl,⟨nd,rfl⟩⟩)
     | (go_at_call 45;refine (HCF.out _ (pw_below_drewN HB1.out _) (blk_drewN BK1.out _)).mono ?_;rintro e w2 ⟨rfl,hb2⟩;replace HO1:=a0_ (Kd.R_below (Kd.R_drewN HO1.out _) hb2);replace BK1:=a0_ (blk_keptB (blk_drewN BK1.out _) hb2);replace BY:=a0_ (blk_keptB (blk_drewN BY.out _) hb2);replace HB1:=a0_ (below_step (pw_below_drewN HB1.out _) hb2);clear hb2;have hz0:=(blk_cell BY.out 0).trans rfl;have hz1:=(blk_cell BY.out 1).trans rfl;have hz2:=(blk_cell BY.out 2).trans rfl;have hz3:=(blk_cell BY.out 3).trans rfl)
     | ((with_reducible refine gate_builtin (b:=.append) (xs:=#[.tmp 24,.tmp 26]) rfl ?_);at_builtin;refine Kd.R_append k47 (w0:=w) w.heap.size rfl (.tmp 24) (.tmp 26) 26 47 (.agg #[(.int .i64 0),(.bool false),(.int .i64 0),(.int .i64 0)]) 32 rfl Try.underlying26 info47 rfl (by decide) (by omega) _ _ (⟨y0,y1,y2,y3⟩ : S47) [.int .i64 y0,.bool y1,.int .i64 y2,.int .i64 y3] (fun _=>True) (fun _=>False) rfl rfl (k47_mkM _ _ _ (⟨y0,y1,y2,y3⟩ : S47)) (fun _ hk=>hk.elim) (fun _ _=>trivial) HO1.out HB1.out (below_size HB1.out) (by have:=hln.out;have:=HL.out;omega) ?_;intro v3 w3 ho hb hg3 hat;replace BK1:=a0_ (blk_grown BK1.out hg3 (Kd.R_ne HO1.out BK1.out (by decide)));replace HO1:=a0_ ho;replace HB1:=a0_ hb;clear ho hb hg3 hat))
    go_roundg (l.length - (kk + 1))
    case measure=>omega
    case rel=>exact ⟨kk + 1,by omega,by omega,by go_num,⟨by rw [HST.out];exact HO1.out⟩,HB1,BK1⟩
   | false =>
    rw [hq] at HCF hst
    have HST:=a0_ hst
    clear hst hq
    go_wp2_with (first
     | (go_at_call 90;(with_reducible refine (HEN.out _ HB1.out).mono ?_);rintro e w' ⟨rfl,⟨nd,rfl⟩⟩)
     | (go_at_call 45;refine (HCF.out _ (pw_below_drewN HB1.out _) (blk_drewN BK1.out _)).mono ?_;rintro e w2 ⟨rfl,hb2⟩;replace HO1:=a0_ (Kd.R_below (Kd.R_drewN HO1.out _) hb2);replace BK1:=a0_ (blk_keptB (blk_drewN BK1.out _) hb2);replace HB1:=a0_ (below_step (pw_below_drewN HB1.out _) hb2);clear hb2))
    go_roundg (l.length - (kk + 1))
    case measure=>omega
    case rel=>exact ⟨kk + 1,by omega,by omega,by go_num,⟨by rw [HST.out];simpa using HO1.out⟩,HB1,BK1⟩
  ·have hltz : ¬ (kk : Int) < (l.length : Int):=by omega
   have : kk = l.length:=by omega
   subst this
   have HCL:=a0_ (slices_Clip_Part_ev (selW p l l.length))
   go_wp2_with (go_at_call 39;refine (slices_Clip_Part.calls (fun _=>True) _ (selW p l l.length) (selW p l l.length) w wr HB.out HO.out HCL.out).mono ?_;rintro e w2 ⟨v2,rfl,ho2,hb2,hk2⟩)
   go_ret
   exact ⟨_,rfl,Kd.R_mono ho2 (fun _ _=>trivial),hb2⟩
end Go.Proofs.Ytfphcdbnnienhaa.P
namespace Go.Proofs.Ytfphcdbnnienhaa.P
open Go.RowKit Go.Proofs.YtfphcdbnnienhaaW.PrintWords Go.Proofs.YtfphcdbnnienhaaW.PrintLast Go.Proofs.YtfphcdbnnienhaaW.PrintMore
attribute [local go_sem] max2_int min2_int max_two min_two max_three min_three max_four min_four
set_option linter.unusedVariables false
set_option linter.unusedSimpArgs false
theorem impl_Tree_split_1.callsF (B D : Nat) (A : Option Addr) (c : Nat) (t : List Cls) (a : Int) (q : Prt) (w : World) (hv : vT t = true) (hq : q.f2 < (t.length : Int)) (hB : w.heap[B]? = some (.cells #[.slice A t.length c] 25 (0,0))) (hD : w.heap[D]? = some (.cells #[.int .i64 a] 3 (0,0))) (hr : Kd.C k85 w A t.length t) (hc : t.length ≤ c) :
  Calls Try.prog 78 #[.agg #[.int .i64 q.f0,.bool q.f1,.int .i64 q.f2,.int .i64 q.f3],.pointer (some ⟨B,0,none⟩),.pointer (some ⟨D,0,none⟩)] w fun e w'=>e = .returned (.bool (isA t q.f2 a == true)) ∧ Below w.heap.size w w':=by
 have hu31:=Try.underlying25
 have hu74:=Try.underlying47
 obtain ⟨p0,p1,p2,p3⟩:=q
 have HB:=a0_ (below1 w (.cells #[.int .i64 p0,.bool p1,.int .i64 p2,.int .i64 p3] 47))
 have hcell : (w.alloc (.cells #[.int .i64 p0,.bool p1,.int .i64 p2,.int .i64 p3] 47)).cell? ⟨B,0,none⟩ = some (.slice A t.length c):=(blk_cell (blk_keptB hB HB.out) 0).trans rfl
 have hcell2 : (w.alloc (.cells #[.int .i64 p0,.bool p1,.int .i64 p2,.int .i64 p3] 47)).cell? ⟨D,0,none⟩ = some (.int .i64 a):=(blk_cell (blk_keptB hD HB.out) 0).trans rfl
 have hx2:=(blk_cell (heap_new1 w (.cells #[.int .i64 p0,.bool p1,.int .i64 p2,.int .i64 p3] 47)) 2).trans rfl
 have hcon:=a0_ (fun (W : World) (hb : Below w.heap.size w W)=>impl_Tree_is.calls 10 A c t p2 a (isA t p2 a) W (Kd.C_below hr hb) hc (impl_Tree_is_ev hv p2 a hq 10 (by omega) (by omega)))
 clear hB hD hr hv hq
 generalize isA t p2 a = r at hcon ⊢
 go_enter Try.func78,Try.ntmps78
 go_wp2_with (go_at_call 47;refine (hcon.out _ HB.out).mono ?_;rintro e w' ⟨rfl,hb'⟩)
 go_ret
 exact ⟨by cases r <;> rfl,below_step HB.out hb'⟩
end Go.Proofs.Ytfphcdbnnienhaa.P
namespace Go.Proofs.Ytfphcdbnnienhaa.P
open Go.RowKit Go.Proofs.YtfphcdbnnienhaaW.PrintWords Go.Proofs.YtfphcdbnnienhaaW.PrintLast Go.Proofs.YtfphcdbnnienhaaW.PrintMore
attribute [local go_sem] max2_int min2_int max_two min_two max_three min_three max_four min_four
set_option linter.unusedVariables false
set_option linter.unusedSimpArgs false
theorem impl_Tree_split_2.callsF (B D : Nat) (A : Option Addr) (c : Nat) (t : List Cls) (a : Int) (q : Prt) (w : World) (hv : vT t = true) (hq : q.f2 < (t.length : Int)) (hB : w.heap[B]? = some (.cells #[.slice A t.length c] 25 (0,0))) (hD : w.heap[D]? = some (.cells #[.int .i64 a] 3 (0,0))) (hr : Kd.C k85 w A t.length t) (hc : t.length ≤ c) :
  Calls Try.prog 79 #[.agg #[.int .i64 q.f0,.bool q.f1,.int .i64 q.f2,.int .i64 q.f3],.pointer (some ⟨B,0,none⟩),.pointer (some ⟨D,0,none⟩)] w fun e w'=>e = .returned (.bool (isA t q.f2 a == false)) ∧ Below w.heap.size w w':=by
 have hu31:=Try.underlying25
 have hu74:=Try.underlying47
 obtain ⟨p0,p1,p2,p3⟩:=q
 have HB:=a0_ (below1 w (.cells #[.int .i64 p0,.bool p1,.int .i64 p2,.int .i64 p3] 47))
 have hcell : (w.alloc (.cells #[.int .i64 p0,.bool p1,.int .i64 p2,.int .i64 p3] 47)).cell? ⟨B,0,none⟩ = some (.slice A t.length c):=(blk_cell (blk_keptB hB HB.out) 0).trans rfl
 have hcell2 : (w.alloc (.cells #[.int .i64 p0,.bool p1,.int .i64 p2,.int .i64 p3] 47)).cell? ⟨D,0,none⟩ = some (.int .i64 a):=(blk_cell (blk_keptB hD HB.out) 0).trans rfl
 have hx2:=(blk_cell (heap_new1 w (.cells #[.int .i64 p0,.bool p1,.int .i64 p2,.int .i64 p3] 47)) 2).trans rfl
 have hcon:=a0_ (fun (W : World) (hb : Below w.heap.size w W)=>impl_Tree_is.calls 10 A c t p2 a (isA t p2 a) W (Kd.C_below hr hb) hc (impl_Tree_is_ev hv p2 a hq 10 (by omega) (by omega)))
 clear hB hD hr hv hq
 generalize isA t p2 a = r at hcon ⊢
 go_enter Try.func79,Try.ntmps79
 go_wp2_with (go_at_call 47;refine (hcon.out _ HB.out).mono ?_;rintro e w' ⟨rfl,hb'⟩)
 go_ret
 exact ⟨by cases r <;> rfl,below_step HB.out hb'⟩
end Go.Proofs.Ytfphcdbnnienhaa.P
namespace Go.Proofs.Ytfphcdbnnienhaa.P
open Go.RowKit Go.Proofs.YtfphcdbnnienhaaW.PrintWords Go.Proofs.YtfphcdbnnienhaaW.PrintLast Go.Proofs.YtfphcdbnnienhaaW.PrintMore
attribute [local go_sem] max2_int min2_int max_two min_two max_three min_three max_four min_four
set_option linter.unusedVariables false
set_option linter.unusedSimpArgs false
set_option maxHeartbeats 4000000 in
set_option maxRecDepth 100000 in
theorem impl_Tree_split.callsF (A0_0 : Option Addr) (c0_0 : Nat) (l0_0 : List Cls) (A1 : Option Addr) (c1 : Nat) (l1 : List Prt) (a2 : Int) (w : World) (hv : vT l0_0 = true) (hg : lfOk l0_0 l1) (hl : l1.length ≤ 1048576) (hr0_0 : Kd.C k85 w A0_0 l0_0.length l0_0) (hc0_0 : l0_0.length ≤ c0_0) (hr1 : Kd.C k47 w A1 l1.length l1) (hc1 : l1.length ≤ c1) :
  Calls Try.prog 51 #[.agg #[.slice A0_0 l0_0.length c0_0],.slice A1 l1.length c1,.int .i64 a2] w fun e w'=>∃ v0_ v1_ : Value,e = .returned (.tuple #[v0_,v1_]) ∧ Kd.R k47 47 w' w.heap.size (fun k_=>some k_ ≠ (v1_ : Value).ownBlock) v0_ (selN l0_0 l1 a2 true l1.length) ∧ Kd.R k47 47 w' w.heap.size (fun k_=>some k_ ≠ (v0_ : Value).ownBlock) v1_ (selN l0_0 l1 a2 false l1.length) ∧ Below w.heap.size w w':=by
 have hu31:=Try.underlying25
 have eg1 : ∀ args w,(callFunc 78 args).run Try.prog w = .ok (.enter 78 args) w:=enters_of Try.func78 (by kernel_rfl) rfl
 have eg2 : ∀ args w,(callFunc 79 args).run Try.prog w = .ok (.enter 79 args) w:=enters_of Try.func79 (by kernel_rfl) rfl
 have BK1:=a0_ (heap_old2 w (.cells #[.slice A0_0 l0_0.length c0_0] 25) (.cells #[.int .i64 a2] 3))
 have BK2:=a0_ (heap_new2 w (.cells #[.slice A0_0 l0_0.length c0_0] 25) (.cells #[.int .i64 a2] 3))
 have HB:=a0_ (below2 w (.cells #[.slice A0_0 l0_0.length c0_0] 25) (.cells #[.int .i64 a2] 3))
 have HW1:=a0_ (fun (W : World) (hb : Below w.heap.size w W) (hB : W.heap[w.heap.size]? = some (.cells #[.slice A0_0 l0_0.length c0_0] 25 (0,0))) (hD : W.heap[w.heap.size + 1]? = some (.cells #[.int .i64 a2] 3 (0,0)))=>impl_with.callsF A1 c1 l1 78 #[.pointer (some ⟨w.heap.size,0,none⟩),.pointer (some ⟨w.heap.size + 1,0,none⟩)] (fun q=>isA l0_0 q.f2 a2 == true) W eg1 (Kd.C_below hr1 hb) hc1 hl (fun q hq hf W' hW=>impl_Tree_split_1.callsF w.heap.size (w.heap.size + 1) A0_0 c0_0 l0_0 a2 q W' hv (hg q hq hf) (blk_keptB hB hW) (blk_keptB hD hW) (Kd.C_below (Kd.C_below hr0_0 hb) hW) hc0_0))
 have HW2:=a0_ (fun (W : World) (hb : Below w.heap.size w W) (hB : W.heap[w.heap.size]? = some (.cells #[.slice A0_0 l0_0.length c0_0] 25 (0,0))) (hD : W.heap[w.heap.size + 1]? = some (.cells #[.int .i64 a2] 3 (0,0)))=>impl_with.callsF A1 c1 l1 79 #[.pointer (some ⟨w.heap.size,0,none⟩),.pointer (some ⟨w.heap.size + 1,0,none⟩)] (fun q=>isA l0_0 q.f2 a2 == false) W eg2 (Kd.C_below hr1 hb) hc1 hl (fun q hq hf W' hW=>impl_Tree_split_2.callsF w.heap.size (w.heap.size + 1) A0_0 c0_0 l0_0 a2 q W' hv (hg q hq hf) (blk_keptB hB hW) (blk_keptB hD hW) (Kd.C_below (Kd.C_below hr0_0 hb) hW) hc0_0))
 rw [selW_selN] at HW1 HW2
 clear hr0_0 hr1 eg1 eg2 hv hg
 generalize selN l0_0 l1 a2 true l1.length = s1 at HW1 ⊢
 generalize selN l0_0 l1 a2 false l1.length = s2 at HW2 ⊢
 go_enter Try.func51,Try.ntmps51
 go_wp2_with (go_at_call 77;first
  | ((with_reducible refine (HW1.out _ HB.out BK1.out BK2.out).mono ?_);rintro e w1 ⟨v1,rfl,ho1,hb1⟩;have HO1:=a0_ ho1;replace BK1:=a0_ (blk_keptB BK1.out hb1);replace BK2:=a0_ (blk_keptB BK2.out hb1);have HLO:=a0_ (below_size HB.out);replace HB:=a0_ (below_step HB.out hb1);clear ho1 hb1)
  | ((with_reducible refine (HW2.out _ HB.out BK1.out BK2.out).mono ?_);rintro e w2 ⟨v2,rfl,ho2,hb2⟩;have HO2:=a0_ (Kd.R_lower (Kd.R_newR ho2 HO1.out) (below_size HB.out));replace HO1:=a0_ (Kd.R_lower (Kd.R_elder HO1.out ho2 hb2) HLO.out);replace HB:=a0_ (below_step HB.out hb2)))
 go_ret2
 exact ⟨_,_,rfl,Kd.R_mono HO1.out (fun _ hk=>hk.2),Kd.R_mono HO2.out (fun _ hk=>hk.2),HB.out⟩
def ltB (t : List Cls) (g : List Prt) : Bool:=g.all (fun p=>p.f1 || decide (p.f2 < (t.length : Int)))
theorem ltB_ok {t : List Cls} {g : List Prt} (h : ltB t g = true) : lfOk t g:=by
 intro p hp h1
 unfold ltB at h
 have:=List.all_eq_true.1 h p hp
 rw [h1,Bool.false_or] at this
 exact of_decide_eq_true this
theorem ltB_mk {t : List Cls} {g : List Prt} (h : lfOk t g) : ltB t g = true:=by
 unfold ltB
 rw [List.all_eq_true]
 intro p hp
 cases h1 : p.f1 with
 | true=>rfl
 | false=>rw [Bool.false_or];exact decide_eq_true (h p hp h1)
def impl_Tree_split.f (l0_0 : List Cls) (l1 : List Prt) (a2 : Int) : Option (List Prt × List Prt):=if vT l0_0 = true ∧ (ltB l0_0 l1 = true ∧ l1.length ≤ 1048576) then some (selN l0_0 l1 a2 true l1.length,selN l0_0 l1 a2 false l1.length) else none
theorem impl_Tree_split.calls (A0_0 : Option Addr) (c0_0 : Nat) (l0_0 : List (S85)) (A1 : Option Addr) (c1 : Nat) (l1 : List (S47)) (a2 : Int) (r1 : List (S47)) (r2 : List (S47)) (w : World) (hr0_0 : Kd.C k85 w A0_0 l0_0.length l0_0) (hc0_0 : l0_0.length ≤ c0_0) (hr1 : Kd.C k47 w A1 l1.length l1) (hc1 : l1.length ≤ c1) (h : impl_Tree_split.f l0_0 l1 a2 = some (r1,r2)) :
  Calls Try.prog 51 #[.agg #[.slice A0_0 l0_0.length c0_0],.slice A1 l1.length c1,.int .i64 a2] w fun e w'=>∃ v0_ v1_ : Value,e = .returned (.tuple #[v0_,v1_]) ∧ Kd.R k47 47 w' w.heap.size (fun k_=>some k_ ≠ (v1_ : Value).ownBlock) v0_ r1 ∧ Kd.R k47 47 w' w.heap.size (fun k_=>some k_ ≠ (v0_ : Value).ownBlock) v1_ r2 ∧ Below w.heap.size w w':=by
 have hsm : vT l0_0 = true ∧ (ltB l0_0 l1 = true ∧ l1.length ≤ 1048576):=by
  apply Classical.byContradiction
  intro hn
  rw [impl_Tree_split.f,if_neg hn] at h
  cases h
 rw [impl_Tree_split.f,if_pos hsm] at h
 obtain ⟨rfl,rfl⟩:=Prod.mk.inj (Option.some.inj h)
 exact impl_Tree_split.callsF A0_0 c0_0 l0_0 A1 c1 l1 a2 w hsm.1 (ltB_ok hsm.2.1) hsm.2.2 hr0_0 hc0_0 hr1 hc1
theorem impl_Tree_split_ev (t : List Cls) (g : List Prt) (a : Int) (hv : vT t = true) (hg : lfOk t g) (hl : g.length ≤ 1048576) : impl_Tree_split.f t g a = some (selN t g a true g.length,selN t g a false g.length):=by rw [impl_Tree_split.f,if_pos ⟨hv,ltB_mk hg,hl⟩]
end Go.Proofs.Ytfphcdbnnienhaa.P
namespace Go.Proofs.Ytfphcdbnnienhaa.P
open Go.RowKit Go.Proofs.YtfphcdbnnienhaaW.PrintWords Go.Proofs.YtfphcdbnnienhaaW.PrintLast Go.Proofs.YtfphcdbnnienhaaW.PrintMore
attribute [local go_sem] max2_int min2_int max_two min_two max_three min_three max_four min_four
set_option linter.unusedVariables false
set_option linter.unusedSimpArgs false
def splitP (t : List Cls) (g : List Prt) (a : Int) : List Prt × List Prt:=if (vG t g && hasC t a) = true then (selN t g a true g.length,selN t g a false g.length) else ([],[])
def impl_SplitGroup.f (l0_0 : List Cls) (l1 : List Prt) (a2 : Int) : Option (List Prt × List Prt):=if smT l0_0 = true ∧ l1.length ≤ 1048576 then some (splitP l0_0 l1 a2) else none
set_option maxHeartbeats 2000000 in
set_option maxRecDepth 100000 in
theorem impl_SplitGroup.calls (A0_0 : Option Addr) (c0_0 : Nat) (l0_0 : List (S85)) (A1 : Option Addr) (c1 : Nat) (l1 : List (S47)) (a2 : Int) (r1 : List (S47)) (r2 : List (S47)) (w : World) (hr0_0 : Kd.C k85 w A0_0 l0_0.length l0_0) (hc0_0 : l0_0.length ≤ c0_0) (hr1 : Kd.C k47 w A1 l1.length l1) (hc1 : l1.length ≤ c1) (h : impl_SplitGroup.f l0_0 l1 a2 = some (r1,r2)) :
  Calls Try.prog 25 #[.agg #[.slice A0_0 l0_0.length c0_0],.slice A1 l1.length c1,.int .i64 a2] w fun e w'=>∃ v0_ v1_ : Value,e = .returned (.tuple #[v0_,v1_]) ∧ Kd.R k47 47 w' w.heap.size (fun k_=>some k_ ≠ (v1_ : Value).ownBlock) v0_ r1 ∧ Kd.R k47 47 w' w.heap.size (fun k_=>some k_ ≠ (v0_ : Value).ownBlock) v1_ r2 ∧ Below w.heap.size w w':=by
 have hu31:=Try.underlying25
 have hsm : smT l0_0 = true ∧ l1.length ≤ 1048576:=by
  apply Classical.byContradiction
  intro hn
  rw [impl_SplitGroup.f,if_neg hn] at h
  cases h
 rw [impl_SplitGroup.f,if_pos hsm] at h
 have hR:=Option.some.inj h
 clear h
 obtain ⟨kG,hkG⟩:=Ev.out (impl_ValidGroup_ev l0_0 l1 hr0_0.2.1 hr1.2.1 hsm.1)
 have HG:=a0_ (fun (W : World) (hb : Below w.heap.size w W)=>impl_ValidGroup.calls kG A0_0 c0_0 l0_0 A1 c1 l1 (vG l0_0 l1) W (Kd.C_below hr0_0 hb) hc0_0 (Kd.C_below hr1 hb) hc1 hkG)
 have HH:=a0_ (fun (W : World) (hb : Below w.heap.size w W)=>impl_Tree_has.calls A0_0 c0_0 l0_0 a2 (hasC l0_0 a2) W (Kd.C_below hr0_0 hb) hc0_0 (impl_Tree_has_ev l0_0 a2 hr0_0.2.1))
 have BK:=a0_ (heap_new1 w (.cells #[.slice A0_0 l0_0.length c0_0] 25))
 have HB:=a0_ (below1 w (.cells #[.slice A0_0 l0_0.length c0_0] 25))
 have hcell:=(blk_cell BK.out 0).trans rfl
 have HS:=a0_ (fun (hv : vG l0_0 l1 = true) (W : World) (hb : Below w.heap.size w W)=>impl_Tree_split.callsF A0_0 c0_0 l0_0 A1 c1 l1 a2 W (vG_tree hv).1 (fun p hp h1=>(vG_leaf hv p hp h1).2) hsm.2 (Kd.C_below hr0_0 hb) hc0_0 (Kd.C_below hr1 hb) hc1)
 unfold splitP at hR
 clear hr0_0 hr1 hsm hkG
 generalize selN l0_0 l1 a2 true l1.length = s1 at HS hR
 generalize selN l0_0 l1 a2 false l1.length = s2 at HS hR
 cases hv : vG l0_0 l1 with
 | false =>
  rw [hv,Bool.false_and,if_neg (by simp)] at hR
  obtain ⟨rfl,rfl⟩:=Prod.mk.inj hR
  rw [hv] at HG
  clear HS hv
  go_enter Try.func25,Try.ntmps25
  go_wp2_with (go_at_call 15;refine (HG.out _ HB.out).mono ?_;rintro e w' ⟨rfl,hb'⟩)
  go_ret2
  exact ⟨_,_,rfl,Kd.R_nil _ _ _ _ _,Kd.R_nil _ _ _ _ _,below_step HB.out hb'⟩
 | true =>
  rw [hv,Bool.true_and] at hR
  rw [hv] at HG
  replace HS:=a0_ (HS.out hv)
  clear hv
  cases hh : hasC l0_0 a2 with
  | false =>
   rw [hh,if_neg (by simp)] at hR
   obtain ⟨rfl,rfl⟩:=Prod.mk.inj hR
   rw [hh] at HH
   clear HS hh
   go_enter Try.func25,Try.ntmps25
   go_wp2_with (first
    | (go_at_call 15;refine (HG.out _ HB.out).mono ?_;rintro e w' ⟨rfl,hb'⟩;replace HB:=a0_ (below_step HB.out hb');replace hcell:=pw_cell_below hb' hcell;clear hb')
    | (go_at_call 44;refine (HH.out _ HB.out).mono ?_;rintro e w' ⟨rfl,hb'⟩))
   go_ret2
   exact ⟨_,_,rfl,Kd.R_nil _ _ _ _ _,Kd.R_nil _ _ _ _ _,below_step HB.out hb'⟩
  | true =>
   rw [hh,if_pos rfl] at hR
   obtain ⟨rfl,rfl⟩:=Prod.mk.inj hR
   rw [hh] at HH
   clear hh
   go_enter Try.func25,Try.ntmps25
   go_wp2_with (first
    | (go_at_call 15;refine (HG.out _ HB.out).mono ?_;rintro e w' ⟨rfl,hb'⟩;replace HB:=a0_ (below_step HB.out hb');replace hcell:=pw_cell_below hb' hcell;clear hb')
    | (go_at_call 44;refine (HH.out _ HB.out).mono ?_;rintro e w' ⟨rfl,hb'⟩;replace HB:=a0_ (below_step HB.out hb');replace hcell:=pw_cell_below hb' hcell;clear hb')
    | (go_at_call 51;refine (HS.out _ HB.out).mono ?_;rintro e w2 ⟨v1,v2,rfl,ho1,ho2,hb2⟩))
   go_ret2
   exact ⟨_,_,rfl,Kd.R_lower ho1 (below_size HB.out),Kd.R_lower ho2 (below_size HB.out),below_step HB.out hb2⟩
theorem impl_SplitGroup_ev (t : List Cls) (g : List Prt) (a : Int) (hs : smT t = true) (hl : g.length ≤ 1048576) : impl_SplitGroup.f t g a = some (splitP t g a):=by rw [impl_SplitGroup.f,if_pos ⟨hs,hl⟩]
theorem splitP_len (t : List Cls) (g : List Prt) (a : Int) : (splitP t g a).1.length ≤ g.length ∧ (splitP t g a).2.length ≤ g.length:=by
 unfold splitP
 split
 ·exact ⟨selN_len _ _ _ _ _,selN_len _ _ _ _ _⟩
 ·simp
end Go.Proofs.Ytfphcdbnnienhaa.P
namespace Go.Proofs.Ytfphcdbnnienhaa.P
open Go.RowKit Go.Proofs.YtfphcdbnnienhaaW.PrintWords Go.Proofs.YtfphcdbnnienhaaW.PrintLast Go.Proofs.YtfphcdbnnienhaaW.PrintMore
attribute [local go_sem] max2_int min2_int max_two min_two max_three min_three max_four min_four
set_option linter.unusedVariables false
set_option linter.unusedSimpArgs false
def spec_inRange.f (a0 : Int) (a1 : Int) (a2 : Int) : Option (Bool):=if a1 ≤ a0 then (some (decide (a0 ≤ a2))) else (some false)
set_option maxHeartbeats 8000000 in
set_option maxRecDepth 100000 in
theorem spec_inRange.calls (a0 : Int) (a1 : Int) (a2 : Int) (r : Bool) (w : World) (h : spec_inRange.f a0 a1 a2 = some r) :
  Calls Try.prog 65 #[.int .i64 a0,.int .i64 a1,.int .i64 a2] w fun e w'=>e = .returned (.bool r) ∧ Drawn0 w w':=by
 have H : (if a1 ≤ a0 then (some (decide (a0 ≤ a2))) else (some false)) = some r:=h
 clear h
 by_cases c4 : a1 ≤ a0
 ·rw [if_pos c4] at H
  have c4b0 : decide (a1 ≤ a0) = true:=decide_eq_true c4
  clear c4
  obtain rfl:=Option.some.inj H
  go_enter Try.func65,Try.ntmps65
  go_wp2
  go_ret
  exact ⟨by first | rfl | (simp;done) | (simp [*];done),by repeat (first | exact Drawn0.refl _ | apply Drawn0.step)⟩
 ·rw [if_neg c4] at H
  have c4b0 : decide (a1 ≤ a0) = false:=decide_eq_false c4
  clear c4
  obtain rfl:=Option.some.inj H
  go_enter Try.func65,Try.ntmps65
  go_wp2
  go_ret
  exact ⟨by first | rfl | (simp;done) | (simp [*];done),by repeat (first | exact Drawn0.refl _ | apply Drawn0.step)⟩
theorem spec_inRange_ev (a b c : Int) : spec_inRange.f a b c = some (decide (b ≤ a) && decide (a ≤ c)):=by
 unfold spec_inRange.f
 by_cases h : b ≤ a
 ·rw [if_pos h];simp [h]
 ·rw [if_neg h];simp [h]
end Go.Proofs.Ytfphcdbnnienhaa.P
namespace Go.Proofs.Ytfphcdbnnienhaa.P
open Go.RowKit Go.Proofs.YtfphcdbnnienhaaW.PrintWords Go.Proofs.YtfphcdbnnienhaaW.PrintLast Go.Proofs.YtfphcdbnnienhaaW.PrintMore
attribute [local go_sem] max2_int min2_int max_two min_two max_three min_three max_four min_four
set_option linter.unusedVariables false
set_option linter.unusedSimpArgs false
def spec_hasClass.f (l0_0 : List (S85)) (a1 : Int) : Option (Bool):=(spec_inRange.f a1 0 (wrap64 ((l0_0.length : Int) - 1))).bind fun t2=>(some t2)
set_option maxHeartbeats 8000000 in
set_option maxRecDepth 100000 in
theorem spec_hasClass.calls (A0_0 : Option Addr) (c0_0 : Nat) (l0_0 : List (S85)) (a1 : Int) (r : Bool) (w : World) (hr0_0 : Kd.C k85 w A0_0 l0_0.length l0_0) (hc0_0 : l0_0.length ≤ c0_0) (h : spec_hasClass.f l0_0 a1 = some r) :
  Calls Try.prog 48 #[.agg #[.slice A0_0 l0_0.length c0_0],.int .i64 a1] w fun e w'=>e = .returned (.bool r) ∧ Below w.heap.size w w':=by
 have hu25:=Try.underlying25
 have HR0_0:=a0_ hr0_0
 have HC0_0:=a0_ hc0_0
 clear hr0_0 hc0_0
 have HB:=a0_ (Below.refl w.heap.size w)
 have H : ((spec_inRange.f a1 0 (wrap64 ((l0_0.length : Int) - 1))).bind fun t2=>(some t2)) = some r:=h
 clear h
 replace H:=Option.bind_eq_some_iff.mp H
 obtain ⟨t2,A30,H⟩:=H
 replace H : (some t2) = some r:=H
 have A3:=a0_ A30
 clear A30
 obtain rfl:=Option.some.inj H
 go_enter Try.func48,Try.ntmps48
 go_wp2_with (first | ((with_reducible refine gate_dst (N:=2) rfl ?_);refine box_event ?hg (N:=2) ?hd (cs:=#[.slice A0_0 l0_0.length c0_0]) (t:=25) ?hr ?_;(case hd=>rfl);(case hg=>rfl);(case hr=>first | (go_simp;done) | (go_simp;rfl));intro gb1 hg w4 hbox hb;have BK1:=a0_ (hbox);have GW1:=a0_ ((by rw [hg];exact (below_size hb_) : w.heap.size ≤ gb1));have GE1:=a0_ ((by rw [hg];exact (below_size hb_) : w.heap.size ≤ gb1));replace HB:=a0_ (below_step hb_ hb);clear hb hbox hg;have hcz5_0 : w4.cell? ⟨gb1,0,none⟩ = some (.slice A0_0 l0_0.length c0_0):=(blk_cell BK1.out 0).trans rfl;have hfz5_0:=blk_frozen BK1.out 0) | ((with_reducible refine gate_callee (f:=65) rfl ?_);refine goesL_ (some 10) rfl rfl Try.func65 (by kernel_rfl) rfl #[.int .i64 a1,.int .i64 0,.int .i64 (wrap64 ((l0_0.length : Int) - 1))] rfl lm_ ?_;(with_reducible refine (spec_inRange.calls a1 0 (wrap64 ((l0_0.length : Int) - 1)) t2 _ A3.out).mono ?_);rintro e w' ⟨rfl,⟨nd,rfl⟩⟩;refine ⟨_,rfl,?_⟩))
 go_ret
 exact ⟨by first | rfl | (simp [errW_none,errW_some] <;> rfl) | (simp [*,errW_none,errW_some] <;> rfl),hb_⟩
theorem spec_hasClass_ev (t : List Cls) (a : Int) (hl : t.length ≤ 9223372036854775807) : spec_hasClass.f t a = some (hasC t a):=by
 unfold spec_hasClass.f spec_inRange.f hasC
 rw [wrap_pred (by omega) (by omega)]
 by_cases h0 : 0 ≤ a
 ·rw [if_pos h0]
  simp only [Option.bind_some,Option.some.injEq,decide_eq_true h0,Bool.true_and]
  by_cases h1 : a < (t.length : Int)
  ·rw [decide_eq_true h1,decide_eq_true (by omega)]
  ·rw [decide_eq_false h1,decide_eq_false (by omega)]
 ·rw [if_neg h0]
  simp [decide_eq_false h0]
end Go.Proofs.Ytfphcdbnnienhaa.P
namespace Go.Proofs.Ytfphcdbnnienhaa.P
open Go.RowKit Go.Proofs.YtfphcdbnnienhaaW.PrintWords Go.Proofs.YtfphcdbnnienhaaW.PrintLast Go.Proofs.YtfphcdbnnienhaaW.PrintMore
attribute [local go_sem] max2_int min2_int max_two min_two max_three min_three max_four min_four
set_option linter.unusedVariables false
set_option linter.unusedSimpArgs false
def spec_endOf.l0 : Nat → List (S47) → Int → Int → Option (Int)
 | 0,_,_,_=>none
 | k + 1,x0,x1,x5=>if x5 < (x0.length : Int) then (if 0 ≤ x5 then (if 0 ≤ x1 then (if x1 < (x0.length : Int) then (if ((rd_T47 x0 x5).f0) > ((rd_T47 x0 x1).f0) then (spec_endOf.l0 k x0 x1 (wrap64 (x5 + 1))) else (some x5)) else (none)) else (none)) else (none)) else (some x5)
def spec_endOf.f (k : Nat) (l0 : List (S47)) (a1 : Int) : Option (Int):=spec_endOf.l0 k l0 a1 (wrap64 (a1 + 1))
theorem spec_endOf.mono_l : ∀ k,(∀ y0 y1 y2,LeO (spec_endOf.l0 k y0 y1 y2) (spec_endOf.l0 (k + 1) y0 y1 y2))
 | 0=>fun _ _ _ r h=>by simp [spec_endOf.l0] at h
 | k + 1=>by
  have ih0:=spec_endOf.mono_l k
  ·intro y0 y1 y2
   unfold spec_endOf.l0
   repeat' first
   | (with_reducible exact ih0 _ _ _)
   | (with_reducible exact LeO.refl _)
   | (with_reducible exact LeO.none _)
   | (with_reducible refine LeO.ite ?_ ?_)
   | (with_reducible refine LeO.bind ?_ (fun _=>?_))
   | exact ih0 _ _ _
   | exact LeO.none _
   | refine LeO.ite ?_ ?_
   | refine LeO.bind ?_ (fun _=>?_)
theorem spec_endOf.mono : ∀ a0 a1 k,LeO (spec_endOf.f k a0 a1) (spec_endOf.f (k + 1) a0 a1):=by
 intro a0 a1 k
 have ih0:=spec_endOf.mono_l k
 unfold spec_endOf.f
 repeat' first
   | (with_reducible exact ih0 _ _ _)
   | (with_reducible exact LeO.refl _)
   | (with_reducible exact LeO.none _)
   | (with_reducible refine LeO.ite ?_ ?_)
   | (with_reducible refine LeO.bind ?_ (fun _=>?_))
   | exact ih0 _ _ _
   | exact LeO.none _
   | refine LeO.ite ?_ ?_
   | refine LeO.bind ?_ (fun _=>?_)
set_option maxHeartbeats 8000000 in
set_option maxRecDepth 100000 in
theorem spec_endOf.calls (k : Nat) (A0 : Option Addr) (c0 : Nat) (l0 : List (S47)) (a1 : Int) (r : Int) (w : World) (hr0 : Kd.C k47 w A0 l0.length l0) (hc0 : l0.length ≤ c0) (h : spec_endOf.f k l0 a1 = some r) :
  Calls Try.prog 66 #[.slice A0 l0.length c0,.int .i64 a1] w fun e w'=>e = .returned (.int .i64 r) ∧ Drawn0 w w':=by
 have HR0:=a0_ hr0
 have HC0:=a0_ hc0
 clear hr0 hc0
 have H : (spec_endOf.l0 k l0 a1 (wrap64 (a1 + 1))) = some r:=h
 clear h
 have H':=a0_ H
 clear H
 go_enter Try.func66,Try.ntmps66
 go_wp2
 repeat (go_quiet (fail);try go_wp2)
 go_loopg [5] k (fun kq v5 w'=>∃ (x5_1 : Int),v5 = .int .i64 x5_1 ∧ Aside0 (spec_endOf.l0 kq l0 a1 x5_1 = some r) ∧ Aside0 (kq ≤ k) ∧ Drawn0 w w')
 case atStart=>exact ⟨(wrap64 (a1 + 1)),(by first | rfl | (simp;done) | (simp [*];done)),H',⟨Nat.le_refl _⟩,by repeat (first | exact Drawn0.refl _ | apply Drawn0.step)⟩
 case round =>
  clear H'
  try clear p2
  obtain ⟨x5_1,rfl,HA,HK1,⟨m1,rfl⟩⟩:=hrel
  cases gk with
  | zero=>exact absurd HA.out (by simp [spec_endOf.l0])
  | succ k1 =>
   have H:=HA.out
   clear HA
   simp only [spec_endOf.l0] at H
   by_cases c3 : x5_1 < (l0.length : Int)
   ·rw [if_pos c3] at H
    have c3b0 : decide (x5_1 < (l0.length : Int)) = true:=decide_eq_true c3
    clear c3
    by_cases c4 : 0 ≤ x5_1
    ·rw [if_pos c4] at H
     have c4b0 : decide (0 ≤ x5_1) = true:=decide_eq_true c4
     clear c4
     by_cases c5 : 0 ≤ a1
     ·rw [if_pos c5] at H
      have c5b0 : decide (0 ≤ a1) = true:=decide_eq_true c5
      clear c5
      by_cases c6 : a1 < (l0.length : Int)
      ·rw [if_pos c6] at H
       have c6b0 : decide (a1 < (l0.length : Int)) = true:=decide_eq_true c6
       clear c6
       by_cases c7 : ((rd_T47 l0 x5_1).f0) > ((rd_T47 l0 a1).f0)
       ·rw [if_pos c7] at H
        have c7b0 : decide (((rd_T47 l0 a1).f0) < ((rd_T47 l0 x5_1).f0)) = true:=decide_eq_true c7
        clear c7
        have H':=a0_ H
        clear H
        have p1 : 0 ≤ (x5_1 : Int):=of_decide_eq_true (by first | (with_reducible assumption) | assumption)
        have q1 : x5_1 < (l0.length : Int):=of_decide_eq_true (by first | (with_reducible assumption) | assumption)
        obtain ⟨ad1,e1,hx1_0,hx1_1,hx1_2,hx1_3⟩:=at_T47 HR0.out x5_1 p1 q1
        cases e1
        replace p1:=eq_true p1
        replace q1:=eq_true q1
        have p2 : 0 ≤ (a1 : Int):=of_decide_eq_true (by first | (with_reducible assumption) | assumption)
        have q2 : a1 < (l0.length : Int):=of_decide_eq_true (by first | (with_reducible assumption) | assumption)
        obtain ⟨ad2,e2,hx2_0,hx2_1,hx2_2,hx2_3⟩:=at_T47 HR0.out a1 p2 q2
        obtain rfl : ad1 = ad2:=(by injection e2)
        replace p2:=eq_true p2
        replace q2:=eq_true q2
        go_wp2
        repeat (go_quiet (fail);try go_wp2)
        go_roundg k1
        case measure=>have:=HK1.out;omega
        case rel=>exact ⟨(wrap64 (x5_1 + 1)),(by first | rfl | (simp;done) | (simp [*];done)),H',⟨by have:=HK1.out;omega⟩,by repeat (first | exact Drawn0.refl _ | apply Drawn0.step)⟩
       ·rw [if_neg c7] at H
        have c7b0 : decide (((rd_T47 l0 a1).f0) < ((rd_T47 l0 x5_1).f0)) = false:=decide_eq_false c7
        clear c7
        obtain rfl:=Option.some.inj H
        have p1 : 0 ≤ (x5_1 : Int):=of_decide_eq_true (by first | (with_reducible assumption) | assumption)
        have q1 : x5_1 < (l0.length : Int):=of_decide_eq_true (by first | (with_reducible assumption) | assumption)
        obtain ⟨ad1,e1,hx1_0,hx1_1,hx1_2,hx1_3⟩:=at_T47 HR0.out x5_1 p1 q1
        cases e1
        replace p1:=eq_true p1
        replace q1:=eq_true q1
        have p2 : 0 ≤ (a1 : Int):=of_decide_eq_true (by first | (with_reducible assumption) | assumption)
        have q2 : a1 < (l0.length : Int):=of_decide_eq_true (by first | (with_reducible assumption) | assumption)
        obtain ⟨ad2,e2,hx2_0,hx2_1,hx2_2,hx2_3⟩:=at_T47 HR0.out a1 p2 q2
        obtain rfl : ad1 = ad2:=(by injection e2)
        replace p2:=eq_true p2
        replace q2:=eq_true q2
        go_wp2
        repeat (go_quiet (fail);try go_wp2)
        go_ret
        exact ⟨by first | rfl | (simp;done) | (simp [*];done),by repeat (first | exact Drawn0.refl _ | apply Drawn0.step)⟩
      ·rw [if_neg c6] at H
       exact absurd H (by simp)
     ·rw [if_neg c5] at H
      exact absurd H (by simp)
    ·rw [if_neg c4] at H
     exact absurd H (by simp)
   ·rw [if_neg c3] at H
    have c3b0 : decide (x5_1 < (l0.length : Int)) = false:=decide_eq_false c3
    clear c3
    obtain rfl:=Option.some.inj H
    go_wp2
    repeat (go_quiet (fail);try go_wp2)
    go_ret
    exact ⟨by first | rfl | (simp;done) | (simp [*];done),by repeat (first | exact Drawn0.refl _ | apply Drawn0.step)⟩
theorem spec_endOf_ev (g : List Prt) (i : Nat) (hi : i < g.length) (hl : g.length ≤ 9223372036854775807) : Ev (fun k=>spec_endOf.f k g (i : Int)) ((endG g i : Nat) : Int):=by
 have key : ∀ d j,j + d = g.length → Ev (fun k=>spec_endOf.l0 k g (i : Int) (j : Int)) ((j + ((g.drop j).takeWhile (fun p=>decide ((g.getD i z47).f0 < p.f0))).length : Nat) : Int):=by
  intro d
  induction d with
  | zero =>
   intro j hj
   rw [List.drop_eq_nil_of_le (by omega)]
   refine Ev.succ (Ev.congr (F:=fun _=>some ((j : Nat) : Int)) (Ev.const rfl) (fun k=>?_))
   simp only [spec_endOf.l0]
   rw [if_neg (by omega)]
  | succ d ih =>
   intro j hj
   have hlt : j < g.length:=by omega
   have hrd : rd_T47 g (j : Int) = g[j]:=by simp [rd_T47,hlt]
   have hri : rd_T47 g (i : Int) = g.getD i z47:=by simp [rd_T47]
   rw [List.drop_eq_getElem_cons hlt,List.takeWhile_cons]
   refine Ev.succ (Ev.congr (F:=fun k=>if (g.getD i z47).f0 < g[j].f0 then spec_endOf.l0 k g (i : Int) ((j + 1 : Nat) : Int) else some (j : Int)) ?_ (fun k=>?_))
   ·by_cases h : (g.getD i z47).f0 < g[j].f0
    ·refine Ev.pos h ?_
     rw [decide_eq_true h,if_pos rfl,List.length_cons]
     have:=ih (j + 1) (by omega)
     rw [show j + 1 + ((g.drop (j + 1)).takeWhile (fun p=>decide ((g.getD i z47).f0 < p.f0))).length = j + (((g.drop (j + 1)).takeWhile (fun p=>decide ((g.getD i z47).f0 < p.f0))).length + 1) by omega] at this
     exact this
    ·refine Ev.neg h ?_
     rw [decide_eq_false h,if_neg (by simp)]
     exact Ev.const rfl
   ·simp only [spec_endOf.l0]
    rw [if_pos (by omega),if_pos (by omega),if_pos (by omega),if_pos (by omega),hrd,hri,wrap_succ (i:=(j : Int)) (n:=g.length) (by omega) (by omega) (by omega)]
    rfl
 have:=key (g.length - (i + 1)) (i + 1) (by omega)
 refine Ev.congr this (fun k=>?_)
 unfold spec_endOf.f
 rw [wrap_succ (i:=(i : Int)) (n:=g.length) (by omega) (by omega) (by omega)]
 rfl
end Go.Proofs.Ytfphcdbnnienhaa.P
namespace Go.Proofs.Ytfphcdbnnienhaa.P
open Go.RowKit Go.Proofs.YtfphcdbnnienhaaW.PrintWords Go.Proofs.YtfphcdbnnienhaaW.PrintLast Go.Proofs.YtfphcdbnnienhaaW.PrintMore
attribute [local go_sem] max2_int min2_int max_two min_two max_three min_three max_four min_four
set_option linter.unusedVariables false
set_option linter.unusedSimpArgs false
def spec_validName.l0 : Nat → ByteArray → Int → Option (Bool)
 | 0,_,_=>none
 | k + 1,x0,x3=>if x3 < (x0.size : Int) then (if 0 ≤ x3 then (if (bt x0 x3) < 97 then (some false) else (if (bt x0 x3) > 122 then (some false) else (spec_validName.l0 k x0 (wrap64 (x3 + 1))))) else (none)) else ((spec_inRange.f (x0.size : Int) 1 6).bind fun t1=>(some t1))
def spec_validName.f (k : Nat) (a0 : ByteArray) : Option (Bool):=spec_validName.l0 k a0 0
theorem spec_validName.mono_l : ∀ k,(∀ y0 y1,LeO (spec_validName.l0 k y0 y1) (spec_validName.l0 (k + 1) y0 y1))
 | 0=>fun _ _ r h=>by simp [spec_validName.l0] at h
 | k + 1=>by
  have ih0:=spec_validName.mono_l k
  ·intro y0 y1
   unfold spec_validName.l0
   repeat' first
   | (with_reducible exact ih0 _ _)
   | (with_reducible exact LeO.refl _)
   | (with_reducible exact LeO.none _)
   | (with_reducible refine LeO.ite ?_ ?_)
   | (with_reducible refine LeO.bind ?_ (fun _=>?_))
   | exact ih0 _ _
   | exact LeO.none _
   | refine LeO.ite ?_ ?_
   | refine LeO.bind ?_ (fun _=>?_)
theorem spec_validName.mono : ∀ a0 k,LeO (spec_validName.f k a0) (spec_validName.f (k + 1) a0):=by
 intro a0 k
 have ih0:=spec_validName.mono_l k
 unfold spec_validName.f
 repeat' first
   | (with_reducible exact ih0 _ _)
   | (with_reducible exact LeO.refl _)
   | (with_reducible exact LeO.none _)
   | (with_reducible refine LeO.ite ?_ ?_)
   | (with_reducible refine LeO.bind ?_ (fun _=>?_))
   | exact ih0 _ _
   | exact LeO.none _
   | refine LeO.ite ?_ ?_
   | refine LeO.bind ?_ (fun _=>?_)
set_option maxHeartbeats 8000000 in
set_option maxRecDepth 100000 in
theorem spec_validName.calls (k : Nat) (a0 : ByteArray) (r : Bool) (w : World) (h : spec_validName.f k a0 = some r) :
  Calls Try.prog 85 #[.string a0] w fun e w'=>e = .returned (.bool r) ∧ Drawn0 w w':=by
 have H : (spec_validName.l0 k a0 0) = some r:=h
 clear h
 have H':=a0_ H
 clear H
 go_enter Try.func85,Try.ntmps85
 go_wp2
 go_loopg [3] k (fun kq v3 w'=>∃ (x3_1 : Int),v3 = .int .i64 x3_1 ∧ Aside0 (spec_validName.l0 kq a0 x3_1 = some r) ∧ Aside0 (kq ≤ k) ∧ Drawn0 w w')
 case atStart=>exact ⟨(0),(by first | rfl | (simp;done) | (simp [*];done)),H',⟨Nat.le_refl _⟩,by repeat (first | exact Drawn0.refl _ | apply Drawn0.step)⟩
 case round =>
  clear H'
  obtain ⟨x3_1,rfl,HA,HK1,⟨m1,rfl⟩⟩:=hrel
  cases gk with
  | zero=>exact absurd HA.out (by simp [spec_validName.l0])
  | succ k1 =>
   have H:=HA.out
   clear HA
   simp only [spec_validName.l0] at H
   by_cases c2 : x3_1 < (a0.size : Int)
   ·rw [if_pos c2] at H
    have c2b0 : decide (x3_1 < (a0.size : Int)) = true:=decide_eq_true c2
    clear c2
    by_cases c3 : 0 ≤ x3_1
    ·rw [if_pos c3] at H
     have c3b0 : decide (0 ≤ x3_1) = true:=decide_eq_true c3
     clear c3
     by_cases c5 : (bt a0 x3_1) < 97
     ·rw [if_pos c5] at H
      have c5b0 : decide ((bt a0 x3_1) < 97) = true:=decide_eq_true c5
      clear c5
      obtain rfl:=Option.some.inj H
      have p4 : 0 ≤ (x3_1 : Int):=of_decide_eq_true (by first | (with_reducible assumption) | assumption)
      have q4 : x3_1 < (a0.size : Int):=of_decide_eq_true (by first | (with_reducible assumption) | assumption)
      have hx4:=bt_at a0 x3_1
      replace p4:=eq_true p4
      replace q4:=eq_true q4
      go_wp2
      go_ret
      exact ⟨by first | rfl | (simp;done) | (simp [*];done),by repeat (first | exact Drawn0.refl _ | apply Drawn0.step)⟩
     ·rw [if_neg c5] at H
      have c5b0 : decide ((bt a0 x3_1) < 97) = false:=decide_eq_false c5
      clear c5
      by_cases c7 : (bt a0 x3_1) > 122
      ·rw [if_pos c7] at H
       have c7b0 : decide (122 < (bt a0 x3_1)) = true:=decide_eq_true c7
       clear c7
       obtain rfl:=Option.some.inj H
       have p4 : 0 ≤ (x3_1 : Int):=of_decide_eq_true (by first | (with_reducible assumption) | assumption)
       have q4 : x3_1 < (a0.size : Int):=of_decide_eq_true (by first | (with_reducible assumption) | assumption)
       have hx4:=bt_at a0 x3_1
       replace p4:=eq_true p4
       replace q4:=eq_true q4
       have p6 : 0 ≤ (x3_1 : Int):=of_decide_eq_true (by first | (with_reducible assumption) | assumption)
       have q6 : x3_1 < (a0.size : Int):=of_decide_eq_true (by first | (with_reducible assumption) | assumption)
       have hx6:=bt_at a0 x3_1
       replace p6:=eq_true p6
       replace q6:=eq_true q6
       go_wp2
       go_ret
       exact ⟨by first | rfl | (simp;done) | (simp [*];done),by repeat (first | exact Drawn0.refl _ | apply Drawn0.step)⟩
      ·rw [if_neg c7] at H
       have c7b0 : decide (122 < (bt a0 x3_1)) = false:=decide_eq_false c7
       clear c7
       have H':=a0_ H
       clear H
       have p4 : 0 ≤ (x3_1 : Int):=of_decide_eq_true (by first | (with_reducible assumption) | assumption)
       have q4 : x3_1 < (a0.size : Int):=of_decide_eq_true (by first | (with_reducible assumption) | assumption)
       have hx4:=bt_at a0 x3_1
       replace p4:=eq_true p4
       replace q4:=eq_true q4
       have p6 : 0 ≤ (x3_1 : Int):=of_decide_eq_true (by first | (with_reducible assumption) | assumption)
       have q6 : x3_1 < (a0.size : Int):=of_decide_eq_true (by first | (with_reducible assumption) | assumption)
       have hx6:=bt_at a0 x3_1
       replace p6:=eq_true p6
       replace q6:=eq_true q6
       go_wp2
       go_roundg k1
       case measure=>have:=HK1.out;omega
       case rel=>exact ⟨(wrap64 (x3_1 + 1)),(by first | rfl | (simp;done) | (simp [*];done)),H',⟨by have:=HK1.out;omega⟩,by repeat (first | exact Drawn0.refl _ | apply Drawn0.step)⟩
    ·rw [if_neg c3] at H
     exact absurd H (by simp)
   ·rw [if_neg c2] at H
    have c2b0 : decide (x3_1 < (a0.size : Int)) = false:=decide_eq_false c2
    clear c2
    replace H:=Option.bind_eq_some_iff.mp H
    obtain ⟨t1,A80,H⟩:=H
    replace H : (some t1) = some r:=H
    have A8:=a0_ A80
    clear A80
    obtain rfl:=Option.some.inj H
    go_wp2_with (first | ((with_reducible refine gate_callee (f:=65) rfl ?_);refine goesL_ (some 22) rfl rfl Try.func65 (by kernel_rfl) rfl #[.int .i64 (a0.size : Int),.int .i64 1,.int .i64 6] rfl lm_ ?_;(with_reducible refine (spec_inRange.calls (a0.size : Int) 1 6 t1 _ A8.out).mono ?_);rintro e w' ⟨rfl,⟨nd,rfl⟩⟩;refine ⟨_,rfl,?_⟩))
    go_ret
    exact ⟨by first | rfl | (simp;done) | (simp [*];done),by repeat (first | exact Drawn0.refl _ | apply Drawn0.step)⟩
theorem spec_validName_l0 (s : ByteArray) (hs : s.size ≤ 9223372036854775807) (d : Nat) : ∀ (k : Nat) (i : Nat),i ≤ s.size → s.size - i = d → d < k → spec_validName.l0 k s (i : Int) = some ((s.data.toList.drop i).all (fun c=>decide (97 ≤ c.toNat) && decide (c.toNat ≤ 122)) && (decide (1 ≤ s.size) && decide (s.size ≤ 6))):=by
 induction d with
 | zero =>
  intro k i hi hd hk
  obtain ⟨k,rfl⟩ : ∃ m,k = m + 1:=⟨k - 1,by omega⟩
  simp only [spec_validName.l0]
  rw [if_neg (by omega)]
  have : s.data.toList.drop i = []:=by
   apply List.drop_eq_nil_of_le
   have : s.data.toList.length = s.size:=toL_len s
   omega
  rw [this]
  simp only [spec_inRange.f,List.all_nil,Bool.true_and]
  by_cases h1 : 1 ≤ s.size
  ·rw [if_pos (show (s.size : Int) ≥ 1 by omega)]
   by_cases h2 : s.size ≤ 6
   ·simp [h1,h2];omega
   ·simp [h2];omega
  ·rw [if_neg (show ¬ (1 : Int) ≤ s.size by omega)];simp [h1]
 | succ d ih =>
  intro k i hi hd hk
  obtain ⟨k,rfl⟩ : ∃ m,k = m + 1:=⟨k - 1,by omega⟩
  have hlt : i < s.size:=by omega
  have hl : s.data.toList.length = s.size:=toL_len s
  simp only [spec_validName.l0]
  rw [if_pos (show (i : Int) < (s.size : Int) by omega),if_pos (show (0 : Int) ≤ (i : Int) by omega),bt_getElem s i hlt]
  have hd2 : s.data.toList.drop i = s[i] :: s.data.toList.drop (i + 1):=by
   rw [List.drop_eq_getElem_cons (by omega)]
   congr 1
  rw [hd2,List.all_cons]
  by_cases h1 : (s[i].toNat : Int) < 97
  ·rw [if_pos h1];have : ¬ 97 ≤ s[i].toNat:=by omega
   simp [this]
  ·rw [if_neg h1]
   by_cases h2 : (s[i].toNat : Int) > 122
   ·rw [if_pos h2];have : ¬ s[i].toNat ≤ 122:=by omega
    simp [this]
   ·rw [if_neg h2,wrap_succ (n:=s.size) (by omega) (by omega) (by omega)]
    have:=ih k (i + 1) (by omega) (by omega) (by omega)
    rw [show ((i : Int) + 1) = ((i + 1 : Nat) : Int) by omega,this]
    have a : 97 ≤ s[i].toNat:=by omega
    have b : s[i].toNat ≤ 122:=by omega
    simp [a,b]
theorem spec_validName_ev (s : ByteArray) (hs : s.size ≤ 9223372036854775807) : spec_validName.f (s.size + 1) s = some (okName s):=by
 unfold spec_validName.f okName
 have:=spec_validName_l0 s hs s.size (s.size + 1) 0 (by omega) (by omega) (by omega)
 simpa using this
end Go.Proofs.Ytfphcdbnnienhaa.P
namespace Go.Proofs.Ytfphcdbnnienhaa.P
open Go.RowKit Go.Proofs.YtfphcdbnnienhaaW.PrintWords Go.Proofs.YtfphcdbnnienhaaW.PrintLast Go.Proofs.YtfphcdbnnienhaaW.PrintMore
attribute [local go_sem] max2_int min2_int max_two min_two max_three min_three max_four min_four
set_option linter.unusedVariables false
set_option linter.unusedSimpArgs false
def spec_classNamed.l0 : Nat → List (S85) → ByteArray → Int → Option (Int)
 | 0,_,_,_=>none
 | k + 1,x0,x1,x5=>if x5 < (x0.length : Int) then (if 0 ≤ x5 then (if ((rd_T85 x0 x5).f0).toList = x1.toList then (some x5) else (spec_classNamed.l0 k x0 x1 (wrap64 (x5 + 1)))) else (none)) else (some (-1))
def spec_classNamed.f (k : Nat) (l0 : List (S85)) (a1 : ByteArray) : Option (Int):=spec_classNamed.l0 k l0 a1 0
theorem spec_classNamed.mono_l : ∀ k,(∀ y0 y1 y2,LeO (spec_classNamed.l0 k y0 y1 y2) (spec_classNamed.l0 (k + 1) y0 y1 y2))
 | 0=>fun _ _ _ r h=>by simp [spec_classNamed.l0] at h
 | k + 1=>by
  have ih0:=spec_classNamed.mono_l k
  ·intro y0 y1 y2
   unfold spec_classNamed.l0
   repeat' first
   | (with_reducible exact ih0 _ _ _)
   | (with_reducible exact LeO.refl _)
   | (with_reducible exact LeO.none _)
   | (with_reducible refine LeO.ite ?_ ?_)
   | (with_reducible refine LeO.bind ?_ (fun _=>?_))
   | exact ih0 _ _ _
   | exact LeO.none _
   | refine LeO.ite ?_ ?_
   | refine LeO.bind ?_ (fun _=>?_)
theorem spec_classNamed.mono : ∀ a0 a1 k,LeO (spec_classNamed.f k a0 a1) (spec_classNamed.f (k + 1) a0 a1):=by
 intro a0 a1 k
 have ih0:=spec_classNamed.mono_l k
 unfold spec_classNamed.f
 repeat' first
   | (with_reducible exact ih0 _ _ _)
   | (with_reducible exact LeO.refl _)
   | (with_reducible exact LeO.none _)
   | (with_reducible refine LeO.ite ?_ ?_)
   | (with_reducible refine LeO.bind ?_ (fun _=>?_))
   | exact ih0 _ _ _
   | exact LeO.none _
   | refine LeO.ite ?_ ?_
   | refine LeO.bind ?_ (fun _=>?_)
set_option maxHeartbeats 8000000 in
set_option maxRecDepth 100000 in
theorem spec_classNamed.calls (k : Nat) (A0 : Option Addr) (c0 : Nat) (l0 : List (S85)) (a1 : ByteArray) (r : Int) (w : World) (hr0 : Kd.C k85 w A0 l0.length l0) (hc0 : l0.length ≤ c0) (h : spec_classNamed.f k l0 a1 = some r) :
  Calls Try.prog 86 #[.slice A0 l0.length c0,.string a1] w fun e w'=>e = .returned (.int .i64 r) ∧ Drawn0 w w':=by
 have HR0:=a0_ hr0
 have HC0:=a0_ hc0
 clear hr0 hc0
 have H : (spec_classNamed.l0 k l0 a1 0) = some r:=h
 clear h
 have H':=a0_ H
 clear H
 go_enter Try.func86,Try.ntmps86
 go_wp2
 go_loopg [5] k (fun kq v5 w'=>∃ (x5_1 : Int),v5 = .int .i64 x5_1 ∧ Aside0 (spec_classNamed.l0 kq l0 a1 x5_1 = some r) ∧ Aside0 (kq ≤ k) ∧ Drawn0 w w')
 case atStart=>exact ⟨(0),(by first | rfl | (simp;done) | (simp [*];done)),H',⟨Nat.le_refl _⟩,by repeat (first | exact Drawn0.refl _ | apply Drawn0.step)⟩
 case round =>
  clear H'
  try clear p2
  obtain ⟨x5_1,rfl,HA,HK1,⟨m1,rfl⟩⟩:=hrel
  cases gk with
  | zero=>exact absurd HA.out (by simp [spec_classNamed.l0])
  | succ k1 =>
   have H:=HA.out
   clear HA
   simp only [spec_classNamed.l0] at H
   by_cases c3 : x5_1 < (l0.length : Int)
   ·rw [if_pos c3] at H
    have c3b0 : decide (x5_1 < (l0.length : Int)) = true:=decide_eq_true c3
    clear c3
    by_cases c4 : 0 ≤ x5_1
    ·rw [if_pos c4] at H
     have c4b0 : decide (0 ≤ x5_1) = true:=decide_eq_true c4
     clear c4
     by_cases c5 : ((rd_T85 l0 x5_1).f0).toList = a1.toList
     ·rw [if_pos c5] at H
      have c5b0 : (((rd_T85 l0 x5_1).f0).toList == a1.toList) = true:=beq_iff_eq.mpr c5
      have c5b1 : (((rd_T85 l0 x5_1).f0).toList != a1.toList) = false:=bne_eq_false_iff_eq.mpr c5
      clear c5
      obtain rfl:=Option.some.inj H
      have p1 : 0 ≤ (x5_1 : Int):=of_decide_eq_true (by first | (with_reducible assumption) | assumption)
      have q1 : x5_1 < (l0.length : Int):=of_decide_eq_true (by first | (with_reducible assumption) | assumption)
      obtain ⟨ad1,e1,hx1_0,hx1_1⟩:=at_T85 HR0.out x5_1 p1 q1
      cases e1
      replace p1:=eq_true p1
      replace q1:=eq_true q1
      go_wp2
      go_ret
      exact ⟨by first | rfl | (simp;done) | (simp [*];done),by repeat (first | exact Drawn0.refl _ | apply Drawn0.step)⟩
     ·rw [if_neg c5] at H
      have c5b0 : (((rd_T85 l0 x5_1).f0).toList == a1.toList) = false:=beq_eq_false_iff_ne.mpr c5
      have c5b1 : (((rd_T85 l0 x5_1).f0).toList != a1.toList) = true:=bne_iff_ne.mpr c5
      have H':=a0_ H
      clear H
      have p1 : 0 ≤ (x5_1 : Int):=of_decide_eq_true (by first | (with_reducible assumption) | assumption)
      have q1 : x5_1 < (l0.length : Int):=of_decide_eq_true (by first | (with_reducible assumption) | assumption)
      obtain ⟨ad1,e1,hx1_0,hx1_1⟩:=at_T85 HR0.out x5_1 p1 q1
      cases e1
      replace p1:=eq_true p1
      replace q1:=eq_true q1
      go_wp2
      go_roundg k1
      case measure=>have:=HK1.out;omega
      case rel=>exact ⟨(wrap64 (x5_1 + 1)),(by first | rfl | (simp;done) | (simp [*];done)),H',⟨by have:=HK1.out;omega⟩,by repeat (first | exact Drawn0.refl _ | apply Drawn0.step)⟩
    ·rw [if_neg c4] at H
     exact absurd H (by simp)
   ·rw [if_neg c3] at H
    have c3b0 : decide (x5_1 < (l0.length : Int)) = false:=decide_eq_false c3
    clear c3
    obtain rfl:=Option.some.inj H
    go_wp2
    go_ret
    exact ⟨by first | rfl | (simp;done) | (simp [*];done),by repeat (first | exact Drawn0.refl _ | apply Drawn0.step)⟩
theorem spec_classNamed_l0 (t : List Cls) (n : ByteArray) (hs : t.length ≤ 9223372036854775807) (d : Nat) : ∀ (k : Nat) (i : Nat),i ≤ t.length → t.length - i = d → d < k → (∀ j (hj : j < t.length),j < i → (t[j].f0.toList == n.toList) = false) → spec_classNamed.l0 k t n (i : Int) = some (named t n):=by
 induction d with
 | zero =>
  intro k i hi hd hk hA
  obtain ⟨k,rfl⟩ : ∃ m,k = m + 1:=⟨k - 1,by omega⟩
  simp only [spec_classNamed.l0]
  rw [if_neg (show ¬ (i : Int) < (t.length : Int) by omega)]
  unfold named
  rw [idxP_miss _ t (fun j hj=>hA j hj (by omega))]
 | succ d ih =>
  intro k i hi hd hk hA
  obtain ⟨k,rfl⟩ : ∃ m,k = m + 1:=⟨k - 1,by omega⟩
  have hlt : i < t.length:=by omega
  simp only [spec_classNamed.l0]
  have hrd : rd_T85 t (i : Int) = t[i]:=by simp [rd_T85,hlt]
  rw [if_pos (show (i : Int) < (t.length : Int) by omega),if_pos (show (0 : Int) ≤ (i : Int) by omega),hrd]
  by_cases h1 : t[i].f0.toList = n.toList
  ·rw [if_pos h1]
   unfold named
   rw [idxP_hit (fun x : Cls=>x.f0.toList == n.toList) t i hlt (beq_iff_eq.2 h1) hA]
  ·rw [if_neg h1,wrap_succ (n:=t.length) (by omega) (by omega) (by omega)]
   rw [show ((i : Int) + 1) = ((i + 1 : Nat) : Int) by omega]
   refine ih k (i + 1) (by omega) (by omega) (by omega) (fun j hj hji=>?_)
   by_cases e : j = i
   ·subst e;exact beq_eq_false_iff_ne.2 h1
   ·exact hA j hj (by omega)
theorem spec_classNamed_ev (t : List Cls) (n : ByteArray) (hs : t.length ≤ 9223372036854775807) : spec_classNamed.f (t.length + 1) t n = some (named t n):=by
 unfold spec_classNamed.f
 exact spec_classNamed_l0 t n hs t.length (t.length + 1) 0 (by omega) (by omega) (by omega) (fun j _ hj=>absurd hj (Nat.not_lt_zero _))
end Go.Proofs.Ytfphcdbnnienhaa.P
namespace Go.Proofs.Ytfphcdbnnienhaa.P
open Go.RowKit Go.Proofs.YtfphcdbnnienhaaW.PrintWords Go.Proofs.YtfphcdbnnienhaaW.PrintLast Go.Proofs.YtfphcdbnnienhaaW.PrintMore
attribute [local go_sem] max2_int min2_int max_two min_two max_three min_three max_four min_four
set_option linter.unusedVariables false
set_option linter.unusedSimpArgs false
theorem named_ahead (t : List Cls) (i : Nat) (hi : i < t.length) : (named (t.take i) t[i].f0 ≥ 0) ↔ ¬ named t t[i].f0 = (i : Int):=by
 have hself : (t[i].f0.toList == t[i].f0.toList) = true:=beq_self_eq_true _
 have hd:=idxP_nonneg (fun x : Cls=>x.f0.toList == t[i].f0.toList) (t.take i)
 unfold named
 by_cases hA : ∀ j (hj : j < t.length),j < i → (t[j].f0.toList == t[i].f0.toList) = false
 ·have h1 : idxP (fun x : Cls=>x.f0.toList == t[i].f0.toList) t = (i : Int):=idxP_hit _ t i hi hself hA
  have h2 : (t.take i).any (fun x : Cls=>x.f0.toList == t[i].f0.toList) = false:=by
   rw [List.any_eq_false]
   intro x hx
   obtain ⟨j,hj,rfl⟩:=List.getElem_of_mem hx
   have hj2 : j < i ∧ j < t.length:=by simp at hj;omega
   rw [List.getElem_take]
   simp [hA j hj2.2 hj2.1]
  rw [h2,decide_eq_false_iff_not] at hd
  constructor
  ·intro h;exact absurd h hd
  ·intro h;exact absurd h1 h
 ·have hex : ∃ j,∃ hj : j < t.length,j < i ∧ (t[j].f0.toList == t[i].f0.toList) = true:=by
   apply Classical.byContradiction
   intro hn
   apply hA
   intro j hj hji
   cases hb : (t[j].f0.toList == t[i].f0.toList) with
   | false=>rfl
   | true=>exact absurd ⟨j,hj,hji,hb⟩ hn
  obtain ⟨j,hj,hji,hb⟩:=hex
  have h2 : (t.take i).any (fun x : Cls=>x.f0.toList == t[i].f0.toList) = true:=by
   rw [List.any_eq_true]
   exact ⟨t[j],List.mem_take_iff_getElem.2 ⟨j,by omega,rfl⟩,hb⟩
  rw [h2,decide_eq_true_eq] at hd
  constructor
  ·intro _ h
   unfold idxP at h
   cases hf : t.findIdx? (fun x : Cls=>x.f0.toList == t[i].f0.toList) with
   | none=>rw [hf] at h;simp at h
   | some m =>
    rw [hf] at h
    have hm : m = i:=by have h' : (m : Int) = (i : Int):=h;omega
    subst hm
    rw [List.findIdx?_eq_some_iff_getElem] at hf
    obtain ⟨_,_,hf⟩:=hf
    exact absurd hb (by simpa using hf j hji)
  ·intro _;exact hd
def spec_validTree.f (l0_0 : List (S85)) : Option Bool:=if smT l0_0 = true then some (vT l0_0) else none
set_option maxHeartbeats 4000000 in
set_option maxRecDepth 100000 in
theorem spec_validTree.calls (A0_0 : Option Addr) (c0_0 : Nat) (l0_0 : List (S85)) (r : Bool) (w : World) (hr0_0 : Kd.C k85 w A0_0 l0_0.length l0_0) (hc0_0 : l0_0.length ≤ c0_0) (h : spec_validTree.f l0_0 = some r) :
  Calls Try.prog 67 #[.agg #[.slice A0_0 l0_0.length c0_0]] w fun e w'=>e = .returned (.bool r) ∧ Below w.heap.size w w':=by
 have hu31:=Try.underlying25
 have hsm : smT l0_0 = true:=by
  apply Classical.byContradiction
  intro hn
  rw [spec_validTree.f,if_neg hn] at h
  cases h
 rw [spec_validTree.f,if_pos hsm] at h
 have HRr:=a0_ (Option.some.inj h)
 have HSM:=a0_ hsm
 have HR:=a0_ hr0_0
 have hmax : l0_0.length ≤ 9223372036854775807:=hr0_0.2.1
 clear h hsm hr0_0
 go_enter Try.func67,Try.ntmps67
 go_wp2
 go_loopg [3] l0_0.length (fun gg s3 wr=>∃ kk : Nat,kk ≤ l0_0.length ∧ l0_0.length - kk ≤ gg ∧ s3 = .int .i64 kk ∧ Aside0 (Below w.heap.size w wr) ∧ Aside0 (wr.heap[w.heap.size]? = some (.cells #[.slice A0_0 l0_0.length c0_0] 25 (0,0))) ∧ Aside0 (∀ j,j < kk → okCls l0_0 j (l0_0.getD j z85) = true))
 case atStart=>exact ⟨0,Nat.zero_le _,by omega,rfl,⟨below1 w _⟩,⟨heap_new1 w _⟩,⟨fun j hj=>absurd hj (Nat.not_lt_zero _)⟩⟩
 case round =>
  obtain ⟨kk,hkk,hg,rfl,BW,BK,HA⟩:=hrel
  have hcz : wr.cell? ⟨w.heap.size,0,none⟩ = some (.slice A0_0 l0_0.length c0_0):=(blk_cell BK.out 0).trans rfl
  by_cases hlt : kk < l0_0.length
  ·have hltz : (kk : Int) < (l0_0.length : Int):=by omega
   obtain ⟨ad,ea,hx0,hx1⟩:=at_T85 HR.out (kk : Int) (by omega) (by omega)
   cases ea
   have hrd : rd_T85 l0_0 (kk : Int) = l0_0[kk]:=by simp [rd_T85,hlt]
   rw [hrd] at hx0 hx1
   rw [Int.toNat_natCast] at hx0 hx1
   replace hx0:=(BW.out.cell (World.block_lt_of_cell? w _ hx0)).trans hx0
   replace hx1:=(BW.out.cell (World.block_lt_of_cell? w _ hx1)).trans hx1
   clear hrd
   generalize hy : l0_0[kk] = y at hx0 hx1
   have B:=a0_ hy
   clear hy
   go_upto_region 5 with (fail)
   have hW1:=a0_ (below_alloc BW.out (.cells #[.string y.f0,.int .i64 y.f1] 85))
   have hW2:=a0_ (blk_alloc BK.out (.cells #[.string y.f0,.int .i64 y.f1] 85))
   have hW3:=(blk_cell hW2.out 0).trans rfl
   have hW4:=(blk_cell (heap_new1 wr (.cells #[.string y.f0,.int .i64 y.f1] 85)) 0).trans rfl
   have hW5:=(blk_cell (heap_new1 wr (.cells #[.string y.f0,.int .i64 y.f1] 85)) 1).trans rfl
   clear hcz hx0 hx1 BW BK
   generalize wr.alloc (.cells #[.string y.f0,.int .i64 y.f1] 85) = W1 at hW1 hW2 hW3 hW4 hW5 ⊢
   generalize wr.heap.size = gb at hW4 hW5 ⊢
   have hy1 : y.f0.size ≤ 9223372036854775806:=by rw [← B.out];exact smT_at HSM.out kk hlt
   have A1:=a0_ (spec_validName_ev y.f0 (by omega))
   have hlen : (l0_0.take kk).length = kk:=by simp;omega
   have hcn0:=fun (W : World) (hW : Below w.heap.size w W)=>spec_classNamed.calls _ (some ad) c0_0 (l0_0.take kk) y.f0 _ W (by
    have h1:=Kd.C_take (Kd.C_below HR.out hW) (show kk ≤ l0_0.length by omega)
    exact h1) (by rw [hlen];omega) (spec_classNamed_ev (l0_0.take kk) y.f0 (by rw [hlen];omega))
   rw [hlen] at hcn0
   have hahead:=named_ahead l0_0 kk hlt
   rw [B.out] at hahead
   have hok : okCls l0_0 kk (l0_0.getD kk z85) = okCls l0_0 kk y:=by
    rw [← B.out];simp [List.getD,hlt]
   have hdef : okCls l0_0 kk y = (okName y.f0 && (decide (named l0_0 y.f0 = (kk : Int)) && (if kk = 0 then decide (y.f1 = -1) else decide (0 ≤ y.f1) && decide (y.f1 ≤ (kk : Int) - 1)))):=rfl
   generalize hnn : named (l0_0.take kk) y.f0 = nn at hcn0 hahead
   have HCN:=a0_ hcn0
   have HAH:=a0_ hahead
   have HOK:=a0_ hok
   have HDF:=a0_ hdef
   clear hcn0 hahead hok hdef hnn hlen hy1
   have hcut : ∀ W : World,(Instr.slice 23 (.slice (some ad) l0_0.length c0_0) none (some (.int .i64 (kk : Int))) none).run Try.prog W = .ok (.slice (some ad) kk c0_0) W:=by
    obtain ⟨i0,hi0,_,hsz,_⟩:=info_parts info85
    have h1:=cut_to (P:=Try.prog) 23 85 .i64 Try.underlying23 hi0 (some ad) l0_0.length c0_0 (kk : Int) (by omega) (by omega) hc0_0
    rw [Int.toNat_natCast] at h1
    exact h1
   go_cut [51] (fun v51 wc=>v51 = .bool (!okCls l0_0 kk y) ∧ Aside0 (Below w.heap.size w wc) ∧ Aside0 (wc.heap[w.heap.size]? = some (.cells #[.slice (some ad) l0_0.length c0_0] 25 (0,0))))
   case first =>
    have hw1 : IntKind.i64.wrap ((kk : Int) - 1) = (kk : Int) - 1:=by rw [IntKind.wrap_i64];omega
    have A2:=a0_ (show spec_inRange.f y.f1 0 ((kk : Int) - 1) = some (decide (0 ≤ y.f1) && decide (y.f1 ≤ (kk : Int) - 1)) by
     unfold spec_inRange.f
     by_cases h0 : 0 ≤ y.f1
     ·rw [if_pos h0];simp [h0]
     ·rw [if_neg h0];simp [h0])
    cases hb1 : okName y.f0 with
    | false =>
     rw [hb1] at A1
     have BV : okCls l0_0 kk y = false:=by rw [HDF.out,hb1];rfl
     clear HDF HAH HOK
     go_quiet (first
     | (go_at_call 85;(with_reducible refine (spec_validName.calls _ y.f0 _ _ A1.out).mono ?_);rintro e w' ⟨rfl,⟨nd,rfl⟩⟩;exact ⟨rfl,_,World.drewN_drewN _ _ _⟩)
     | (go_at_call 86;(with_reducible refine (HCN.out _ (pw_below_drewN hW1.out _)).mono ?_);rintro e w' ⟨rfl,⟨nd,rfl⟩⟩;exact ⟨rfl,_,World.drewN_drewN _ _ _⟩)
     | (go_at_call 65;(with_reducible refine (spec_inRange.calls y.f1 0 ((kk : Int) - 1) _ _ A2.out).mono ?_);rintro e w' ⟨rfl,⟨nd,rfl⟩⟩;exact ⟨rfl,_,World.drewN_drewN _ _ _⟩))
     go_wp2
     go_meet
     case rel=>exact ⟨by (rw [BV]);first | rfl | (simp [*];done),⟨pw_below_drewN hW1.out _⟩,⟨blk_drewN hW2.out _⟩⟩
    | true =>
     rw [hb1] at A1
     by_cases hb2 : nn ≥ 0
     ·have BV : okCls l0_0 kk y = false:=by rw [HDF.out,hb1,decide_eq_false (HAH.out.1 hb2)];rfl
      have d2 : decide (0 ≤ nn) = true:=decide_eq_true hb2
      clear HDF HAH HOK hb2
      go_quiet (first
     | (go_at_call 85;(with_reducible refine (spec_validName.calls _ y.f0 _ _ A1.out).mono ?_);rintro e w' ⟨rfl,⟨nd,rfl⟩⟩;exact ⟨rfl,_,World.drewN_drewN _ _ _⟩)
     | (go_at_call 86;(with_reducible refine (HCN.out _ (pw_below_drewN hW1.out _)).mono ?_);rintro e w' ⟨rfl,⟨nd,rfl⟩⟩;exact ⟨rfl,_,World.drewN_drewN _ _ _⟩)
     | (go_at_call 65;(with_reducible refine (spec_inRange.calls y.f1 0 ((kk : Int) - 1) _ _ A2.out).mono ?_);rintro e w' ⟨rfl,⟨nd,rfl⟩⟩;exact ⟨rfl,_,World.drewN_drewN _ _ _⟩))
      go_wp2
      go_meet
      case rel=>exact ⟨by (rw [BV]);first | rfl | (simp [*];done),⟨pw_below_drewN hW1.out _⟩,⟨blk_drewN hW2.out _⟩⟩
     ·have hnm : named l0_0 y.f0 = (kk : Int):=Classical.byContradiction fun hn=>hb2 (HAH.out.2 hn)
      have d2 : decide (0 ≤ nn) = false:=decide_eq_false hb2
      have BV0 : okCls l0_0 kk y = (if kk = 0 then decide (y.f1 = -1) else decide (0 ≤ y.f1) && decide (y.f1 ≤ (kk : Int) - 1)):=by rw [HDF.out,hb1,decide_eq_true hnm];rfl
      clear HDF HAH HOK hb2 hnm
      by_cases hk0 : kk = 0
      ·have BV : okCls l0_0 kk y = decide (y.f1 = -1):=by rw [BV0,if_pos hk0]
       have e0 : ((kk : Int) == 0) = true:=beq_iff_eq.2 (by omega)
       have e1 : decide (0 < (kk : Int)) = false:=decide_eq_false (by omega)
       have e1n : decide (0 < kk) = false:=decide_eq_false (by omega)
       clear BV0
       by_cases hp : y.f1 = -1
       ·have e2 : (y.f1 != -1) = false:=by rw [hp];rfl
        have e3 : (y.f1 == -1) = true:=by rw [hp];rfl
        rw [decide_eq_true hp] at BV
        clear hp hk0
        go_quiet (first
     | (go_at_call 85;(with_reducible refine (spec_validName.calls _ y.f0 _ _ A1.out).mono ?_);rintro e w' ⟨rfl,⟨nd,rfl⟩⟩;exact ⟨rfl,_,World.drewN_drewN _ _ _⟩)
     | (go_at_call 86;(with_reducible refine (HCN.out _ (pw_below_drewN hW1.out _)).mono ?_);rintro e w' ⟨rfl,⟨nd,rfl⟩⟩;exact ⟨rfl,_,World.drewN_drewN _ _ _⟩)
     | (go_at_call 65;(with_reducible refine (spec_inRange.calls y.f1 0 ((kk : Int) - 1) _ _ A2.out).mono ?_);rintro e w' ⟨rfl,⟨nd,rfl⟩⟩;exact ⟨rfl,_,World.drewN_drewN _ _ _⟩))
        go_wp2
        go_meet
        case rel=>exact ⟨by (rw [BV]);first | rfl | (simp [*];done),⟨pw_below_drewN hW1.out _⟩,⟨blk_drewN hW2.out _⟩⟩
       ·have e2 : (y.f1 != -1) = true:=bne_iff_ne.2 hp
        have e3 : (y.f1 == -1) = false:=beq_eq_false_iff_ne.2 hp
        rw [decide_eq_false hp] at BV
        clear hp hk0
        go_quiet (first
     | (go_at_call 85;(with_reducible refine (spec_validName.calls _ y.f0 _ _ A1.out).mono ?_);rintro e w' ⟨rfl,⟨nd,rfl⟩⟩;exact ⟨rfl,_,World.drewN_drewN _ _ _⟩)
     | (go_at_call 86;(with_reducible refine (HCN.out _ (pw_below_drewN hW1.out _)).mono ?_);rintro e w' ⟨rfl,⟨nd,rfl⟩⟩;exact ⟨rfl,_,World.drewN_drewN _ _ _⟩)
     | (go_at_call 65;(with_reducible refine (spec_inRange.calls y.f1 0 ((kk : Int) - 1) _ _ A2.out).mono ?_);rintro e w' ⟨rfl,⟨nd,rfl⟩⟩;exact ⟨rfl,_,World.drewN_drewN _ _ _⟩))
        go_wp2
        go_meet
        case rel=>exact ⟨by (rw [BV]);first | rfl | (simp [*];done),⟨pw_below_drewN hW1.out _⟩,⟨blk_drewN hW2.out _⟩⟩
      ·have BV : okCls l0_0 kk y = (decide (0 ≤ y.f1) && decide (y.f1 ≤ (kk : Int) - 1)):=by rw [BV0,if_neg hk0]
       have e0 : ((kk : Int) == 0) = false:=beq_eq_false_iff_ne.2 (by omega)
       have e1 : decide (0 < (kk : Int)) = true:=decide_eq_true (by omega)
       have e1n : decide (0 < kk) = true:=decide_eq_true (by omega)
       rw [← BV] at A2
       clear BV BV0 hk0
       cases BV : okCls l0_0 kk y with
       | false =>
        rw [BV] at A2
        go_quiet (first
     | (go_at_call 85;(with_reducible refine (spec_validName.calls _ y.f0 _ _ A1.out).mono ?_);rintro e w' ⟨rfl,⟨nd,rfl⟩⟩;exact ⟨rfl,_,World.drewN_drewN _ _ _⟩)
     | (go_at_call 86;(with_reducible refine (HCN.out _ (pw_below_drewN hW1.out _)).mono ?_);rintro e w' ⟨rfl,⟨nd,rfl⟩⟩;exact ⟨rfl,_,World.drewN_drewN _ _ _⟩)
     | (go_at_call 65;(with_reducible refine (spec_inRange.calls y.f1 0 ((kk : Int) - 1) _ _ A2.out).mono ?_);rintro e w' ⟨rfl,⟨nd,rfl⟩⟩;exact ⟨rfl,_,World.drewN_drewN _ _ _⟩))
        go_wp2
        go_meet
        case rel=>exact ⟨by (rw [BV]);first | rfl | (simp [*];done),⟨pw_below_drewN hW1.out _⟩,⟨blk_drewN hW2.out _⟩⟩
       | true =>
        rw [BV] at A2
        go_quiet (first
     | (go_at_call 85;(with_reducible refine (spec_validName.calls _ y.f0 _ _ A1.out).mono ?_);rintro e w' ⟨rfl,⟨nd,rfl⟩⟩;exact ⟨rfl,_,World.drewN_drewN _ _ _⟩)
     | (go_at_call 86;(with_reducible refine (HCN.out _ (pw_below_drewN hW1.out _)).mono ?_);rintro e w' ⟨rfl,⟨nd,rfl⟩⟩;exact ⟨rfl,_,World.drewN_drewN _ _ _⟩)
     | (go_at_call 65;(with_reducible refine (spec_inRange.calls y.f1 0 ((kk : Int) - 1) _ _ A2.out).mono ?_);rintro e w' ⟨rfl,⟨nd,rfl⟩⟩;exact ⟨rfl,_,World.drewN_drewN _ _ _⟩))
        go_wp2
        go_meet
        case rel=>exact ⟨by (rw [BV]);first | rfl | (simp [*];done),⟨pw_below_drewN hW1.out _⟩,⟨blk_drewN hW2.out _⟩⟩
   case rest =>
    obtain ⟨rfl,hW,hK⟩:=hcut
    have hb:=HOK.out
    cases BV : okCls l0_0 kk y with
    | false =>
     go_wp2
     go_ret
     refine ⟨?_,hW.out⟩
     rw [← HRr.out]
     have : vT l0_0 = false:=by
      cases hv : vT l0_0 with
      | false=>rfl
      | true=>have:=vT_at hv kk hlt;rw [HOK.out,BV] at this;cases this
     rw [this];rfl
    | true =>
     go_wp2
     go_roundg (l0_0.length - (kk + 1))
     case measure=>omega
     case rel =>
      refine ⟨kk + 1,by omega,by omega,by go_num,⟨hW.out⟩,⟨hK.out⟩,⟨fun j hj=>?_⟩⟩
      by_cases e : j = kk
      ·subst e;rw [HOK.out,BV]
      ·exact HA.out j (by omega)
  ·have hltz : ¬ (kk : Int) < (l0_0.length : Int):=by omega
   have : kk = l0_0.length:=by omega
   subst this
   have A3:=a0_ (show spec_inRange.f (l0_0.length : Int) 1 8 = some (vT l0_0) by
    have hall : (List.range l0_0.length).all (fun i=>okCls l0_0 i (l0_0.getD i z85)) = true:=by
     rw [List.all_eq_true];intro i hi;exact HA.out i (by simpa using hi)
    unfold spec_inRange.f vT
    rw [hall]
    by_cases h1 : (1 : Int) ≤ l0_0.length
    ·rw [if_pos h1]
     have h1' : 1 ≤ l0_0.length:=by omega
     by_cases h8 : l0_0.length ≤ 8
     ·simp [h1',h8];omega
     ·simp [h8];omega
    ·rw [if_neg h1]
     have h1' : ¬ 1 ≤ l0_0.length:=by omega
     simp [h1'])
   rw [HRr.out] at A3
   go_wp2_with (go_at_call 65;(with_reducible refine (spec_inRange.calls (l0_0.length : Int) 1 8 _ _ A3.out).mono ?_);rintro e w' ⟨rfl,⟨nd,rfl⟩⟩)
   go_ret
   exact ⟨rfl,pw_below_drewN BW.out _⟩
end Go.Proofs.Ytfphcdbnnienhaa.P
namespace Go.Proofs.Ytfphcdbnnienhaa.P
open Go.RowKit Go.Proofs.YtfphcdbnnienhaaW.PrintWords Go.Proofs.YtfphcdbnnienhaaW.PrintLast Go.Proofs.YtfphcdbnnienhaaW.PrintMore
attribute [local go_sem] max2_int min2_int max_two min_two max_three min_three max_four min_four
set_option linter.unusedVariables false
set_option linter.unusedSimpArgs false
def spec_validGroup.f (l0_0 : List Cls) (l1 : List Prt) : Option Bool:=if smT l0_0 = true then some (vG l0_0 l1) else none
set_option maxHeartbeats 8000000 in
set_option maxRecDepth 100000 in
theorem spec_validGroup.calls (A0_0 : Option Addr) (c0_0 : Nat) (l0_0 : List (S85)) (A1 : Option Addr) (c1 : Nat) (l1 : List (S47)) (r : Bool) (w : World) (hr0_0 : Kd.C k85 w A0_0 l0_0.length l0_0) (hc0_0 : l0_0.length ≤ c0_0) (hr1 : Kd.C k47 w A1 l1.length l1) (hc1 : l1.length ≤ c1) (h : spec_validGroup.f l0_0 l1 = some r) :
  Calls Try.prog 40 #[.agg #[.slice A0_0 l0_0.length c0_0],.slice A1 l1.length c1] w fun e w'=>e = .returned (.bool r) ∧ Below w.heap.size w w':=by
 have hu31:=Try.underlying25
 have hu74:=Try.underlying47
 have hsm : smT l0_0 = true:=by
  apply Classical.byContradiction
  intro hn
  rw [spec_validGroup.f,if_neg hn] at h
  cases h
 rw [spec_validGroup.f,if_pos hsm] at h
 have HRr:=a0_ (Option.some.inj h)
 have HV:=a0_ (fun (W : World) (hb : Below w.heap.size w W)=>spec_validTree.calls A0_0 c0_0 l0_0 (vT l0_0) W (Kd.C_below hr0_0 hb) hc0_0 (by rw [spec_validTree.f,if_pos hsm]))
 have HH:=a0_ (fun (a : Int) (W : World) (hb : Below w.heap.size w W)=>spec_hasClass.calls A0_0 c0_0 l0_0 a (hasC l0_0 a) W (Kd.C_below hr0_0 hb) hc0_0 (spec_hasClass_ev l0_0 a hr0_0.2.1))
 have HR:=a0_ hr1
 have HC1:=a0_ hc1
 have hmax : l1.length ≤ 9223372036854775807:=hr1.2.1
 clear h hsm hr0_0 hr1
 go_enter Try.func40,Try.ntmps40
 go_wp2
 go_loopg [5] l1.length (fun gg s5 wr=>∃ kk : Nat,kk ≤ l1.length ∧ l1.length - kk ≤ gg ∧ s5 = .int .i64 kk ∧ Aside0 (Below w.heap.size w wr) ∧ Aside0 (wr.heap[w.heap.size]? = some (.cells #[.slice A0_0 l0_0.length c0_0] 25 (0,0))) ∧ Aside0 (∀ j,j < kk → okP l0_0 l1 j (l1.getD j z47) = true))
 case atStart=>exact ⟨0,Nat.zero_le _,by omega,rfl,⟨below1 w _⟩,⟨heap_new1 w _⟩,⟨fun j hj=>absurd hj (Nat.not_lt_zero _)⟩⟩
 case round =>
  obtain ⟨kk,hkk,hg,rfl,BW,BK,HA⟩:=hrel
  have hcz : wr.cell? ⟨w.heap.size,0,none⟩ = some (.slice A0_0 l0_0.length c0_0):=(blk_cell BK.out 0).trans rfl
  by_cases hlt : kk < l1.length
  ·have hltz : (kk : Int) < (l1.length : Int):=by omega
   obtain ⟨ad,ea,hx0,hx1,hx2,hx3⟩:=at_T47 HR.out (kk : Int) (by omega) (by omega)
   cases ea
   have hrd : rd_T47 l1 (kk : Int) = l1.getD kk z47:=by simp [rd_T47]
   rw [hrd] at hx0 hx1 hx2 hx3
   rw [Int.toNat_natCast] at hx0 hx1 hx2 hx3
   replace hx0:=(BW.out.cell (World.block_lt_of_cell? w _ hx0)).trans hx0
   replace hx1:=(BW.out.cell (World.block_lt_of_cell? w _ hx1)).trans hx1
   replace hx2:=(BW.out.cell (World.block_lt_of_cell? w _ hx2)).trans hx2
   replace hx3:=(BW.out.cell (World.block_lt_of_cell? w _ hx3)).trans hx3
   clear hrd
   obtain ⟨kE,hkE⟩:=Ev.out (spec_endOf_ev l1 kk hlt hmax)
   have HEN:=a0_ (fun (W : World) (hb : Below w.heap.size w W)=>spec_endOf.calls kE (some ad) c1 l1 (kk : Int) ((endG l1 kk : Nat) : Int) W (Kd.C_below HR.out hb) HC1.out hkE)
   clear hkE
   have hdf : okP l0_0 l1 kk (l1.getD kk z47) = (okP1 l0_0 kk (l1.getD kk z47) && ((if kk = 0 then true else okUp (l1.getD (kk - 1) z47) (l1.getD kk z47)) && !((l1.getD kk z47).f1 && ((endG l1 kk : Int) == (kk : Int) + 1)))):=rfl
   generalize hy : l1.getD kk z47 = y at hx0 hx1 hx2 hx3 hdf
   have B:=a0_ hy
   clear hy
   obtain ⟨y0,y1,y2,y3⟩:=y
   go_upto_region 5 with (fail)
   have hW1:=a0_ (below_alloc BW.out (.cells #[.int .i64 y0,.bool y1,.int .i64 y2,.int .i64 y3] 47))
   have hW2:=a0_ (blk_alloc BK.out (.cells #[.int .i64 y0,.bool y1,.int .i64 y2,.int .i64 y3] 47))
   have hW3:=a0_ (heap_new1 wr (.cells #[.int .i64 y0,.bool y1,.int .i64 y2,.int .i64 y3] 47))
   clear hcz hx0 hx1 hx2 hx3 BW BK
   generalize wr.alloc (.cells #[.int .i64 y0,.bool y1,.int .i64 y2,.int .i64 y3] 47) = W1 at hW1 hW2 hW3 ⊢
   generalize wr.heap.size = gb at hW3 ⊢
   generalize hq1 : okP1 l0_0 kk ⟨y0,y1,y2,y3⟩ = q1 at hdf
   have hdf1 : okP1 l0_0 kk ⟨y0,y1,y2,y3⟩ = ((decide (0 ≤ y3) && decide (y3 ≤ 99)) && ((decide (0 ≤ y0) && decide (y0 ≤ 5)) && (!(y1 && !(y2 == 0)) && (!(!y1 && !hasC l0_0 y2) && ((y0 == 0) == ((kk : Int) == 0)))))):=rfl
   rw [hq1] at hdf1
   have HDF:=a0_ hdf
   clear hdf hq1
   go_cut [55] (fun v55 WC=>v55 = .bool (!q1) ∧ Aside0 (Below w.heap.size w WC) ∧ Aside0 (WC.heap[w.heap.size]? = some (.cells #[.slice A0_0 l0_0.length c0_0] 25 (0,0))) ∧ Aside0 (WC.heap[gb]? = some (.cells #[.int .i64 y0,.bool y1,.int .i64 y2,.int .i64 y3] 47 (0,0))))
   case first =>
    have A1:=spec_inRange_ev y3 0 99
    have A2:=spec_inRange_ev y0 0 5
    have H3:=HH.out y2
    generalize (decide (0 ≤ y3) && decide (y3 ≤ 99)) = b1 at A1 hdf1
    generalize (decide (0 ≤ y0) && decide (y0 ≤ 5)) = b2 at A2 hdf1
    generalize hasC l0_0 y2 = b4 at H3 hdf1
    replace A1:=a0_ A1
    replace A2:=a0_ A2
    replace H3:=a0_ H3
    have HB:=hW1
    have BK:=hW2
    have BY:=hW3
    clear hW1 hW2 hW3 HDF HEN HH HV HA HRr
    have hcz : W1.cell? ⟨w.heap.size,0,none⟩ = some (.slice A0_0 l0_0.length c0_0):=(blk_cell BK.out 0).trans rfl
    have e0 : W1.cell? ⟨gb,0,none⟩ = some (.int .i64 y0):=(blk_cell BY.out 0).trans rfl
    have e1 : W1.cell? ⟨gb,1,none⟩ = some (.bool y1):=(blk_cell BY.out 1).trans rfl
    have e2 : W1.cell? ⟨gb,2,none⟩ = some (.int .i64 y2):=(blk_cell BY.out 2).trans rfl
    have e3 : W1.cell? ⟨gb,3,none⟩ = some (.int .i64 y3):=(blk_cell BY.out 3).trans rfl
    cases b1 with
    | false =>
     have BV:=a0_ (show q1 = false from hdf1.trans (by simp))
     clear hdf1
     go_wp2_with (first
     | (go_at_call 65;(first | (with_reducible refine (spec_inRange.calls y3 0 99 _ _ A1.out).mono ?_) | (with_reducible refine (spec_inRange.calls y0 0 5 _ _ A2.out).mono ?_));rintro e w' ⟨rfl,hd'⟩;have hb':=hd'.below;clear hd';replace HB:=a0_ (below_step HB.out hb');replace BK:=a0_ (blk_keptB BK.out hb');replace BY:=a0_ (blk_keptB BY.out hb');clear hb' hcz e0 e1 e2 e3;have hcz : w'.cell? ⟨w.heap.size,0,none⟩ = some (.slice A0_0 l0_0.length c0_0):=(blk_cell BK.out 0).trans rfl;have e0 : w'.cell? ⟨gb,0,none⟩ = some (.int .i64 y0):=(blk_cell BY.out 0).trans rfl;have e1 : w'.cell? ⟨gb,1,none⟩ = some (.bool y1):=(blk_cell BY.out 1).trans rfl;have e2 : w'.cell? ⟨gb,2,none⟩ = some (.int .i64 y2):=(blk_cell BY.out 2).trans rfl;have e3 : w'.cell? ⟨gb,3,none⟩ = some (.int .i64 y3):=(blk_cell BY.out 3).trans rfl)
     | (go_at_call 48;refine (H3.out _ HB.out).mono ?_;rintro e w' ⟨rfl,hb'⟩;replace HB:=a0_ (below_step HB.out hb');replace BK:=a0_ (blk_keptB BK.out hb');replace BY:=a0_ (blk_keptB BY.out hb');clear hb' hcz e0 e1 e2 e3;have hcz : w'.cell? ⟨w.heap.size,0,none⟩ = some (.slice A0_0 l0_0.length c0_0):=(blk_cell BK.out 0).trans rfl;have e0 : w'.cell? ⟨gb,0,none⟩ = some (.int .i64 y0):=(blk_cell BY.out 0).trans rfl;have e1 : w'.cell? ⟨gb,1,none⟩ = some (.bool y1):=(blk_cell BY.out 1).trans rfl;have e2 : w'.cell? ⟨gb,2,none⟩ = some (.int .i64 y2):=(blk_cell BY.out 2).trans rfl;have e3 : w'.cell? ⟨gb,3,none⟩ = some (.int .i64 y3):=(blk_cell BY.out 3).trans rfl))
     go_meet
     case rel=>exact ⟨by rw [BV.out];first | rfl | (simp;done),HB,BK,BY⟩
    | true =>
     cases b2 with
     | false =>
      have BV:=a0_ (show q1 = false from hdf1.trans (by simp))
      clear hdf1
      go_wp2_with (first
     | (go_at_call 65;(first | (with_reducible refine (spec_inRange.calls y3 0 99 _ _ A1.out).mono ?_) | (with_reducible refine (spec_inRange.calls y0 0 5 _ _ A2.out).mono ?_));rintro e w' ⟨rfl,hd'⟩;have hb':=hd'.below;clear hd';replace HB:=a0_ (below_step HB.out hb');replace BK:=a0_ (blk_keptB BK.out hb');replace BY:=a0_ (blk_keptB BY.out hb');clear hb' hcz e0 e1 e2 e3;have hcz : w'.cell? ⟨w.heap.size,0,none⟩ = some (.slice A0_0 l0_0.length c0_0):=(blk_cell BK.out 0).trans rfl;have e0 : w'.cell? ⟨gb,0,none⟩ = some (.int .i64 y0):=(blk_cell BY.out 0).trans rfl;have e1 : w'.cell? ⟨gb,1,none⟩ = some (.bool y1):=(blk_cell BY.out 1).trans rfl;have e2 : w'.cell? ⟨gb,2,none⟩ = some (.int .i64 y2):=(blk_cell BY.out 2).trans rfl;have e3 : w'.cell? ⟨gb,3,none⟩ = some (.int .i64 y3):=(blk_cell BY.out 3).trans rfl)
     | (go_at_call 48;refine (H3.out _ HB.out).mono ?_;rintro e w' ⟨rfl,hb'⟩;replace HB:=a0_ (below_step HB.out hb');replace BK:=a0_ (blk_keptB BK.out hb');replace BY:=a0_ (blk_keptB BY.out hb');clear hb' hcz e0 e1 e2 e3;have hcz : w'.cell? ⟨w.heap.size,0,none⟩ = some (.slice A0_0 l0_0.length c0_0):=(blk_cell BK.out 0).trans rfl;have e0 : w'.cell? ⟨gb,0,none⟩ = some (.int .i64 y0):=(blk_cell BY.out 0).trans rfl;have e1 : w'.cell? ⟨gb,1,none⟩ = some (.bool y1):=(blk_cell BY.out 1).trans rfl;have e2 : w'.cell? ⟨gb,2,none⟩ = some (.int .i64 y2):=(blk_cell BY.out 2).trans rfl;have e3 : w'.cell? ⟨gb,3,none⟩ = some (.int .i64 y3):=(blk_cell BY.out 3).trans rfl))
      go_meet
      case rel=>exact ⟨by rw [BV.out];first | rfl | (simp;done),HB,BK,BY⟩
     | true =>
      cases y1 with
      | true =>
       cases hz2 : (y2 == (0 : Int)) with
       | false =>
        have hz2n : (y2 != (0 : Int)) = true:=by rw [bne,hz2];rfl
        rw [hz2] at hdf1
        have BV:=a0_ (show q1 = false from hdf1.trans (by simp))
        clear hdf1
        go_wp2_with (first
     | (go_at_call 65;(first | (with_reducible refine (spec_inRange.calls y3 0 99 _ _ A1.out).mono ?_) | (with_reducible refine (spec_inRange.calls y0 0 5 _ _ A2.out).mono ?_));rintro e w' ⟨rfl,hd'⟩;have hb':=hd'.below;clear hd';replace HB:=a0_ (below_step HB.out hb');replace BK:=a0_ (blk_keptB BK.out hb');replace BY:=a0_ (blk_keptB BY.out hb');clear hb' hcz e0 e1 e2 e3;have hcz : w'.cell? ⟨w.heap.size,0,none⟩ = some (.slice A0_0 l0_0.length c0_0):=(blk_cell BK.out 0).trans rfl;have e0 : w'.cell? ⟨gb,0,none⟩ = some (.int .i64 y0):=(blk_cell BY.out 0).trans rfl;have e1 : w'.cell? ⟨gb,1,none⟩ = some (.bool true):=(blk_cell BY.out 1).trans rfl;have e2 : w'.cell? ⟨gb,2,none⟩ = some (.int .i64 y2):=(blk_cell BY.out 2).trans rfl;have e3 : w'.cell? ⟨gb,3,none⟩ = some (.int .i64 y3):=(blk_cell BY.out 3).trans rfl)
     | (go_at_call 48;refine (H3.out _ HB.out).mono ?_;rintro e w' ⟨rfl,hb'⟩;replace HB:=a0_ (below_step HB.out hb');replace BK:=a0_ (blk_keptB BK.out hb');replace BY:=a0_ (blk_keptB BY.out hb');clear hb' hcz e0 e1 e2 e3;have hcz : w'.cell? ⟨w.heap.size,0,none⟩ = some (.slice A0_0 l0_0.length c0_0):=(blk_cell BK.out 0).trans rfl;have e0 : w'.cell? ⟨gb,0,none⟩ = some (.int .i64 y0):=(blk_cell BY.out 0).trans rfl;have e1 : w'.cell? ⟨gb,1,none⟩ = some (.bool true):=(blk_cell BY.out 1).trans rfl;have e2 : w'.cell? ⟨gb,2,none⟩ = some (.int .i64 y2):=(blk_cell BY.out 2).trans rfl;have e3 : w'.cell? ⟨gb,3,none⟩ = some (.int .i64 y3):=(blk_cell BY.out 3).trans rfl))
        go_meet
        case rel=>exact ⟨by rw [BV.out];first | rfl | (simp;done),HB,BK,BY⟩
       | true =>
        have hz2n : (y2 != (0 : Int)) = false:=by rw [bne,hz2];rfl
        rw [hz2] at hdf1
        cases hz : (y0 == (0 : Int)) <;> cases hk : ((kk : Int) == 0) <;> rw [hz,hk] at hdf1
        ·
         have BV:=a0_ (show q1 = true from hdf1.trans (by first | rfl | (cases b4 <;> rfl) | simp))
         clear hdf1
         go_wp2_with (first
     | (go_at_call 65;(first | (with_reducible refine (spec_inRange.calls y3 0 99 _ _ A1.out).mono ?_) | (with_reducible refine (spec_inRange.calls y0 0 5 _ _ A2.out).mono ?_));rintro e w' ⟨rfl,hd'⟩;have hb':=hd'.below;clear hd';replace HB:=a0_ (below_step HB.out hb');replace BK:=a0_ (blk_keptB BK.out hb');replace BY:=a0_ (blk_keptB BY.out hb');clear hb' hcz e0 e1 e2 e3;have hcz : w'.cell? ⟨w.heap.size,0,none⟩ = some (.slice A0_0 l0_0.length c0_0):=(blk_cell BK.out 0).trans rfl;have e0 : w'.cell? ⟨gb,0,none⟩ = some (.int .i64 y0):=(blk_cell BY.out 0).trans rfl;have e1 : w'.cell? ⟨gb,1,none⟩ = some (.bool true):=(blk_cell BY.out 1).trans rfl;have e2 : w'.cell? ⟨gb,2,none⟩ = some (.int .i64 y2):=(blk_cell BY.out 2).trans rfl;have e3 : w'.cell? ⟨gb,3,none⟩ = some (.int .i64 y3):=(blk_cell BY.out 3).trans rfl)
     | (go_at_call 48;refine (H3.out _ HB.out).mono ?_;rintro e w' ⟨rfl,hb'⟩;replace HB:=a0_ (below_step HB.out hb');replace BK:=a0_ (blk_keptB BK.out hb');replace BY:=a0_ (blk_keptB BY.out hb');clear hb' hcz e0 e1 e2 e3;have hcz : w'.cell? ⟨w.heap.size,0,none⟩ = some (.slice A0_0 l0_0.length c0_0):=(blk_cell BK.out 0).trans rfl;have e0 : w'.cell? ⟨gb,0,none⟩ = some (.int .i64 y0):=(blk_cell BY.out 0).trans rfl;have e1 : w'.cell? ⟨gb,1,none⟩ = some (.bool true):=(blk_cell BY.out 1).trans rfl;have e2 : w'.cell? ⟨gb,2,none⟩ = some (.int .i64 y2):=(blk_cell BY.out 2).trans rfl;have e3 : w'.cell? ⟨gb,3,none⟩ = some (.int .i64 y3):=(blk_cell BY.out 3).trans rfl))
         go_meet
         case rel=>exact ⟨by rw [BV.out];first | rfl | (simp;done),HB,BK,BY⟩
        ·
         have BV:=a0_ (show q1 = false from hdf1.trans (by first | rfl | (cases b4 <;> rfl) | simp))
         clear hdf1
         go_wp2_with (first
     | (go_at_call 65;(first | (with_reducible refine (spec_inRange.calls y3 0 99 _ _ A1.out).mono ?_) | (with_reducible refine (spec_inRange.calls y0 0 5 _ _ A2.out).mono ?_));rintro e w' ⟨rfl,hd'⟩;have hb':=hd'.below;clear hd';replace HB:=a0_ (below_step HB.out hb');replace BK:=a0_ (blk_keptB BK.out hb');replace BY:=a0_ (blk_keptB BY.out hb');clear hb' hcz e0 e1 e2 e3;have hcz : w'.cell? ⟨w.heap.size,0,none⟩ = some (.slice A0_0 l0_0.length c0_0):=(blk_cell BK.out 0).trans rfl;have e0 : w'.cell? ⟨gb,0,none⟩ = some (.int .i64 y0):=(blk_cell BY.out 0).trans rfl;have e1 : w'.cell? ⟨gb,1,none⟩ = some (.bool true):=(blk_cell BY.out 1).trans rfl;have e2 : w'.cell? ⟨gb,2,none⟩ = some (.int .i64 y2):=(blk_cell BY.out 2).trans rfl;have e3 : w'.cell? ⟨gb,3,none⟩ = some (.int .i64 y3):=(blk_cell BY.out 3).trans rfl)
     | (go_at_call 48;refine (H3.out _ HB.out).mono ?_;rintro e w' ⟨rfl,hb'⟩;replace HB:=a0_ (below_step HB.out hb');replace BK:=a0_ (blk_keptB BK.out hb');replace BY:=a0_ (blk_keptB BY.out hb');clear hb' hcz e0 e1 e2 e3;have hcz : w'.cell? ⟨w.heap.size,0,none⟩ = some (.slice A0_0 l0_0.length c0_0):=(blk_cell BK.out 0).trans rfl;have e0 : w'.cell? ⟨gb,0,none⟩ = some (.int .i64 y0):=(blk_cell BY.out 0).trans rfl;have e1 : w'.cell? ⟨gb,1,none⟩ = some (.bool true):=(blk_cell BY.out 1).trans rfl;have e2 : w'.cell? ⟨gb,2,none⟩ = some (.int .i64 y2):=(blk_cell BY.out 2).trans rfl;have e3 : w'.cell? ⟨gb,3,none⟩ = some (.int .i64 y3):=(blk_cell BY.out 3).trans rfl))
         go_meet
         case rel=>exact ⟨by rw [BV.out];first | rfl | (simp;done),HB,BK,BY⟩
        ·
         have BV:=a0_ (show q1 = false from hdf1.trans (by first | rfl | (cases b4 <;> rfl) | simp))
         clear hdf1
         go_wp2_with (first
     | (go_at_call 65;(first | (with_reducible refine (spec_inRange.calls y3 0 99 _ _ A1.out).mono ?_) | (with_reducible refine (spec_inRange.calls y0 0 5 _ _ A2.out).mono ?_));rintro e w' ⟨rfl,hd'⟩;have hb':=hd'.below;clear hd';replace HB:=a0_ (below_step HB.out hb');replace BK:=a0_ (blk_keptB BK.out hb');replace BY:=a0_ (blk_keptB BY.out hb');clear hb' hcz e0 e1 e2 e3;have hcz : w'.cell? ⟨w.heap.size,0,none⟩ = some (.slice A0_0 l0_0.length c0_0):=(blk_cell BK.out 0).trans rfl;have e0 : w'.cell? ⟨gb,0,none⟩ = some (.int .i64 y0):=(blk_cell BY.out 0).trans rfl;have e1 : w'.cell? ⟨gb,1,none⟩ = some (.bool true):=(blk_cell BY.out 1).trans rfl;have e2 : w'.cell? ⟨gb,2,none⟩ = some (.int .i64 y2):=(blk_cell BY.out 2).trans rfl;have e3 : w'.cell? ⟨gb,3,none⟩ = some (.int .i64 y3):=(blk_cell BY.out 3).trans rfl)
     | (go_at_call 48;refine (H3.out _ HB.out).mono ?_;rintro e w' ⟨rfl,hb'⟩;replace HB:=a0_ (below_step HB.out hb');replace BK:=a0_ (blk_keptB BK.out hb');replace BY:=a0_ (blk_keptB BY.out hb');clear hb' hcz e0 e1 e2 e3;have hcz : w'.cell? ⟨w.heap.size,0,none⟩ = some (.slice A0_0 l0_0.length c0_0):=(blk_cell BK.out 0).trans rfl;have e0 : w'.cell? ⟨gb,0,none⟩ = some (.int .i64 y0):=(blk_cell BY.out 0).trans rfl;have e1 : w'.cell? ⟨gb,1,none⟩ = some (.bool true):=(blk_cell BY.out 1).trans rfl;have e2 : w'.cell? ⟨gb,2,none⟩ = some (.int .i64 y2):=(blk_cell BY.out 2).trans rfl;have e3 : w'.cell? ⟨gb,3,none⟩ = some (.int .i64 y3):=(blk_cell BY.out 3).trans rfl))
         go_meet
         case rel=>exact ⟨by rw [BV.out];first | rfl | (simp;done),HB,BK,BY⟩
        ·
         have BV:=a0_ (show q1 = true from hdf1.trans (by first | rfl | (cases b4 <;> rfl) | simp))
         clear hdf1
         go_wp2_with (first
     | (go_at_call 65;(first | (with_reducible refine (spec_inRange.calls y3 0 99 _ _ A1.out).mono ?_) | (with_reducible refine (spec_inRange.calls y0 0 5 _ _ A2.out).mono ?_));rintro e w' ⟨rfl,hd'⟩;have hb':=hd'.below;clear hd';replace HB:=a0_ (below_step HB.out hb');replace BK:=a0_ (blk_keptB BK.out hb');replace BY:=a0_ (blk_keptB BY.out hb');clear hb' hcz e0 e1 e2 e3;have hcz : w'.cell? ⟨w.heap.size,0,none⟩ = some (.slice A0_0 l0_0.length c0_0):=(blk_cell BK.out 0).trans rfl;have e0 : w'.cell? ⟨gb,0,none⟩ = some (.int .i64 y0):=(blk_cell BY.out 0).trans rfl;have e1 : w'.cell? ⟨gb,1,none⟩ = some (.bool true):=(blk_cell BY.out 1).trans rfl;have e2 : w'.cell? ⟨gb,2,none⟩ = some (.int .i64 y2):=(blk_cell BY.out 2).trans rfl;have e3 : w'.cell? ⟨gb,3,none⟩ = some (.int .i64 y3):=(blk_cell BY.out 3).trans rfl)
     | (go_at_call 48;refine (H3.out _ HB.out).mono ?_;rintro e w' ⟨rfl,hb'⟩;replace HB:=a0_ (below_step HB.out hb');replace BK:=a0_ (blk_keptB BK.out hb');replace BY:=a0_ (blk_keptB BY.out hb');clear hb' hcz e0 e1 e2 e3;have hcz : w'.cell? ⟨w.heap.size,0,none⟩ = some (.slice A0_0 l0_0.length c0_0):=(blk_cell BK.out 0).trans rfl;have e0 : w'.cell? ⟨gb,0,none⟩ = some (.int .i64 y0):=(blk_cell BY.out 0).trans rfl;have e1 : w'.cell? ⟨gb,1,none⟩ = some (.bool true):=(blk_cell BY.out 1).trans rfl;have e2 : w'.cell? ⟨gb,2,none⟩ = some (.int .i64 y2):=(blk_cell BY.out 2).trans rfl;have e3 : w'.cell? ⟨gb,3,none⟩ = some (.int .i64 y3):=(blk_cell BY.out 3).trans rfl))
         go_meet
         case rel=>exact ⟨by rw [BV.out];first | rfl | (simp;done),HB,BK,BY⟩
      | false =>
       cases b4 with
       | false =>
        have BV:=a0_ (show q1 = false from hdf1.trans (by simp))
        clear hdf1
        go_wp2_with (first
     | (go_at_call 65;(first | (with_reducible refine (spec_inRange.calls y3 0 99 _ _ A1.out).mono ?_) | (with_reducible refine (spec_inRange.calls y0 0 5 _ _ A2.out).mono ?_));rintro e w' ⟨rfl,hd'⟩;have hb':=hd'.below;clear hd';replace HB:=a0_ (below_step HB.out hb');replace BK:=a0_ (blk_keptB BK.out hb');replace BY:=a0_ (blk_keptB BY.out hb');clear hb' hcz e0 e1 e2 e3;have hcz : w'.cell? ⟨w.heap.size,0,none⟩ = some (.slice A0_0 l0_0.length c0_0):=(blk_cell BK.out 0).trans rfl;have e0 : w'.cell? ⟨gb,0,none⟩ = some (.int .i64 y0):=(blk_cell BY.out 0).trans rfl;have e1 : w'.cell? ⟨gb,1,none⟩ = some (.bool false):=(blk_cell BY.out 1).trans rfl;have e2 : w'.cell? ⟨gb,2,none⟩ = some (.int .i64 y2):=(blk_cell BY.out 2).trans rfl;have e3 : w'.cell? ⟨gb,3,none⟩ = some (.int .i64 y3):=(blk_cell BY.out 3).trans rfl)
     | (go_at_call 48;refine (H3.out _ HB.out).mono ?_;rintro e w' ⟨rfl,hb'⟩;replace HB:=a0_ (below_step HB.out hb');replace BK:=a0_ (blk_keptB BK.out hb');replace BY:=a0_ (blk_keptB BY.out hb');clear hb' hcz e0 e1 e2 e3;have hcz : w'.cell? ⟨w.heap.size,0,none⟩ = some (.slice A0_0 l0_0.length c0_0):=(blk_cell BK.out 0).trans rfl;have e0 : w'.cell? ⟨gb,0,none⟩ = some (.int .i64 y0):=(blk_cell BY.out 0).trans rfl;have e1 : w'.cell? ⟨gb,1,none⟩ = some (.bool false):=(blk_cell BY.out 1).trans rfl;have e2 : w'.cell? ⟨gb,2,none⟩ = some (.int .i64 y2):=(blk_cell BY.out 2).trans rfl;have e3 : w'.cell? ⟨gb,3,none⟩ = some (.int .i64 y3):=(blk_cell BY.out 3).trans rfl))
        go_meet
        case rel=>exact ⟨by rw [BV.out];first | rfl | (simp;done),HB,BK,BY⟩
       | true =>
        generalize (y2 == (0 : Int)) = z2 at hdf1
        cases hz : (y0 == (0 : Int)) <;> cases hk : ((kk : Int) == 0) <;> rw [hz,hk] at hdf1
        ·
         have BV:=a0_ (show q1 = true from hdf1.trans (by first | rfl | (cases b4 <;> rfl) | simp))
         clear hdf1
         go_wp2_with (first
     | (go_at_call 65;(first | (with_reducible refine (spec_inRange.calls y3 0 99 _ _ A1.out).mono ?_) | (with_reducible refine (spec_inRange.calls y0 0 5 _ _ A2.out).mono ?_));rintro e w' ⟨rfl,hd'⟩;have hb':=hd'.below;clear hd';replace HB:=a0_ (below_step HB.out hb');replace BK:=a0_ (blk_keptB BK.out hb');replace BY:=a0_ (blk_keptB BY.out hb');clear hb' hcz e0 e1 e2 e3;have hcz : w'.cell? ⟨w.heap.size,0,none⟩ = some (.slice A0_0 l0_0.length c0_0):=(blk_cell BK.out 0).trans rfl;have e0 : w'.cell? ⟨gb,0,none⟩ = some (.int .i64 y0):=(blk_cell BY.out 0).trans rfl;have e1 : w'.cell? ⟨gb,1,none⟩ = some (.bool false):=(blk_cell BY.out 1).trans rfl;have e2 : w'.cell? ⟨gb,2,none⟩ = some (.int .i64 y2):=(blk_cell BY.out 2).trans rfl;have e3 : w'.cell? ⟨gb,3,none⟩ = some (.int .i64 y3):=(blk_cell BY.out 3).trans rfl)
     | (go_at_call 48;refine (H3.out _ HB.out).mono ?_;rintro e w' ⟨rfl,hb'⟩;replace HB:=a0_ (below_step HB.out hb');replace BK:=a0_ (blk_keptB BK.out hb');replace BY:=a0_ (blk_keptB BY.out hb');clear hb' hcz e0 e1 e2 e3;have hcz : w'.cell? ⟨w.heap.size,0,none⟩ = some (.slice A0_0 l0_0.length c0_0):=(blk_cell BK.out 0).trans rfl;have e0 : w'.cell? ⟨gb,0,none⟩ = some (.int .i64 y0):=(blk_cell BY.out 0).trans rfl;have e1 : w'.cell? ⟨gb,1,none⟩ = some (.bool false):=(blk_cell BY.out 1).trans rfl;have e2 : w'.cell? ⟨gb,2,none⟩ = some (.int .i64 y2):=(blk_cell BY.out 2).trans rfl;have e3 : w'.cell? ⟨gb,3,none⟩ = some (.int .i64 y3):=(blk_cell BY.out 3).trans rfl))
         go_meet
         case rel=>exact ⟨by rw [BV.out];first | rfl | (simp;done),HB,BK,BY⟩
        ·
         have BV:=a0_ (show q1 = false from hdf1.trans (by first | rfl | (cases b4 <;> rfl) | simp))
         clear hdf1
         go_wp2_with (first
     | (go_at_call 65;(first | (with_reducible refine (spec_inRange.calls y3 0 99 _ _ A1.out).mono ?_) | (with_reducible refine (spec_inRange.calls y0 0 5 _ _ A2.out).mono ?_));rintro e w' ⟨rfl,hd'⟩;have hb':=hd'.below;clear hd';replace HB:=a0_ (below_step HB.out hb');replace BK:=a0_ (blk_keptB BK.out hb');replace BY:=a0_ (blk_keptB BY.out hb');clear hb' hcz e0 e1 e2 e3;have hcz : w'.cell? ⟨w.heap.size,0,none⟩ = some (.slice A0_0 l0_0.length c0_0):=(blk_cell BK.out 0).trans rfl;have e0 : w'.cell? ⟨gb,0,none⟩ = some (.int .i64 y0):=(blk_cell BY.out 0).trans rfl;have e1 : w'.cell? ⟨gb,1,none⟩ = some (.bool false):=(blk_cell BY.out 1).trans rfl;have e2 : w'.cell? ⟨gb,2,none⟩ = some (.int .i64 y2):=(blk_cell BY.out 2).trans rfl;have e3 : w'.cell? ⟨gb,3,none⟩ = some (.int .i64 y3):=(blk_cell BY.out 3).trans rfl)
     | (go_at_call 48;refine (H3.out _ HB.out).mono ?_;rintro e w' ⟨rfl,hb'⟩;replace HB:=a0_ (below_step HB.out hb');replace BK:=a0_ (blk_keptB BK.out hb');replace BY:=a0_ (blk_keptB BY.out hb');clear hb' hcz e0 e1 e2 e3;have hcz : w'.cell? ⟨w.heap.size,0,none⟩ = some (.slice A0_0 l0_0.length c0_0):=(blk_cell BK.out 0).trans rfl;have e0 : w'.cell? ⟨gb,0,none⟩ = some (.int .i64 y0):=(blk_cell BY.out 0).trans rfl;have e1 : w'.cell? ⟨gb,1,none⟩ = some (.bool false):=(blk_cell BY.out 1).trans rfl;have e2 : w'.cell? ⟨gb,2,none⟩ = some (.int .i64 y2):=(blk_cell BY.out 2).trans rfl;have e3 : w'.cell? ⟨gb,3,none⟩ = some (.int .i64 y3):=(blk_cell BY.out 3).trans rfl))
         go_meet
         case rel=>exact ⟨by rw [BV.out];first | rfl | (simp;done),HB,BK,BY⟩
        ·
         have BV:=a0_ (show q1 = false from hdf1.trans (by first | rfl | (cases b4 <;> rfl) | simp))
         clear hdf1
         go_wp2_with (first
     | (go_at_call 65;(first | (with_reducible refine (spec_inRange.calls y3 0 99 _ _ A1.out).mono ?_) | (with_reducible refine (spec_inRange.calls y0 0 5 _ _ A2.out).mono ?_));rintro e w' ⟨rfl,hd'⟩;have hb':=hd'.below;clear hd';replace HB:=a0_ (below_step HB.out hb');replace BK:=a0_ (blk_keptB BK.out hb');replace BY:=a0_ (blk_keptB BY.out hb');clear hb' hcz e0 e1 e2 e3;have hcz : w'.cell? ⟨w.heap.size,0,none⟩ = some (.slice A0_0 l0_0.length c0_0):=(blk_cell BK.out 0).trans rfl;have e0 : w'.cell? ⟨gb,0,none⟩ = some (.int .i64 y0):=(blk_cell BY.out 0).trans rfl;have e1 : w'.cell? ⟨gb,1,none⟩ = some (.bool false):=(blk_cell BY.out 1).trans rfl;have e2 : w'.cell? ⟨gb,2,none⟩ = some (.int .i64 y2):=(blk_cell BY.out 2).trans rfl;have e3 : w'.cell? ⟨gb,3,none⟩ = some (.int .i64 y3):=(blk_cell BY.out 3).trans rfl)
     | (go_at_call 48;refine (H3.out _ HB.out).mono ?_;rintro e w' ⟨rfl,hb'⟩;replace HB:=a0_ (below_step HB.out hb');replace BK:=a0_ (blk_keptB BK.out hb');replace BY:=a0_ (blk_keptB BY.out hb');clear hb' hcz e0 e1 e2 e3;have hcz : w'.cell? ⟨w.heap.size,0,none⟩ = some (.slice A0_0 l0_0.length c0_0):=(blk_cell BK.out 0).trans rfl;have e0 : w'.cell? ⟨gb,0,none⟩ = some (.int .i64 y0):=(blk_cell BY.out 0).trans rfl;have e1 : w'.cell? ⟨gb,1,none⟩ = some (.bool false):=(blk_cell BY.out 1).trans rfl;have e2 : w'.cell? ⟨gb,2,none⟩ = some (.int .i64 y2):=(blk_cell BY.out 2).trans rfl;have e3 : w'.cell? ⟨gb,3,none⟩ = some (.int .i64 y3):=(blk_cell BY.out 3).trans rfl))
         go_meet
         case rel=>exact ⟨by rw [BV.out];first | rfl | (simp;done),HB,BK,BY⟩
        ·
         have BV:=a0_ (show q1 = true from hdf1.trans (by first | rfl | (cases b4 <;> rfl) | simp))
         clear hdf1
         go_wp2_with (first
     | (go_at_call 65;(first | (with_reducible refine (spec_inRange.calls y3 0 99 _ _ A1.out).mono ?_) | (with_reducible refine (spec_inRange.calls y0 0 5 _ _ A2.out).mono ?_));rintro e w' ⟨rfl,hd'⟩;have hb':=hd'.below;clear hd';replace HB:=a0_ (below_step HB.out hb');replace BK:=a0_ (blk_keptB BK.out hb');replace BY:=a0_ (blk_keptB BY.out hb');clear hb' hcz e0 e1 e2 e3;have hcz : w'.cell? ⟨w.heap.size,0,none⟩ = some (.slice A0_0 l0_0.length c0_0):=(blk_cell BK.out 0).trans rfl;have e0 : w'.cell? ⟨gb,0,none⟩ = some (.int .i64 y0):=(blk_cell BY.out 0).trans rfl;have e1 : w'.cell? ⟨gb,1,none⟩ = some (.bool false):=(blk_cell BY.out 1).trans rfl;have e2 : w'.cell? ⟨gb,2,none⟩ = some (.int .i64 y2):=(blk_cell BY.out 2).trans rfl;have e3 : w'.cell? ⟨gb,3,none⟩ = some (.int .i64 y3):=(blk_cell BY.out 3).trans rfl)
     | (go_at_call 48;refine (H3.out _ HB.out).mono ?_;rintro e w' ⟨rfl,hb'⟩;replace HB:=a0_ (below_step HB.out hb');replace BK:=a0_ (blk_keptB BK.out hb');replace BY:=a0_ (blk_keptB BY.out hb');clear hb' hcz e0 e1 e2 e3;have hcz : w'.cell? ⟨w.heap.size,0,none⟩ = some (.slice A0_0 l0_0.length c0_0):=(blk_cell BK.out 0).trans rfl;have e0 : w'.cell? ⟨gb,0,none⟩ = some (.int .i64 y0):=(blk_cell BY.out 0).trans rfl;have e1 : w'.cell? ⟨gb,1,none⟩ = some (.bool false):=(blk_cell BY.out 1).trans rfl;have e2 : w'.cell? ⟨gb,2,none⟩ = some (.int .i64 y2):=(blk_cell BY.out 2).trans rfl;have e3 : w'.cell? ⟨gb,3,none⟩ = some (.int .i64 y3):=(blk_cell BY.out 3).trans rfl))
         go_meet
         case rel=>exact ⟨by rw [BV.out];first | rfl | (simp;done),HB,BK,BY⟩
   case rest =>
    clear hW1 hW2 hW3 hdf1
    obtain ⟨rfl,HB,BK,BY⟩:=hcut
    cases q1 with
    | false =>
     go_wp2
     go_ret
     refine ⟨?_,HB.out⟩
     rw [← HRr.out,vG_false hlt (by rw [B.out,HDF.out];rfl)]
     rfl
    | true =>
     go_upto_region 7 with (fail)
     have hdf2:=HDF.out
     rw [Bool.true_and] at hdf2
     clear HDF
     generalize hq2 : okP l0_0 l1 kk ⟨y0,y1,y2,y3⟩ = q2 at hdf2
     have HQ:=a0_ hq2
     clear hq2
     go_cut [101] (fun v101 wd=>v101 = .bool (!q2) ∧ Aside0 (Below w.heap.size w wd) ∧ Aside0 (wd.heap[w.heap.size]? = some (.cells #[.slice A0_0 l0_0.length c0_0] 25 (0,0))))
     case first =>
      have e0:=(blk_cell BY.out 0).trans rfl
      have e1:=(blk_cell BY.out 1).trans rfl
      have hw2 : IntKind.i64.wrap ((kk : Int) + 1) = (kk : Int) + 1:=by rw [IntKind.wrap_i64];omega
      generalize endG l1 kk = en at HEN hdf2
      by_cases hk0 : kk = 0
      ·
       have d0 : decide (0 < (kk : Int)) = false:=decide_eq_false (by omega)
       have d0n : decide (0 < kk) = false:=decide_eq_false (by omega)
       rw [if_pos hk0,Bool.true_and] at hdf2
       clear hk0 HA HRr HV HH
       cases y1 with
       | false =>
        have BV:=a0_ (show q2 = true from hdf2.trans (by first | rfl | simp))
        clear hdf2
        go_quiet (first | (go_at_call 66;(with_reducible refine (HEN.out _ (pw_below_drewN HB.out _)).mono ?_);rintro e w' ⟨rfl,⟨nd,rfl⟩⟩;exact ⟨rfl,_,World.drewN_drewN _ _ _⟩))
        go_wp2
        go_meet
        case rel=>exact ⟨by rw [BV.out];first | rfl | (simp [*];done),⟨pw_below_drewN HB.out _⟩,⟨blk_drewN BK.out _⟩⟩
       | true =>
        cases h7 : ((en : Int) == (kk : Int) + 1) <;> rw [h7] at hdf2
        ·
         have BV:=a0_ (show q2 = true from hdf2.trans (by first | rfl | simp))
         clear hdf2
         go_quiet (first | (go_at_call 66;(with_reducible refine (HEN.out _ (pw_below_drewN HB.out _)).mono ?_);rintro e w' ⟨rfl,⟨nd,rfl⟩⟩;exact ⟨rfl,_,World.drewN_drewN _ _ _⟩))
         go_wp2
         go_meet
         case rel=>exact ⟨by rw [BV.out];first | rfl | (simp [*];done),⟨pw_below_drewN HB.out _⟩,⟨blk_drewN BK.out _⟩⟩
        ·
         have BV:=a0_ (show q2 = false from hdf2.trans (by first | rfl | simp))
         clear hdf2
         go_quiet (first | (go_at_call 66;(with_reducible refine (HEN.out _ (pw_below_drewN HB.out _)).mono ?_);rintro e w' ⟨rfl,⟨nd,rfl⟩⟩;exact ⟨rfl,_,World.drewN_drewN _ _ _⟩))
         go_wp2
         go_meet
         case rel=>exact ⟨by rw [BV.out];first | rfl | (simp [*];done),⟨pw_below_drewN HB.out _⟩,⟨blk_drewN BK.out _⟩⟩
      ·
       have d0 : decide (0 < (kk : Int)) = true:=decide_eq_true (by omega)
       have d0n : decide (0 < kk) = true:=decide_eq_true (by omega)
       rw [if_neg hk0] at hdf2
       obtain ⟨m,hm⟩ : ∃ m,m = kk - 1:=⟨_,rfl⟩
       rw [← hm] at hdf2
       obtain ⟨ad',ea',hp0,hp1,hp2,hp3⟩:=at_T47 HR.out (m : Int) (by omega) (by omega)
       cases ea'
       have hrd : rd_T47 l1 (m : Int) = l1.getD m z47:=by simp [rd_T47]
       have hdep:=okP_depth (HA.out m (by omega))
       rw [hrd] at hp0 hp1
       rw [Int.toNat_natCast] at hp0 hp1
       generalize l1.getD m z47 = q at hp0 hp1 hdep hdf2
       obtain ⟨q0,q1,q2',q3⟩:=q
       replace hp0:=(HB.out.cell (World.block_lt_of_cell? w _ hp0)).trans hp0
       replace hp1:=(HB.out.cell (World.block_lt_of_cell? w _ hp1)).trans hp1
       have hw1 : IntKind.i64.wrap ((kk : Int) - 1) = (m : Int):=by rw [IntKind.wrap_i64];omega
       have hw3 : IntKind.i64.wrap (q0 + 1) = q0 + 1:=by have:=hdep.1;have:=hdep.2;simp only at *;rw [IntKind.wrap_i64];omega
       have g0 : (0 : Int) ≤ (m : Int):=by omega
       have g1 : (m : Int) < (l1.length : Int):=by omega
       clear hp2 hp3 hrd hdep hk0 hm HA HRr HV HH
       cases hu1 : decide (q0 + 1 < y0)
       ·
        cases hu2 : decide (q0 < y0)
        ·
         rw [show okUp ⟨q0,q1,q2',q3⟩ ⟨y0,y1,y2,y3⟩ = true from (by unfold okUp;simp only [hu1,hu2];rfl),Bool.true_and] at hdf2
         cases y1 with
         | false =>
          have BV:=a0_ (show q2 = true from hdf2.trans (by first | rfl | simp))
          clear hdf2
          go_quiet (first | (go_at_call 66;(with_reducible refine (HEN.out _ (pw_below_drewN HB.out _)).mono ?_);rintro e w' ⟨rfl,⟨nd,rfl⟩⟩;exact ⟨rfl,_,World.drewN_drewN _ _ _⟩))
          go_wp2
          go_meet
          case rel=>exact ⟨by rw [BV.out];first | rfl | (simp [*];done),⟨pw_below_drewN HB.out _⟩,⟨blk_drewN BK.out _⟩⟩
         | true =>
          cases h7 : ((en : Int) == (kk : Int) + 1) <;> rw [h7] at hdf2
          ·
           have BV:=a0_ (show q2 = true from hdf2.trans (by first | rfl | simp))
           clear hdf2
           go_quiet (first | (go_at_call 66;(with_reducible refine (HEN.out _ (pw_below_drewN HB.out _)).mono ?_);rintro e w' ⟨rfl,⟨nd,rfl⟩⟩;exact ⟨rfl,_,World.drewN_drewN _ _ _⟩))
           go_wp2
           go_meet
           case rel=>exact ⟨by rw [BV.out];first | rfl | (simp [*];done),⟨pw_below_drewN HB.out _⟩,⟨blk_drewN BK.out _⟩⟩
          ·
           have BV:=a0_ (show q2 = false from hdf2.trans (by first | rfl | simp))
           clear hdf2
           go_quiet (first | (go_at_call 66;(with_reducible refine (HEN.out _ (pw_below_drewN HB.out _)).mono ?_);rintro e w' ⟨rfl,⟨nd,rfl⟩⟩;exact ⟨rfl,_,World.drewN_drewN _ _ _⟩))
           go_wp2
           go_meet
           case rel=>exact ⟨by rw [BV.out];first | rfl | (simp [*];done),⟨pw_below_drewN HB.out _⟩,⟨blk_drewN BK.out _⟩⟩
        ·
         cases q1 with
         | false =>
          rw [show okUp ⟨q0,false,q2',q3⟩ ⟨y0,y1,y2,y3⟩ = false from (by unfold okUp;simp only [hu1,hu2];rfl),Bool.false_and] at hdf2
          have BV:=a0_ (show q2 = false from hdf2.trans (by first | rfl | simp))
          clear hdf2
          go_quiet (first | (go_at_call 66;(with_reducible refine (HEN.out _ (pw_below_drewN HB.out _)).mono ?_);rintro e w' ⟨rfl,⟨nd,rfl⟩⟩;exact ⟨rfl,_,World.drewN_drewN _ _ _⟩))
          go_wp2
          go_meet
          case rel=>exact ⟨by rw [BV.out];first | rfl | (simp [*];done),⟨pw_below_drewN HB.out _⟩,⟨blk_drewN BK.out _⟩⟩
         | true =>
          rw [show okUp ⟨q0,true,q2',q3⟩ ⟨y0,y1,y2,y3⟩ = true from (by unfold okUp;simp only [hu1,hu2];rfl),Bool.true_and] at hdf2
          cases y1 with
          | false =>
           have BV:=a0_ (show q2 = true from hdf2.trans (by first | rfl | simp))
           clear hdf2
           go_quiet (first | (go_at_call 66;(with_reducible refine (HEN.out _ (pw_below_drewN HB.out _)).mono ?_);rintro e w' ⟨rfl,⟨nd,rfl⟩⟩;exact ⟨rfl,_,World.drewN_drewN _ _ _⟩))
           go_wp2
           go_meet
           case rel=>exact ⟨by rw [BV.out];first | rfl | (simp [*];done),⟨pw_below_drewN HB.out _⟩,⟨blk_drewN BK.out _⟩⟩
          | true =>
           cases h7 : ((en : Int) == (kk : Int) + 1) <;> rw [h7] at hdf2
           ·
            have BV:=a0_ (show q2 = true from hdf2.trans (by first | rfl | simp))
            clear hdf2
            go_quiet (first | (go_at_call 66;(with_reducible refine (HEN.out _ (pw_below_drewN HB.out _)).mono ?_);rintro e w' ⟨rfl,⟨nd,rfl⟩⟩;exact ⟨rfl,_,World.drewN_drewN _ _ _⟩))
            go_wp2
            go_meet
            case rel=>exact ⟨by rw [BV.out];first | rfl | (simp [*];done),⟨pw_below_drewN HB.out _⟩,⟨blk_drewN BK.out _⟩⟩
           ·
            have BV:=a0_ (show q2 = false from hdf2.trans (by first | rfl | simp))
            clear hdf2
            go_quiet (first | (go_at_call 66;(with_reducible refine (HEN.out _ (pw_below_drewN HB.out _)).mono ?_);rintro e w' ⟨rfl,⟨nd,rfl⟩⟩;exact ⟨rfl,_,World.drewN_drewN _ _ _⟩))
            go_wp2
            go_meet
            case rel=>exact ⟨by rw [BV.out];first | rfl | (simp [*];done),⟨pw_below_drewN HB.out _⟩,⟨blk_drewN BK.out _⟩⟩
       ·
        rw [show okUp ⟨q0,q1,q2',q3⟩ ⟨y0,y1,y2,y3⟩ = false from (by unfold okUp;simp only [hu1];rfl),Bool.false_and] at hdf2
        have BV:=a0_ (show q2 = false from hdf2.trans (by first | rfl | simp))
        clear hdf2
        go_quiet (first | (go_at_call 66;(with_reducible refine (HEN.out _ (pw_below_drewN HB.out _)).mono ?_);rintro e w' ⟨rfl,⟨nd,rfl⟩⟩;exact ⟨rfl,_,World.drewN_drewN _ _ _⟩))
        go_wp2
        go_meet
        case rel=>exact ⟨by rw [BV.out];first | rfl | (simp [*];done),⟨pw_below_drewN HB.out _⟩,⟨blk_drewN BK.out _⟩⟩
     case rest =>
      clear HB BK hdf2
      obtain ⟨rfl,HB,BK⟩:=hcut
      cases q2 with
      | false =>
       go_wp2
       go_ret
       refine ⟨?_,HB.out⟩
       rw [← HRr.out,vG_false hlt (by rw [B.out,HQ.out])]
       rfl
      | true =>
       go_wp2
       go_roundg (l1.length - (kk + 1))
       case measure=>omega
       case rel =>
        refine ⟨kk + 1,by omega,by omega,by go_num,⟨HB.out⟩,⟨BK.out⟩,⟨fun j hj=>?_⟩⟩
        by_cases e : j = kk
        ·subst e;rw [B.out,HQ.out]
        ·exact HA.out j (by omega)
  ·have hltz : ¬ (kk : Int) < (l1.length : Int):=by omega
   have : kk = l1.length:=by omega
   subst this
   have hps:=psG_of HA.out
   have A3:=spec_inRange_ev (l1.length : Int) 1 16
   have hvg : vG l0_0 l1 = (vT l0_0 && (decide ((1 : Int) ≤ (l1.length : Int)) && decide ((l1.length : Int) ≤ 16))):=by unfold vG;rw [hps,Bool.true_and];congr 2 <;> exact decide_eq_decide.2 (by omega)
   rw [HRr.out] at hvg
   generalize (decide ((1 : Int) ≤ (l1.length : Int)) && decide ((l1.length : Int) ≤ 16)) = b16 at A3 hvg
   have A3:=a0_ A3
   have HVG:=a0_ hvg
   clear hvg hps HRr HA HH HR
   cases hv : vT l0_0 with
   | false =>
    rw [hv] at HV HVG
    clear hv
    go_wp2_with (first | (go_at_call 67;refine (HV.out _ BW.out).mono ?_;rintro e w1 ⟨rfl,hb1⟩;replace BW:=a0_ (below_step BW.out hb1)) | (go_at_call 65;(with_reducible refine (spec_inRange.calls (l1.length : Int) 1 16 _ _ A3.out).mono ?_);rintro e w' ⟨rfl,hd'⟩;replace BW:=a0_ (below_step BW.out hd'.below)))
    go_ret
    exact ⟨by rw [HVG.out];first | rfl | (simp;done),BW.out⟩
   | true =>
    rw [hv] at HV HVG
    clear hv
    go_wp2_with (first | (go_at_call 67;refine (HV.out _ BW.out).mono ?_;rintro e w1 ⟨rfl,hb1⟩;replace BW:=a0_ (below_step BW.out hb1)) | (go_at_call 65;(with_reducible refine (spec_inRange.calls (l1.length : Int) 1 16 _ _ A3.out).mono ?_);rintro e w' ⟨rfl,hd'⟩;replace BW:=a0_ (below_step BW.out hd'.below)))
    go_ret
    exact ⟨by rw [HVG.out];first | rfl | (simp;done),BW.out⟩
end Go.Proofs.Ytfphcdbnnienhaa.P
namespace Go.Proofs.Ytfphcdbnnienhaa.P
open Go.RowKit Go.Proofs.YtfphcdbnnienhaaW.PrintWords Go.Proofs.YtfphcdbnnienhaaW.PrintLast Go.Proofs.YtfphcdbnnienhaaW.PrintMore
attribute [local go_sem] max2_int min2_int max_two min_two max_three min_three max_four min_four
set_option linter.unusedVariables false
set_option linter.unusedSimpArgs false
def spec_hasInt.l0 : Nat → List Int → Int → Int → Option (Bool)
 | 0,_,_,_=>none
 | k + 1,x0,x1,x5=>if x5 < (x0.length : Int) then (if 0 ≤ x5 then (if (rd x0 x5) = x1 then (some true) else (spec_hasInt.l0 k x0 x1 (wrap64 (x5 + 1)))) else (none)) else (some false)
def spec_hasInt.f (k : Nat) (l0 : List Int) (a1 : Int) : Option (Bool):=spec_hasInt.l0 k l0 a1 0
theorem spec_hasInt.mono_l : ∀ k,(∀ y0 y1 y2,LeO (spec_hasInt.l0 k y0 y1 y2) (spec_hasInt.l0 (k + 1) y0 y1 y2))
 | 0=>fun _ _ _ r h=>by simp [spec_hasInt.l0] at h
 | k + 1=>by
  have ih0:=spec_hasInt.mono_l k
  ·intro y0 y1 y2
   unfold spec_hasInt.l0
   repeat' first
   | (with_reducible exact ih0 _ _ _)
   | (with_reducible exact LeO.refl _)
   | (with_reducible exact LeO.none _)
   | (with_reducible refine LeO.ite ?_ ?_)
   | (with_reducible refine LeO.bind ?_ (fun _=>?_))
   | exact ih0 _ _ _
   | exact LeO.none _
   | refine LeO.ite ?_ ?_
   | refine LeO.bind ?_ (fun _=>?_)
theorem spec_hasInt.mono : ∀ a0 a1 k,LeO (spec_hasInt.f k a0 a1) (spec_hasInt.f (k + 1) a0 a1):=by
 intro a0 a1 k
 have ih0:=spec_hasInt.mono_l k
 unfold spec_hasInt.f
 repeat' first
   | (with_reducible exact ih0 _ _ _)
   | (with_reducible exact LeO.refl _)
   | (with_reducible exact LeO.none _)
   | (with_reducible refine LeO.ite ?_ ?_)
   | (with_reducible refine LeO.bind ?_ (fun _=>?_))
   | exact ih0 _ _ _
   | exact LeO.none _
   | refine LeO.ite ?_ ?_
   | refine LeO.bind ?_ (fun _=>?_)
set_option maxHeartbeats 8000000 in
set_option maxRecDepth 100000 in
theorem spec_hasInt.calls (k : Nat) (A0 : Option Addr) (c0 : Nat) (l0 : List Int) (a1 : Int) (r : Bool) (w : World) (hr0 : Kd.C (Kd.int .i64) w A0 l0.length l0) (hc0 : l0.length ≤ c0) (h : spec_hasInt.f k l0 a1 = some r) :
  Calls Try.prog 92 #[.slice A0 l0.length c0,.int .i64 a1] w fun e w'=>e = .returned (.bool r) ∧ Drawn0 w w':=by
 have HR0:=a0_ hr0
 have HC0:=a0_ hc0
 clear hr0 hc0
 have H : (spec_hasInt.l0 k l0 a1 0) = some r:=h
 clear h
 have H':=a0_ H
 clear H
 go_enter Try.func92,Try.ntmps92
 go_wp2
 go_loopg [5] k (fun kq v5 w'=>∃ (x5_1 : Int),v5 = .int .i64 x5_1 ∧ Aside0 (spec_hasInt.l0 kq l0 a1 x5_1 = some r) ∧ Aside0 (kq ≤ k) ∧ Drawn0 w w')
 case atStart=>exact ⟨(0),(by first | rfl | (simp;done) | (simp [*];done)),H',⟨Nat.le_refl _⟩,by repeat (first | exact Drawn0.refl _ | apply Drawn0.step)⟩
 case round =>
  clear H'
  try clear p2
  obtain ⟨x5_1,rfl,HA,HK1,⟨m1,rfl⟩⟩:=hrel
  cases gk with
  | zero=>exact absurd HA.out (by simp [spec_hasInt.l0])
  | succ k1 =>
   have H:=HA.out
   clear HA
   simp only [spec_hasInt.l0] at H
   by_cases c3 : x5_1 < (l0.length : Int)
   ·rw [if_pos c3] at H
    have c3b0 : decide (x5_1 < (l0.length : Int)) = true:=decide_eq_true c3
    clear c3
    by_cases c4 : 0 ≤ x5_1
    ·rw [if_pos c4] at H
     have c4b0 : decide (0 ≤ x5_1) = true:=decide_eq_true c4
     clear c4
     by_cases c5 : (rd l0 x5_1) = a1
     ·rw [if_pos c5] at H
      have c5b0 : ((rd l0 x5_1) == a1) = true:=beq_iff_eq.mpr c5
      have c5b1 : ((rd l0 x5_1) != a1) = false:=bne_eq_false_iff_eq.mpr c5
      clear c5
      obtain rfl:=Option.some.inj H
      have p1 : 0 ≤ (x5_1 : Int):=of_decide_eq_true (by first | (with_reducible assumption) | assumption)
      have q1 : x5_1 < (l0.length : Int):=of_decide_eq_true (by first | (with_reducible assumption) | assumption)
      obtain ⟨ad1,e1,hx1_0⟩:=Kd.at_int HR0.out x5_1 p1 q1
      cases e1
      replace p1:=eq_true p1
      replace q1:=eq_true q1
      go_wp2
      go_ret
      exact ⟨by first | rfl | (simp;done) | (simp [*];done),by repeat (first | exact Drawn0.refl _ | apply Drawn0.step)⟩
     ·rw [if_neg c5] at H
      have c5b0 : ((rd l0 x5_1) == a1) = false:=beq_eq_false_iff_ne.mpr c5
      have c5b1 : ((rd l0 x5_1) != a1) = true:=bne_iff_ne.mpr c5
      have H':=a0_ H
      clear H
      have p1 : 0 ≤ (x5_1 : Int):=of_decide_eq_true (by first | (with_reducible assumption) | assumption)
      have q1 : x5_1 < (l0.length : Int):=of_decide_eq_true (by first | (with_reducible assumption) | assumption)
      obtain ⟨ad1,e1,hx1_0⟩:=Kd.at_int HR0.out x5_1 p1 q1
      cases e1
      replace p1:=eq_true p1
      replace q1:=eq_true q1
      go_wp2
      go_roundg k1
      case measure=>have:=HK1.out;omega
      case rel=>exact ⟨(wrap64 (x5_1 + 1)),(by first | rfl | (simp;done) | (simp [*];done)),H',⟨by have:=HK1.out;omega⟩,by repeat (first | exact Drawn0.refl _ | apply Drawn0.step)⟩
    ·rw [if_neg c4] at H
     exact absurd H (by simp)
   ·rw [if_neg c3] at H
    have c3b0 : decide (x5_1 < (l0.length : Int)) = false:=decide_eq_false c3
    clear c3
    obtain rfl:=Option.some.inj H
    go_wp2
    go_ret
    exact ⟨by first | rfl | (simp;done) | (simp [*];done),by repeat (first | exact Drawn0.refl _ | apply Drawn0.step)⟩
theorem spec_hasInt_l0 (l : List Int) (x : Int) (hs : l.length ≤ 9223372036854775807) (d : Nat) : ∀ (k : Nat) (i : Nat),i ≤ l.length → l.length - i = d → d < k → spec_hasInt.l0 k l x (i : Int) = some ((l.drop i).contains x):=by
 induction d with
 | zero =>
  intro k i hi hd hk
  obtain ⟨k,rfl⟩ : ∃ m,k = m + 1:=⟨k - 1,by omega⟩
  simp only [spec_hasInt.l0]
  rw [if_neg (show ¬ (i : Int) < (l.length : Int) by omega),List.drop_eq_nil_of_le (by omega)]
  rfl
 | succ d ih =>
  intro k i hi hd hk
  obtain ⟨k,rfl⟩ : ∃ m,k = m + 1:=⟨k - 1,by omega⟩
  have hlt : i < l.length:=by omega
  simp only [spec_hasInt.l0]
  have hrd : rd l (i : Int) = l[i]:=by simp [rd,hlt]
  rw [if_pos (show (i : Int) < (l.length : Int) by omega),if_pos (show (0 : Int) ≤ (i : Int) by omega),hrd,List.drop_eq_getElem_cons hlt]
  by_cases h1 : l[i] = x
  ·rw [if_pos h1];simp [h1]
  ·rw [if_neg h1,wrap_succ (n:=l.length) (by omega) (by omega) (by omega)]
   rw [show ((i : Int) + 1) = ((i + 1 : Nat) : Int) by omega,ih k (i + 1) (by omega) (by omega) (by omega)]
   have h2 : ¬ x = l[i]:=fun e=>h1 e.symm
   rw [List.contains_cons,beq_eq_false_iff_ne.2 h2,Bool.false_or]
theorem spec_hasInt_ev (l : List Int) (x : Int) (hs : l.length ≤ 9223372036854775807) (k : Nat) (hk : l.length < k) : spec_hasInt.f k l x = some (l.contains x):=by
 have:=spec_hasInt_l0 l x hs l.length k 0 (by omega) (by omega) hk
 rw [List.drop_zero] at this
 exact this
end Go.Proofs.Ytfphcdbnnienhaa.P
