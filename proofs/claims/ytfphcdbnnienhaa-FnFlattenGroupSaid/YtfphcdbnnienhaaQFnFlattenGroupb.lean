/- Texts under the proof of FnFlattenGroup: helper words, the functions' contracts and the plain laws. No condition. -/
import Derived.Test.YtfphcdbnnienhaaQFnFlattenGroupa
namespace Go.Proofs.Ytfphcdbnnienhaa.P
open Go.RowKit Go.Proofs.YtfphcdbnnienhaaW.PrintWords Go.Proofs.YtfphcdbnnienhaaW.PrintLast Go.Proofs.YtfphcdbnnienhaaW.PrintMore
attribute [local go_sem] max2_int min2_int max_two min_two max_three min_three max_four min_four
set_option linter.unusedVariables false
set_option linter.unusedSimpArgs false
mutual
def spec_someGroup.j1 : Nat → List (S47) → List Int → Int → List (S85) → Option ((List (S85)) × (List (S47)) × Int)
 | 0,_,_,_,_=>none
 | k + 1,x5,x1000,x1001,x7000=>(spec_reader_pick.f k x1000 x1001 (x5.length : Int)).bind fun bt20=>((spec_reader_pick.f k x1000 bt20.2 24).bind fun bt22=>(if bt22.1 = 0 then ((spec_reader_one.f k x1000 bt22.2 (([(-1),6,0,1] : List Int))).bind fun bt27=>(if 0 ≤ bt20.1 then (if bt20.1 < (x5.length : Int) then (some (x7000,(x5.set (bt20.1 : Int).toNat (⟨bt27.1,(rd_T47 x5 bt20.1).f1,(rd_T47 x5 bt20.1).f2,(rd_T47 x5 bt20.1).f3⟩ : S47)),bt27.2)) else (none)) else (none))) else (if bt22.1 = 1 then ((spec_reader_one.f k x1000 bt22.2 (([(-1),8,1] : List Int))).bind fun bt33=>(if 0 ≤ bt20.1 then (if bt20.1 < (x5.length : Int) then (some (x7000,(x5.set (bt20.1 : Int).toNat (⟨(rd_T47 x5 bt20.1).f0,(rd_T47 x5 bt20.1).f1,bt33.1,(rd_T47 x5 bt20.1).f3⟩ : S47)),bt33.2)) else (none)) else (none))) else (if bt22.1 = 2 then ((spec_reader_one.f k x1000 bt22.2 (([(-1),100] : List Int))).bind fun bt39=>(if 0 ≤ bt20.1 then (if bt20.1 < (x5.length : Int) then (some (x7000,(x5.set (bt20.1 : Int).toNat (⟨(rd_T47 x5 bt20.1).f0,(rd_T47 x5 bt20.1).f1,(rd_T47 x5 bt20.1).f2,bt39.1⟩ : S47)),bt39.2)) else (none)) else (none))) else (if bt22.1 = 3 then (if 0 ≤ bt20.1 then (if bt20.1 < (x5.length : Int) then (some (x7000,(x5.set (bt20.1 : Int).toNat (⟨(rd_T47 x5 bt20.1).f0,!((rd_T47 x5 bt20.1).f1),(rd_T47 x5 bt20.1).f2,(rd_T47 x5 bt20.1).f3⟩ : S47)),bt22.2)) else (none)) else (none)) else (some (x7000,x5,bt22.2)))))))
def spec_someGroup.l0 : Nat → List (S47) → Int → List Int → Int → List (S85) → Option ((List (S85)) × (List (S47)) × Int)
 | 0,_,_,_,_,_=>none
 | k + 1,x5,x6,x1000,x1001,x7000=>if x6 < (x5.length : Int) then (if 0 ≤ x6 then (spec_someGroup.l0 k (x5.set (x6 : Int).toNat (⟨wrap64 (((rd_T47 x5 x6).f0) - 2),(rd_T47 x5 x6).f1,(rd_T47 x5 x6).f2,(rd_T47 x5 x6).f3⟩ : S47)) (wrap64 (x6 + 1)) x1000 x1001 x7000) else (none)) else (spec_someGroup.j1 k x5 x1000 x1001 x7000)
end
def spec_someGroup.f (k : Nat) (s0_0 : List Int) (s0_1 : Int) : Option ((List (S85)) × (List (S47)) × Int):=(spec_someTree.f k s0_0 s0_1).bind fun bt2=>(if (bt2.1.length : Int) = 0 then (some (bt2.1,(([(⟨0,false,0,0⟩ : S47)] : List (S47))),bt2.2)) else ((spec_goodGroup.f k s0_0 bt2.2 bt2.1 0).bind fun bt10=>(if (bt10.1.length : Int) > 16 then ((spec_goodGroup.f k s0_0 bt10.2 bt2.1 2).bind fun bt14=>(spec_someGroup.l0 k bt14.1 0 s0_0 bt14.2 bt2.1)) else (spec_someGroup.j1 k bt10.1 s0_0 bt10.2 bt2.1))))
theorem spec_someGroup.mono_l : ∀ k,(∀ y0 y1 y2 y3,LeO (spec_someGroup.j1 k y0 y1 y2 y3) (spec_someGroup.j1 (k + 1) y0 y1 y2 y3)) ∧ (∀ y0 y1 y2 y3 y4,LeO (spec_someGroup.l0 k y0 y1 y2 y3 y4) (spec_someGroup.l0 (k + 1) y0 y1 y2 y3 y4))
 | 0=>⟨fun _ _ _ _ r h=>by simp [spec_someGroup.j1] at h,fun _ _ _ _ _ r h=>by simp [spec_someGroup.l0] at h⟩
 | k + 1=>by
  obtain ⟨ih0,ih1⟩:=spec_someGroup.mono_l k
  refine ⟨?_,?_⟩
  ·intro y0 y1 y2 y3
   unfold spec_someGroup.j1
   repeat' first
   | (with_reducible exact ih0 _ _ _ _)
   | (with_reducible exact ih1 _ _ _ _ _)
   | (with_reducible exact spec_goodGroup.mono _ _ _ _ _)
   | (with_reducible exact spec_reader_one.mono _ _ _ _)
   | (with_reducible exact spec_reader_pick.mono _ _ _ _)
   | (with_reducible exact spec_someTree.mono _ _ _)
   | (with_reducible exact LeO.refl _)
   | (with_reducible exact LeO.none _)
   | (with_reducible refine LeO.ite ?_ ?_)
   | (with_reducible refine LeO.bind ?_ (fun _=>?_))
   | exact ih0 _ _ _ _
   | exact ih1 _ _ _ _ _
   | exact spec_goodGroup.mono _ _ _ _ _
   | exact spec_reader_one.mono _ _ _ _
   | exact spec_reader_pick.mono _ _ _ _
   | exact spec_someTree.mono _ _ _
   | exact LeO.none _
   | refine LeO.ite ?_ ?_
   | refine LeO.bind ?_ (fun _=>?_)
  ·intro y0 y1 y2 y3 y4
   unfold spec_someGroup.l0
   repeat' first
   | (with_reducible exact ih0 _ _ _ _)
   | (with_reducible exact ih1 _ _ _ _ _)
   | (with_reducible exact spec_goodGroup.mono _ _ _ _ _)
   | (with_reducible exact spec_reader_one.mono _ _ _ _)
   | (with_reducible exact spec_reader_pick.mono _ _ _ _)
   | (with_reducible exact spec_someTree.mono _ _ _)
   | (with_reducible exact LeO.refl _)
   | (with_reducible exact LeO.none _)
   | (with_reducible refine LeO.ite ?_ ?_)
   | (with_reducible refine LeO.bind ?_ (fun _=>?_))
   | exact ih0 _ _ _ _
   | exact ih1 _ _ _ _ _
   | exact spec_goodGroup.mono _ _ _ _ _
   | exact spec_reader_one.mono _ _ _ _
   | exact spec_reader_pick.mono _ _ _ _
   | exact spec_someTree.mono _ _ _
   | exact LeO.none _
   | refine LeO.ite ?_ ?_
   | refine LeO.bind ?_ (fun _=>?_)
theorem spec_someGroup.mono : ∀ a0 a1 k,LeO (spec_someGroup.f k a0 a1) (spec_someGroup.f (k + 1) a0 a1):=by
 intro a0 a1 k
 obtain ⟨ih0,ih1⟩:=spec_someGroup.mono_l k
 unfold spec_someGroup.f
 repeat' first
   | (with_reducible exact ih0 _ _ _ _)
   | (with_reducible exact ih1 _ _ _ _ _)
   | (with_reducible exact spec_goodGroup.mono _ _ _ _ _)
   | (with_reducible exact spec_reader_one.mono _ _ _ _)
   | (with_reducible exact spec_reader_pick.mono _ _ _ _)
   | (with_reducible exact spec_someTree.mono _ _ _)
   | (with_reducible exact LeO.refl _)
   | (with_reducible exact LeO.none _)
   | (with_reducible refine LeO.ite ?_ ?_)
   | (with_reducible refine LeO.bind ?_ (fun _=>?_))
   | exact ih0 _ _ _ _
   | exact ih1 _ _ _ _ _
   | exact spec_goodGroup.mono _ _ _ _ _
   | exact spec_reader_one.mono _ _ _ _
   | exact spec_reader_pick.mono _ _ _ _
   | exact spec_someTree.mono _ _ _
   | exact LeO.none _
   | refine LeO.ite ?_ ?_
   | refine LeO.bind ?_ (fun _=>?_)
set_option maxHeartbeats 8000000 in
set_option maxRecDepth 100000 in
theorem spec_someGroup.calls (k : Nat) (g : Nat) (s0_0 : List Int) (s0_1 : Int) (r1 : List (S85)) (r2 : List (S47)) (r3 : Int) (w0 w : World) (hI : IsS81 w0 w g s0_0 s0_1) (hB : Below w0.heap.size w0 w) (h : spec_someGroup.f k s0_0 s0_1 = some (r1,r2,r3)) :
  Calls Try.prog 36 #[.pointer (some ⟨g,0,none⟩)] w fun e w'=>∃ v0_ v1_ : Value,e = .returned (.tuple #[.agg #[v0_],v1_]) ∧ Kd.R k85 85 w' w.heap.size (fun _=>True) v0_ r1 ∧ Kd.R k47 47 w' w.heap.size (fun _=>True) v1_ r2 ∧ IsS81 w0 w' g s0_0 r3 ∧ Below w0.heap.size w0 w' ∧ KeepBut w w' g none:=by
 have hu25:=Try.underlying25
 have hu47:=Try.underlying47
 have HI0:=a0_ hI
 have HK:=a0_ (KeepBut.refl w g none)
 have HL:=a0_ hB.size
 clear hI
 have HW0:=a0_ hB.size
 have HB:=a0_ hB
 clear hB
 have H : ((spec_someTree.f k s0_0 s0_1).bind fun bt2=>(if (bt2.1.length : Int) = 0 then (some (bt2.1,(([(⟨0,false,0,0⟩ : S47)] : List (S47))),bt2.2)) else ((spec_goodGroup.f k s0_0 bt2.2 bt2.1 0).bind fun bt10=>(if (bt10.1.length : Int) > 16 then ((spec_goodGroup.f k s0_0 bt10.2 bt2.1 2).bind fun bt14=>(spec_someGroup.l0 k bt14.1 0 s0_0 bt14.2 bt2.1)) else (spec_someGroup.j1 k bt10.1 s0_0 bt10.2 bt2.1))))) = some (r1,r2,r3):=h
 clear h
 replace H:=Option.bind_eq_some_iff.mp H
 obtain ⟨⟨t2,t5⟩,A20,H⟩:=H
 try dsimp only at H
 have A2:=a0_ A20
 clear A20
 by_cases c3 : (t2.length : Int) = 0
 ·rw [if_pos c3] at H
  have c3b0 : ((t2.length : Int) == 0) = true:=beq_iff_eq.mpr c3
  have c3b1 : ((t2.length : Int) != 0) = false:=bne_eq_false_iff_eq.mpr c3
  clear c3
  obtain ⟨y7,hy7⟩ : ∃ y_ : List (S47),y_ = (([(⟨0,false,0,0⟩ : S47)] : List (S47))):=⟨_,rfl⟩
  replace H : (some (t2,y7,t5)) = some (r1,r2,r3):=by first | (rw [hy7];with_reducible exact H) | (have H2_:=(Option.bind_some _ _).symm.trans H;rw [hy7];with_reducible exact H2_) | (have H2_:=(Option.bind_some _ _).symm.trans H;with_reducible exact H2_) | with_reducible exact H | (rw [hy7];exact H) | exact H
  have Ny7:=a0_ hy7
  clear hy7
  simp only [Option.some.injEq,Prod.mk.injEq] at H
  obtain ⟨rfl,rfl,rfl⟩:=H
  go_enter Try.func36,Try.ntmps36
  go_wp2_with (first | ((with_reducible refine gate_dst (N:=2) rfl ?_);refine box_event ?hg (N:=2) ?hd (cs:=#[.slice none 0 0]) (t:=25) ?hr ?_;(case hd=>rfl);(case hg=>rfl);(case hr=>first | (go_simp;done) | (go_simp;rfl));intro gb1 hg w4 hbox hb;have n0_:=a0_ (IsS81.below is0_ hb);have n1_:=a0_ (KeepBut.trans (w:=w) hk_ (KeepBut.of_below hb g none) (.inl rfl));have n2_:=a0_ (below_step hbi0_ hb);have n3_:=a0_ (hbox);have n4_:=a0_ ((by rw [hg];exact (keep_size (w:=w) (g:=g) (row:=none) hk_) : w.heap.size ≤ gb1));have n5_:=a0_ ((Nat.le_trans HW0.out (by rw [hg];exact (keep_size (w:=w) (g:=g) (row:=none) hk_) : w.heap.size ≤ gb1) : w0.heap.size ≤ gb1));have n6_:=a0_ ((by rw [hg];exact Nat.ne_of_lt (IsS81.lt (is0_ : IsS81 w0 _ g s0_0 s0_1)) : g ≠ gb1));have n7_:=a0_ ((by rw [hg];exact Nat.ne_of_gt (IsS81.lt (is0_ : IsS81 w0 _ g s0_0 s0_1)) : gb1 ≠ g));clear HI0 HK HB;have HI0:=n0_;have HK:=n1_;have HB:=n2_;have BK1:=n3_;have GW1:=n4_;have GE1:=n5_;have NB0_1:=n6_;have NB1_0:=n7_;clear n0_ n1_ n2_ n3_ n4_ n5_ n6_ n7_;clear hb hbox hg) | ((with_reducible refine gate_callee (f:=61) rfl ?_);refine goesL_ (some 9) rfl rfl Try.func61 (by kernel_rfl) rfl #[.pointer (some ⟨g,0,none⟩)] rfl lm_ ?_;(with_reducible refine (spec_someTree.calls k g s0_0 s0_1 t2 t5 w0 _ ?side1 ?side2 A2.out).mono ?_);(case side1=>exact is0_);(case side2=>exact hbi0_);rintro e w5 ⟨v3,rfl,ho0,hi,hb,hk⟩;refine ⟨_,rfl,?_⟩;replace BK1:=kk_ hk BK1 NB1_0;have HO4:=a0_ (Kd.R_lower ho0 (keep_size (w:=w) (g:=g) (row:=none) hk_));replace HK:=a0_ (KeepBut.trans (w:=w) hk_ hk (.inl rfl));replace HI0:=a0_ (hi);replace HB:=a0_ (hb);(try clear hb);(try clear ho0)) | ((with_reducible refine gate_dst (N:=4) rfl ?_);refine box_event ?hg (N:=4) ?hd (cs:=#[.slice none 0 0]) (t:=25) ?hr ?_;(case hd=>rfl);(case hg=>rfl);(case hr=>first | (go_simp;done) | (go_simp;rfl));intro gb6 hg w6 hbox hb;have n0_:=rb_ HO4 hb;have n1_:=a0_ (IsS81.below is0_ hb);have n2_:=kb_ BK1 hb;have n3_:=a0_ (KeepBut.trans (w:=w) hk_ (KeepBut.of_below hb g none) (.inl rfl));have n4_:=a0_ (below_step hbi0_ hb);have n5_:=a0_ (hbox);have n6_:=a0_ ((by rw [hg];exact (keep_size (w:=w) (g:=g) (row:=none) hk_) : w.heap.size ≤ gb6));have n7_:=a0_ ((Nat.le_trans HW0.out (by rw [hg];exact (keep_size (w:=w) (g:=g) (row:=none) hk_) : w.heap.size ≤ gb6) : w0.heap.size ≤ gb6));have n8_:=a0_ ((by rw [hg];exact Nat.ne_of_lt (blk_lt (bb_ BK1.out)) : gb1 ≠ gb6));have n9_:=a0_ ((by rw [hg];exact Nat.ne_of_gt (blk_lt (bb_ BK1.out)) : gb6 ≠ gb1));have n10_:=a0_ ((by rw [hg];exact Nat.ne_of_lt (IsS81.lt (is0_ : IsS81 w0 _ g s0_0 t5)) : g ≠ gb6));have n11_:=a0_ ((by rw [hg];exact Nat.ne_of_gt (IsS81.lt (is0_ : IsS81 w0 _ g s0_0 t5)) : gb6 ≠ g));clear HO4 HI0;clear BK1 HK HB;have HO4:=n0_;have HI0:=n1_;have BK1:=n2_;have HK:=n3_;have HB:=n4_;have BK6:=n5_;have GW6:=n6_;have GE6:=n7_;have NB1_6:=n8_;have NB6_1:=n9_;have NB0_6:=n10_;have NB6_0:=n11_;clear n0_ n1_ n2_ n3_ n4_ n5_ n6_ n7_ n8_ n9_ n10_ n11_;clear hb hbox hg;obtain ⟨Ao7,co7,eo7⟩:=Kd.R_slice HO4.out;subst eo7;have hnb8:=NB6_1.out;have hnc8:=NB1_6.out;have hnb9:=NB6_0.out;have hnc9:=NB0_6.out;have hcz10_0 : w6.cell? ⟨gb6,0,none⟩ = some (.slice none 0 0):=(blk_cell BK6.out 0).trans rfl;have hfz10_0:=blk_frozen BK6.out 0) | ((with_reducible refine gate_dst (N:=16) rfl ?_);refine Kd.R_lit k47 _ 47 ?hg (N:=16) ?hd (xs:=([(⟨0,false,0,0⟩ : S47)] : List (S47))) (inner:=[.int .i64 0,.bool false,.int .i64 0,.int .i64 0]) (ok:=fun _=>True) (okp:=fun _=>True) ?hr ?hp (fun _ hk=>hk) trivial (Below.refl _ _) (Nat.le_refl _) (by simp) ?_;(case hd=>rfl);(case hg=>rfl);(case hr=>first | (go_simp;done) | (go_simp;rfl));(case hp=>exact (Reps.c4 (show Kd.M k47 _ _ _ (⟨0,false,0,0⟩ : S47) [.int .i64 0,.bool false,.int .i64 0,.int .i64 0] from (k47_mkM _ _ _ (⟨0,false,0,0⟩ : S47) )) (Reps.none _ _)));intro v8 w11 ho12 hb hg_ hnew_;clear hg_ hnew_;(first | rw [← Ny7.out] at ho12 | (simp only [Int.reduceToNat] at ho12;rw [← Ny7.out] at ho12));have n0_:=a0_ (Kd.R_below (by (with_reducible repeat (first | apply Kd.R_alloc | apply Kd.R_drewN | apply Kd.R_drew));exact (Kd.R_mono (Kd.R_far (p:=⟨gb6,0,none⟩) (Kd.R_types HO4.out BK6.out (by decide)) (fun _ hk=>hk.2) (.slice Ao7 t2.length co7)) (fun _ h_=>h_.1))) hb);have n1_:=a0_ (Kd.R_lower ho12 (keep_size (w:=w) (g:=g) (row:=none) hk_));have n2_:=a0_ (IsS81.below (is0_ : IsS81 w0 (w6.setCell ⟨gb6,0,none⟩ (.slice Ao7 t2.length co7)) g s0_0 t5) hb);have n3_:=kf_ BK1 NB1_6 hb;have n4_:=a0_ (blk_below (g:=gb6) (o:=.cells #[.slice Ao7 t2.length co7] 25 (0,0)) (by (with_reducible repeat (first | refine blk_drewN ?_ _ | refine blk_drew ?_ | refine blk_alloc ?_ _));refine blk_put (cs:=#[.slice none 0 0]) ?_ 0 _ rfl;(with_reducible repeat (first | refine blk_drewN ?_ _ | refine blk_drew ?_ | refine blk_alloc ?_ _));exact BK6.out) hb);have n5_:=a0_ (KeepBut.trans (w:=w) hk_ (KeepBut.of_below hb g none) (.inl rfl));have n6_:=a0_ (below_step hbi0_ hb);clear HO4 HI0;clear BK1 BK6;clear HK HB;have HO4:=n0_;have HO9:=n1_;have HI0:=n2_;have BK1:=n3_;have BK6:=n4_;have HK:=n5_;have HB:=n6_;clear n0_ n1_ n2_ n3_ n4_ n5_ n6_;clear hb ho12;have hnb13:=NB1_0.out;have hnc13:=NB0_1.out;have hcz14_0 : w11.cell? ⟨gb1,0,none⟩ = some (.slice none 0 0):=(blk_cell BK1.out 0).trans rfl;have hfz14_0:=blk_frozen BK1.out 0))
  refine bodyPost_ret (results_ct rfl _ _ gb1 25 #[.slice Ao7 t2.length co7] (0,0) _ rfl (by (with_reducible repeat (first | refine blk_drewN ?_ _ | refine blk_drew ?_ | refine blk_alloc ?_ _));refine blk_put (cs:=#[.slice none 0 0]) ?_ 0 _ rfl;(with_reducible repeat (first | refine blk_drewN ?_ _ | refine blk_drew ?_ | refine blk_alloc ?_ _));exact BK1.out) Try.underlying25 rfl (by kernel_rfl)) rfl ?_
  exact ⟨_,_,by first | rfl | (simp [errW_none,errW_some] <;> rfl) | (simp [*,errW_none,errW_some] <;> rfl),by (with_reducible repeat (first | apply Kd.R_alloc | apply Kd.R_drewN | apply Kd.R_drew));exact Kd.R_mono (Kd.R_far (p:=⟨gb1,0,none⟩) (Kd.R_types HO4.out BK1.out (by decide)) (fun _ hk=>hk.2) (.slice Ao7 t2.length co7)) (fun _ hk=>trivial),by (with_reducible repeat (first | apply Kd.R_alloc | apply Kd.R_drewN | apply Kd.R_drew));exact Kd.R_mono (Kd.R_far (p:=⟨gb1,0,none⟩) (Kd.R_types HO9.out BK1.out (by decide)) (fun _ hk=>hk.2) (.slice Ao7 t2.length co7)) (fun _ hk=>trivial),is0_,hbi0_,hk_⟩
 ·rw [if_neg c3] at H
  have c3b0 : ((t2.length : Int) == 0) = false:=beq_eq_false_iff_ne.mpr c3
  have c3b1 : ((t2.length : Int) != 0) = true:=bne_iff_ne.mpr c3
  have c3b2 : ¬ (t2 = []):=fun h_=>c3 (by rw [h_];rfl)
  replace H:=Option.bind_eq_some_iff.mp H
  obtain ⟨⟨t10,t13⟩,A150,H⟩:=H
  try dsimp only at H
  have A15:=a0_ A150
  clear A150
  have HC16:=a0_ H
  clear H
  go_enter Try.func36,Try.ntmps36
  go_upto_if 22 with (first | ((with_reducible refine gate_dst (N:=2) rfl ?_);refine box_event ?hg (N:=2) ?hd (cs:=#[.slice none 0 0]) (t:=25) ?hr ?_;(case hd=>rfl);(case hg=>rfl);(case hr=>first | (go_simp;done) | (go_simp;rfl));intro gb1 hg w17 hbox hb;have n0_:=a0_ (IsS81.below is0_ hb);have n1_:=a0_ (KeepBut.trans (w:=w) hk_ (KeepBut.of_below hb g none) (.inl rfl));have n2_:=a0_ (below_step hbi0_ hb);have n3_:=a0_ (hbox);have n4_:=a0_ ((by rw [hg];exact (keep_size (w:=w) (g:=g) (row:=none) hk_) : w.heap.size ≤ gb1));have n5_:=a0_ ((Nat.le_trans HW0.out (by rw [hg];exact (keep_size (w:=w) (g:=g) (row:=none) hk_) : w.heap.size ≤ gb1) : w0.heap.size ≤ gb1));have n6_:=a0_ ((by rw [hg];exact Nat.ne_of_lt (IsS81.lt (is0_ : IsS81 w0 _ g s0_0 s0_1)) : g ≠ gb1));have n7_:=a0_ ((by rw [hg];exact Nat.ne_of_gt (IsS81.lt (is0_ : IsS81 w0 _ g s0_0 s0_1)) : gb1 ≠ g));clear HI0 HK HB;have HI0:=n0_;have HK:=n1_;have HB:=n2_;have BK1:=n3_;have GW1:=n4_;have GE1:=n5_;have NB0_1:=n6_;have NB1_0:=n7_;clear n0_ n1_ n2_ n3_ n4_ n5_ n6_ n7_;clear hb hbox hg) | ((with_reducible refine gate_callee (f:=61) rfl ?_);refine goesL_ (some 9) rfl rfl Try.func61 (by kernel_rfl) rfl #[.pointer (some ⟨g,0,none⟩)] rfl lm_ ?_;(with_reducible refine (spec_someTree.calls k g s0_0 s0_1 t2 t5 w0 _ ?side1 ?side2 A2.out).mono ?_);(case side1=>exact is0_);(case side2=>exact hbi0_);rintro e w18 ⟨v3,rfl,ho0,hi,hb,hk⟩;refine ⟨_,rfl,?_⟩;replace BK1:=kk_ hk BK1 NB1_0;have HO4:=a0_ (Kd.R_lower ho0 (keep_size (w:=w) (g:=g) (row:=none) hk_));replace HK:=a0_ (KeepBut.trans (w:=w) hk_ hk (.inl rfl));replace HI0:=a0_ (hi);replace HB:=a0_ (hb);(try clear hb);(try clear ho0)) | ((with_reducible refine gate_dst (N:=4) rfl ?_);refine box_event ?hg (N:=4) ?hd (cs:=#[.slice none 0 0]) (t:=25) ?hr ?_;(case hd=>rfl);(case hg=>rfl);(case hr=>first | (go_simp;done) | (go_simp;rfl));intro gb6 hg w19 hbox hb;have n0_:=rb_ HO4 hb;have n1_:=a0_ (IsS81.below is0_ hb);have n2_:=kb_ BK1 hb;have n3_:=a0_ (KeepBut.trans (w:=w) hk_ (KeepBut.of_below hb g none) (.inl rfl));have n4_:=a0_ (below_step hbi0_ hb);have n5_:=a0_ (hbox);have n6_:=a0_ ((by rw [hg];exact (keep_size (w:=w) (g:=g) (row:=none) hk_) : w.heap.size ≤ gb6));have n7_:=a0_ ((Nat.le_trans HW0.out (by rw [hg];exact (keep_size (w:=w) (g:=g) (row:=none) hk_) : w.heap.size ≤ gb6) : w0.heap.size ≤ gb6));have n8_:=a0_ ((by rw [hg];exact Nat.ne_of_lt (blk_lt (bb_ BK1.out)) : gb1 ≠ gb6));have n9_:=a0_ ((by rw [hg];exact Nat.ne_of_gt (blk_lt (bb_ BK1.out)) : gb6 ≠ gb1));have n10_:=a0_ ((by rw [hg];exact Nat.ne_of_lt (IsS81.lt (is0_ : IsS81 w0 _ g s0_0 t5)) : g ≠ gb6));have n11_:=a0_ ((by rw [hg];exact Nat.ne_of_gt (IsS81.lt (is0_ : IsS81 w0 _ g s0_0 t5)) : gb6 ≠ g));clear HO4 HI0;clear BK1 HK HB;have HO4:=n0_;have HI0:=n1_;have BK1:=n2_;have HK:=n3_;have HB:=n4_;have BK6:=n5_;have GW6:=n6_;have GE6:=n7_;have NB1_6:=n8_;have NB6_1:=n9_;have NB0_6:=n10_;have NB6_0:=n11_;clear n0_ n1_ n2_ n3_ n4_ n5_ n6_ n7_ n8_ n9_ n10_ n11_;clear hb hbox hg;obtain ⟨Ao20,co20,eo20⟩:=Kd.R_slice HO4.out;subst eo20;have hnb21:=NB6_1.out;have hnc21:=NB1_6.out;have hnb22:=NB6_0.out;have hnc22:=NB0_6.out;have hcz23_0 : w19.cell? ⟨gb6,0,none⟩ = some (.slice none 0 0):=(blk_cell BK6.out 0).trans rfl;have hfz23_0:=blk_frozen BK6.out 0) | ((with_reducible refine gate_callee (f:=62) rfl ?_);refine goesL_ (some 19) rfl rfl Try.func62 (by kernel_rfl) rfl #[.pointer (some ⟨g,0,none⟩),.agg #[.slice Ao20 t2.length co20],.int .i64 0] rfl lm_ ?_;(with_reducible refine (spec_goodGroup.calls k g s0_0 t5 _ _ t2 0 t10 t13 w0 _ ?side1 ?side2 ?side3 ?side4 A15.out).mono ?_);(case side1=>exact is0_);(case side2=>exact hbi0_);(case side3=>exact Kd.C_foot_own (IsS81.apart (is0_ : IsS81 w0 _ g s0_0 t5) (by (with_reducible repeat (first | apply Kd.R_alloc | apply Kd.R_drewN | apply Kd.R_drew));exact (Kd.R_mono (Kd.R_far (p:=⟨gb6,0,none⟩) (Kd.R_types HO4.out BK6.out (by decide)) (fun _ hk=>hk.2) (.slice Ao20 t2.length co20)) (fun _ h_=>h_.1))) (by decide)) (fun _ h_=>h_.2));(case side4=>exact (Kd.R_reads' HO4.out).2.1);rintro e w24 ⟨v11,rfl,ho0,hi,hb,hk⟩;refine ⟨_,rfl,?_⟩;replace BK1:=kk_ hk BK1 NB1_0;replace HO4:=a0_ (Kd.R_mono (Kd.R_keep (IsS81.apart (is0_ : IsS81 w0 _ g s0_0 t5) (by (with_reducible repeat (first | apply Kd.R_alloc | apply Kd.R_drewN | apply Kd.R_drew));exact (Kd.R_mono (Kd.R_far (p:=⟨gb6,0,none⟩) (Kd.R_types HO4.out BK6.out (by decide)) (fun _ hk=>hk.2) (.slice Ao20 t2.length co20)) (fun _ h_=>h_.1))) (by decide)) hk (fun _ h=>h.2)) (fun _ h=>h.1));replace BK6:=a0_ (KeepBut.blk hk (g':=gb6) (o:=.cells #[.slice Ao20 t2.length co20] 25 (0,0)) (by (with_reducible repeat (first | refine blk_drewN ?_ _ | refine blk_drew ?_ | refine blk_alloc ?_ _));refine blk_put (cs:=#[.slice none 0 0]) ?_ 0 _ rfl;(with_reducible repeat (first | refine blk_drewN ?_ _ | refine blk_drew ?_ | refine blk_alloc ?_ _));exact BK6.out) NB6_0.out (by simp));have HO12:=a0_ (Kd.R_lower ho0 (keep_size (w:=w) (g:=g) (row:=none) hk_));replace HK:=a0_ (KeepBut.trans (w:=w) hk_ hk (.inl rfl));replace HI0:=a0_ (hi);replace HB:=a0_ (hb);(try clear hb);(try clear ho0);obtain ⟨Ao25,co25,eo25⟩:=Kd.R_slice HO12.out;subst eo25))
  (try simp only [Act.put,s1_,s2_,s3_])
  go_cut [5] (fun v5 wc=>∃ (kq : Nat) (x5_15 : List (S47)) (x1001_15 : Int),Aside0 (spec_someGroup.j1 kq x5_15 s0_0 x1001_15 t2 = some (r1,r2,r3)) ∧ Aside0 (kq ≤ k) ∧ Aside0 (Kd.R k47 47 wc w.heap.size (fun _=>True) v5 x5_15) ∧ Aside0 (Kd.R k85 85 wc w.heap.size (fun _=>True) (.slice Ao20 t2.length co20) t2) ∧ Aside0 (wc.heap[gb1]? = some (.cells #[(.slice none 0 0)] 25 (0,0))) ∧ Aside0 (wc.heap[gb6]? = some (.cells #[(.slice Ao20 t2.length co20)] 25 (0,0))) ∧ Aside0 (IsS81 w0 wc g s0_0 x1001_15) ∧ Aside0 (KeepBut w wc g none) ∧ Aside0 (Below w0.heap.size w0 wc))
  case first =>
   have H:=HC16.out
   clear HC16
   by_cases c26 : (t10.length : Int) > 16
   ·rw [if_pos c26] at H
    have c26b0 : decide (16 < (t10.length : Int)) = true:=decide_eq_true c26
    have c26b1 : decide (16 < t10.length) = true:=decide_eq_true (by omega)
    clear c26
    (first | rw [c26b0] | (simp only [i64_w,i32_w];rw [c26b0]) | skip)
    replace H:=Option.bind_eq_some_iff.mp H
    obtain ⟨⟨t14,t17⟩,A270,H⟩:=H
    replace H : (spec_someGroup.l0 k t14 0 s0_0 t17 t2) = some (r1,r2,r3):=H
    have A27:=a0_ A270
    clear A270
    have H':=a0_ H
    clear H
    have hnb28:=NB6_1.out
    have hnc28:=NB1_6.out
    have hnb29:=NB6_0.out
    have hnc29:=NB0_6.out
    have hcz30_0 : w24.cell? ⟨gb6,0,none⟩ = some (.slice Ao20 t2.length co20):=(blk_cell BK6.out 0).trans rfl
    have hfz30_0:=blk_frozen BK6.out 0
    go_wp2_with (first | ((with_reducible refine gate_callee (f:=62) rfl ?_);refine goesL_ (some 25) rfl rfl Try.func62 (by kernel_rfl) rfl #[.pointer (some ⟨g,0,none⟩),.agg #[.slice Ao20 t2.length co20],.int .i64 2] rfl lm_ ?_;(with_reducible refine (spec_goodGroup.calls k g s0_0 t13 _ _ t2 2 t14 t17 w0 _ ?side1 ?side2 ?side3 ?side4 A27.out).mono ?_);(case side1=>exact is0_);(case side2=>exact hbi0_);(case side3=>exact Kd.C_foot_own (IsS81.apart (is0_ : IsS81 w0 _ g s0_0 t13) (rr_ HO4.out) (by decide)) (fun _ h_=>h_.2));(case side4=>exact (Kd.R_reads' HO4.out).2.1);rintro e w31 ⟨v15,rfl,ho0,hi,hb,hk⟩;refine ⟨_,rfl,?_⟩;have n0_:=kk_ hk BK1 NB1_0;have n1_:=a0_ (Kd.R_mono (Kd.R_keep (IsS81.apart (is0_ : IsS81 w0 _ g s0_0 t13) (rr_ HO4.out) (by decide)) hk (fun _ h=>h.2)) (fun _ h=>h.1));have n2_:=kk_ hk BK6 NB6_0;have n3_:=a0_ (Kd.R_mono (Kd.R_told (Kd.R_oldK (IsS81.apart (is0_ : IsS81 w0 _ g s0_0 t13) (rr_ HO12.out) (by decide)) hk) (Kd.R_base ho0)) (fun _ h_=>h_.1));have n4_:=a0_ (Kd.R_lower (Kd.R_new' ho0 (Kd.R_lt (rr_ HO12.out))) (keep_size (w:=w) (g:=g) (row:=none) hk_));have n5_:=a0_ (KeepBut.trans (w:=w) hk_ hk (.inl rfl));have n6_:=a0_ (hb);have n7_:=a0_ (hi);clear BK1 HO4;clear BK6 HO12;clear HK HB HI0;have BK1:=n0_;have HO4:=n1_;have BK6:=n2_;have HO12:=n3_;have HO16:=n4_;have HK:=n5_;have HB:=n6_;have HI0:=n7_;clear n0_ n1_ n2_ n3_ n4_ n5_ n6_ n7_;(try clear hb);(try clear ho0)))
    go_loopg [6] k (fun kq v6 w'=>∃ (x5_1 : List (S47)) (x6_1 : Int),v6 = .int .i64 x6_1 ∧ Aside0 (spec_someGroup.l0 kq x5_1 x6_1 s0_0 t17 t2 = some (r1,r2,r3)) ∧ Aside0 (kq ≤ k) ∧ Aside0 (Kd.R k47 47 w' w.heap.size (fun _=>True) v15 x5_1) ∧ Aside0 (Kd.R k85 85 w' w.heap.size (fun _=>True) (.slice Ao20 t2.length co20) t2) ∧ Aside0 (w'.heap[gb1]? = some (.cells #[(.slice none 0 0)] 25 (0,0))) ∧ Aside0 (w'.heap[gb6]? = some (.cells #[(.slice Ao20 t2.length co20)] 25 (0,0))) ∧ Aside0 (IsS81 w0 w' g s0_0 t17) ∧ Aside0 (KeepBut w w' g none) ∧ Aside0 (Below w0.heap.size w0 w'))
    case atStart=>exact ⟨(t14),(0),(by first | rfl | (simp;done) | (simp [*];done)),H',⟨Nat.le_refl _⟩,⟨by (with_reducible repeat (first | apply Kd.R_alloc | apply Kd.R_drewN | apply Kd.R_drew));exact Kd.R_mono HO16.out (fun _ hk=>trivial)⟩,⟨by (with_reducible repeat (first | apply Kd.R_alloc | apply Kd.R_drewN | apply Kd.R_drew));exact HO4.out⟩,⟨by (with_reducible repeat (first | refine blk_drewN ?_ _ | refine blk_drew ?_ | refine blk_alloc ?_ _));exact BK1.out⟩,⟨by (with_reducible repeat (first | refine blk_drewN ?_ _ | refine blk_drew ?_ | refine blk_alloc ?_ _));exact BK6.out⟩,⟨is0_⟩,⟨hk_⟩,⟨hbi0_⟩⟩
    case round =>
     clear H'
     try clear c1
     try clear c2
     try clear p2
     try clear c3
     try clear c3b0
     try clear c3b1
     try clear c3b2
     try clear c4
     try clear c6
     try clear c8
     try clear c9
     try clear c13
     try clear c21
     try clear c22
     try clear c26
     try clear c26b0
     try clear c26b1
     try clear c28
     try clear c29
     try clear hcz10_0
     try clear hcz14_0
     try clear hcz23_0
     try clear hcz30_0
     try clear hfz10_0
     try clear hfz14_0
     try clear hfz23_0
     try clear hfz30_0
     obtain ⟨x5_1,x6_1,rfl,HA,HK1,HO_5,Z7,BK1,BK6,HI0,HK,HB⟩:=hrel
     cases gk with
     | zero=>exact absurd HA.out (by simp [spec_someGroup.l0])
     | succ k1 =>
      have H:=HA.out
      clear HA
      simp only [spec_someGroup.l0] at H
      by_cases c32 : x6_1 < (x5_1.length : Int)
      ·rw [if_pos c32] at H
       have c32b0 : decide (x6_1 < (x5_1.length : Int)) = true:=decide_eq_true c32
       clear c32
       by_cases c33 : 0 ≤ x6_1
       ·rw [if_pos c33] at H
        have c33b0 : decide (0 ≤ x6_1) = true:=decide_eq_true c33
        clear c33
        obtain ⟨y19,hy19⟩ : ∃ y_ : List (S47),y_ = (x5_1.set (x6_1 : Int).toNat (⟨wrap64 (((rd_T47 x5_1 x6_1).f0) - 2),(rd_T47 x5_1 x6_1).f1,(rd_T47 x5_1 x6_1).f2,(rd_T47 x5_1 x6_1).f3⟩ : S47)):=⟨_,rfl⟩
        replace H : (spec_someGroup.l0 k1 y19 (wrap64 (x6_1 + 1)) s0_0 t17 t2) = some (r1,r2,r3):=by first | (rw [hy19];with_reducible exact H) | (have H2_:=(Option.bind_some _ _).symm.trans H;rw [hy19];with_reducible exact H2_) | (have H2_:=(Option.bind_some _ _).symm.trans H;with_reducible exact H2_) | with_reducible exact H | (rw [hy19];exact H) | exact H
        have Ny19:=a0_ hy19
        clear hy19
        have H':=a0_ H
        clear H
        obtain ⟨Ao35,co35,eo35⟩:=Kd.R_slice HO_5.out
        subst eo35
        have p18 : 0 ≤ (x6_1 : Int):=of_decide_eq_true (by first | (with_reducible assumption) | assumption)
        have q18 : x6_1 < (x5_1.length : Int):=of_decide_eq_true (by first | (with_reducible assumption) | assumption)
        obtain ⟨ad18,e18,hx18_0,hx18_1,hx18_2,hx18_3⟩:=at_T47 (Kd.R_reads' HO_5.out).2.2 x6_1 p18 q18
        cases e18
        replace p18:=eq_true p18
        replace q18:=eq_true q18
        have p34 : 0 ≤ (x6_1 : Int):=of_decide_eq_true (by first | (with_reducible assumption) | assumption)
        have q34 : (x6_1 : Int) < ((x5_1.length : Int) : Int):=of_decide_eq_true (by first | (with_reducible assumption) | assumption)
        obtain ⟨go34,co34,eo34,gb34,gl34,cl34,HG34⟩:=Kd.R_form HO_5.out (by omega)
        (first | cases eo34 | (injection eo34 with ea_ en_ ec_;(first | subst ea_ | (injection ea_ with ea_;subst ea_));subst ec_;clear en_))
        have GB34:=a0_ gb34
        have GG34:=a0_ HG34
        clear gb34 gl34 HG34
        (first | simp only [add_plain] at hx18_0 | skip)
        (first | simp only [add_plain] at hx18_1 | skip)
        (first | simp only [add_plain] at hx18_2 | skip)
        (first | simp only [add_plain] at hx18_3 | skip)
        obtain ⟨ce34,hcl34,hM34,hcc34,hfr34⟩:=Kd.R_elem HO_5.out z47 (x6_1 : Int) p34 q34
        obtain rfl:=k47_openM hM34
        have hx34_0 : wr.cell? ⟨go34,(x6_1 : Int).toNat * 4,none⟩ = some (.int .i64 ((rd_T47 x5_1 x6_1).f0)):=hcc34 0 _ rfl
        have hx34_1 : wr.cell? ⟨go34,(x6_1 : Int).toNat * 4 + 1,none⟩ = some (.bool ((rd_T47 x5_1 x6_1).f1)):=hcc34 1 _ rfl
        have hx34_2 : wr.cell? ⟨go34,(x6_1 : Int).toNat * 4 + 2,none⟩ = some (.int .i64 ((rd_T47 x5_1 x6_1).f2)):=hcc34 2 _ rfl
        have hx34_3 : wr.cell? ⟨go34,(x6_1 : Int).toNat * 4 + 3,none⟩ = some (.int .i64 ((rd_T47 x5_1 x6_1).f3)):=hcc34 3 _ rfl
        have hf34_0 : wr.frozen? ⟨go34,(x6_1 : Int).toNat * 4,none⟩ = false:=hfr34 0
        have hf34_1 : wr.frozen? ⟨go34,(x6_1 : Int).toNat * 4 + 1,none⟩ = false:=hfr34 1
        have hf34_2 : wr.frozen? ⟨go34,(x6_1 : Int).toNat * 4 + 2,none⟩ = false:=hfr34 2
        have hf34_3 : wr.frozen? ⟨go34,(x6_1 : Int).toNat * 4 + 3,none⟩ = false:=hfr34 3
        clear hcl34 hcc34 hfr34 hM34
        replace p34:=eq_true p34
        replace q34:=eq_true q34
        have HX36:=a0_ (show Kd.R k47 47 wr w.heap.size (fun _=>True) (.slice (some ⟨go34,0,none⟩) x5_1.length co35) x5_1 from (rr_ HO_5.out))
        obtain ⟨ce36,hcl36,hM36,hcc36,hfr36⟩:=Kd.R_elem HX36.out z47 (x6_1 : Int) (of_decide_eq_true (by first | (with_reducible assumption) | assumption)) (by have h_ : (x6_1 : Int) < ((x5_1.length : Int) : Int):=of_decide_eq_true (by first | (with_reducible assumption) | assumption);first | exact h_ | (have e_:=(Kd.R_reads' HO_5.out).1;omega) | simpa using h_)
        obtain rfl:=k47_openM hM36
        have HP36:=Kd.R_seg HX36.out (x6_1 : Int) (of_decide_eq_true (by first | (with_reducible assumption) | assumption)) (by have h_ : (x6_1 : Int) < ((x5_1.length : Int) : Int):=of_decide_eq_true (by first | (with_reducible assumption) | assumption);first | exact h_ | (have e_:=(Kd.R_reads' HO_5.out).1;omega) | simpa using h_) (seg:=[.int .i64 (wrap64 (((rd_T47 x5_1 x6_1).f0) - 2))]) (j:=0) hcl36 hcc36 (show 1 ≤ 4 from by decide) (x':=(⟨wrap64 (((rd_T47 x5_1 x6_1).f0) - 2),(rd_T47 x5_1 x6_1).f1,(rd_T47 x5_1 x6_1).f2,(rd_T47 x5_1 x6_1).f3⟩ : S47)) (k47_mkM _ _ _ (⟨wrap64 (((rd_T47 x5_1 x6_1).f0) - 2),(rd_T47 x5_1 x6_1).f1,(rd_T47 x5_1 x6_1).f2,(rd_T47 x5_1 x6_1).f3⟩ : S47) ) (fun _ hk=>hk)
        have hx36_0:=hcc36 0 _ rfl
        (try simp only [show (k47).sz = 4 from rfl,Nat.mul_one,Nat.add_zero] at hx36_0)
        have hf36_0:=hfr36 0
        (try simp only [show (k47).sz = 4 from rfl,Nat.mul_one,Nat.add_zero] at hf36_0)
        clear hcl36 hcc36 hfr36 hM36
        go_wp2_with (first | ((with_reducible refine gate_store (t:=3) (p:=41) rfl ?_);refine store_event (t:=3) (p:=41) (v:=?vo_w37) (w1:=(wr.setCell ⟨go34,(x6_1 : Int).toNat * 4,none⟩ (.int .i64 (wrap64 (((rd_T47 x5_1 x6_1).f0) - 2))))) ?hg ?ho ?hn ?hr ?_;(case ho=>rfl);(case hg=>rfl);(case hn=>rfl);(case hr=>first | (go_simp;done) | (go_simp;rfl));intro w37 hw;have hg : wr.grownBy w37 (some go34):=(by rw [hw];exact HP36.2);have hp_ : Kd.R k47 47 w37 w.heap.size (fun _=>True) (.slice (some ⟨go34,0,none⟩) x5_1.length co35) y19:=(by rw [hw,Ny19.out];exact HP36.1);clear HP36;have n0_:=a0_ (hp_);have n1_:=a0_ (Kd.R_over' (v:=(.slice (some ⟨go34,0,none⟩) x5_1.length co35)) (rr_ Z7.out) (Kd.R_typed HO_5.out) (by decide) hg);have n2_:=a0_ (blk_grown (bb_ BK1.out) hg (Kd.R_ne HO_5.out BK1.out (by decide)));have n3_:=a0_ (blk_grown (bb_ BK6.out) hg (Kd.R_ne HO_5.out BK6.out (by decide)));have n4_:=a0_ (IsS81.grown is0_ hg (IsS81.own_ne HI0.out HO_5.out (by decide)));have n5_:=a0_ ((by rw [hw];exact below_set (HB.out) (Nat.le_trans HL.out GB34.out) : Below w0.heap.size w0 w37));have n6_:=a0_ (KeepBut.trans (w:=w) hk_ (KeepBut.of_grown hg g) (Kd.R_base2 HO_5.out));clear HO_5 Z7;clear BK1 BK6;clear HI0 HB HK;have HO_5:=n0_;have Z7:=n1_;have BK1:=n2_;have BK6:=n3_;have HI0:=n4_;have HB:=n5_;have HK:=n6_;clear n0_ n1_ n2_ n3_ n4_ n5_ n6_;clear hg hw hp_))
        go_roundg k1
        case measure=>have:=HK1.out;omega
        case rel=>exact ⟨(y19),(wrap64 (x6_1 + 1)),(by first | rfl | (simp;done) | (simp [*];done)),H',⟨by have:=HK1.out;omega⟩,⟨by (with_reducible repeat (first | apply Kd.R_alloc | apply Kd.R_drewN | apply Kd.R_drew));exact HO_5.out⟩,⟨by (with_reducible repeat (first | apply Kd.R_alloc | apply Kd.R_drewN | apply Kd.R_drew));exact Z7.out⟩,⟨by (with_reducible repeat (first | refine blk_drewN ?_ _ | refine blk_drew ?_ | refine blk_alloc ?_ _));exact BK1.out⟩,⟨by (with_reducible repeat (first | refine blk_drewN ?_ _ | refine blk_drew ?_ | refine blk_alloc ?_ _));exact BK6.out⟩,⟨is0_⟩,⟨hk_⟩,⟨hbi0_⟩⟩
       ·rw [if_neg c33] at H
        exact absurd H (by simp)
      ·rw [if_neg c32] at H
       have c32b0 : decide (x6_1 < (x5_1.length : Int)) = false:=decide_eq_false c32
       clear c32
       have H':=a0_ H
       clear H
       obtain ⟨Ao38,co38,eo38⟩:=Kd.R_slice HO_5.out
       subst eo38
       go_wp2
       go_meet
       case rel=>exact ⟨_,(x5_1),(t17),H',⟨by have:=HK1.out;first | omega | exact Nat.le_refl _⟩,⟨by (with_reducible repeat (first | apply Kd.R_alloc | apply Kd.R_drewN | apply Kd.R_drew));exact HO_5.out⟩,⟨by (with_reducible repeat (first | apply Kd.R_alloc | apply Kd.R_drewN | apply Kd.R_drew));exact Z7.out⟩,⟨by (with_reducible repeat (first | refine blk_drewN ?_ _ | refine blk_drew ?_ | refine blk_alloc ?_ _));exact BK1.out⟩,⟨by (with_reducible repeat (first | refine blk_drewN ?_ _ | refine blk_drew ?_ | refine blk_alloc ?_ _));exact BK6.out⟩,⟨is0_⟩,⟨hk_⟩,⟨hbi0_⟩⟩
   ·rw [if_neg c26] at H
    have c26b0 : decide (16 < (t10.length : Int)) = false:=decide_eq_false c26
    have c26b1 : decide (16 < t10.length) = false:=decide_eq_false (by omega)
    clear c26
    (first | rw [c26b0] | (simp only [i64_w,i32_w];rw [c26b0]) | skip)
    have H':=a0_ H
    clear H
    go_wp2
    go_meet
    case rel=>exact ⟨_,(t10),(t13),H',⟨by first | omega | exact Nat.le_refl _⟩,⟨by (with_reducible repeat (first | apply Kd.R_alloc | apply Kd.R_drewN | apply Kd.R_drew));exact HO12.out⟩,⟨by (with_reducible repeat (first | apply Kd.R_alloc | apply Kd.R_drewN | apply Kd.R_drew));exact HO4.out⟩,⟨by (with_reducible repeat (first | refine blk_drewN ?_ _ | refine blk_drew ?_ | refine blk_alloc ?_ _));exact BK1.out⟩,⟨by (with_reducible repeat (first | refine blk_drewN ?_ _ | refine blk_drew ?_ | refine blk_alloc ?_ _));exact BK6.out⟩,⟨is0_⟩,⟨hk_⟩,⟨hbi0_⟩⟩
  case rest =>
   clear HC16
   try clear c1
   try clear p1
   try clear q1
   try clear hx1
   try clear c2
   try clear p2
   try clear c3
   try clear c3b0
   try clear c3b1
   try clear c3b2
   try clear p3
   try clear q3
   try clear hx3
   try clear hf3
   try clear c4
   try clear c6
   try clear p6
   try clear c8
   try clear c9
   try clear c13
   try clear p18
   try clear q18
   try clear hx18
   try clear c21
   try clear c22
   try clear c26
   try clear c26b0
   try clear c26b1
   try clear c28
   try clear c29
   try clear c32
   try clear c32b0
   try clear c33
   try clear c33b0
   try clear c34
   try clear p34
   try clear q34
   try clear hx34
   try clear hf34
   try clear c36
   try clear hx36
   try clear hf36
   try clear hcz10_0
   try clear hcz14_0
   try clear hcz23_0
   try clear hcz30_0
   try clear hfz10_0
   try clear hfz14_0
   try clear hfz23_0
   try clear hfz30_0
   try clear hx18_0
   try clear hx18_1
   try clear hx18_2
   try clear hx18_3
   try clear hx34_0
   try clear hx34_1
   try clear hx34_2
   try clear hx34_3
   try clear hx36_0
   try clear p18
   try clear p2
   try clear p34
   try clear q18
   try clear q34
   obtain ⟨kq,x5_15,x1001_15,HA,HJ15,HO_5,Z7,BK1,BK6,HI0,HK,HB⟩:=hcut
   cases kq with
   | zero=>exact absurd HA.out (by simp [spec_someGroup.j1])
   | succ kj15 =>
    have H:=HA.out
    clear HA
    simp only [spec_someGroup.j1] at H
    replace H:=Option.bind_eq_some_iff.mp H
    obtain ⟨⟨t20,t21⟩,A390,H⟩:=H
    try dsimp only at H
    have A39:=a0_ A390
    clear A390
    replace H:=Option.bind_eq_some_iff.mp H
    obtain ⟨⟨t22,t23⟩,A400,H⟩:=H
    try dsimp only at H
    have A40:=a0_ A400
    clear A400
    by_cases c41 : t22 = 0
    ·rw [if_pos c41] at H
     have c41b0 : (t22 == 0) = true:=beq_iff_eq.mpr c41
     have c41b1 : (t22 != 0) = false:=bne_eq_false_iff_eq.mpr c41
     clear c41
     obtain ⟨y24,hy24⟩ : ∃ y_ : List Int,y_ = (([(-1),6,0,1] : List Int)):=⟨_,rfl⟩
     replace H : ((spec_reader_one.f kj15 s0_0 t23 y24).bind fun bt27=>(if 0 ≤ t20 then (if t20 < (x5_15.length : Int) then (some (t2,(x5_15.set (t20 : Int).toNat (⟨bt27.1,(rd_T47 x5_15 t20).f1,(rd_T47 x5_15 t20).f2,(rd_T47 x5_15 t20).f3⟩ : S47)),bt27.2)) else (none)) else (none))) = some (r1,r2,r3):=by first | (rw [hy24];with_reducible exact H) | (have H2_:=(Option.bind_some _ _).symm.trans H;rw [hy24];with_reducible exact H2_) | (have H2_:=(Option.bind_some _ _).symm.trans H;with_reducible exact H2_) | with_reducible exact H | (rw [hy24];exact H) | exact H
     have Ny24:=a0_ hy24
     clear hy24
     replace H:=Option.bind_eq_some_iff.mp H
     obtain ⟨⟨t27,t28⟩,A420,H⟩:=H
     try dsimp only at H
     have A42:=a0_ A420
     clear A420
     by_cases c43 : 0 ≤ t20
     ·rw [if_pos c43] at H
      have c43b0 : decide (0 ≤ t20) = true:=decide_eq_true c43
      clear c43
      by_cases c44 : t20 < (x5_15.length : Int)
      ·rw [if_pos c44] at H
       have c44b0 : decide (t20 < (x5_15.length : Int)) = true:=decide_eq_true c44
       clear c44
       obtain ⟨y29,hy29⟩ : ∃ y_ : List (S47),y_ = (x5_15.set (t20 : Int).toNat (⟨t27,(rd_T47 x5_15 t20).f1,(rd_T47 x5_15 t20).f2,(rd_T47 x5_15 t20).f3⟩ : S47)):=⟨_,rfl⟩
       replace H : (some (t2,y29,t28)) = some (r1,r2,r3):=by first | (rw [hy29];with_reducible exact H) | (have H2_:=(Option.bind_some _ _).symm.trans H;rw [hy29];with_reducible exact H2_) | (have H2_:=(Option.bind_some _ _).symm.trans H;with_reducible exact H2_) | with_reducible exact H | (rw [hy29];exact H) | exact H
       have Ny29:=a0_ hy29
       clear hy29
       simp only [Option.some.injEq,Prod.mk.injEq] at H
       obtain ⟨rfl,rfl,rfl⟩:=H
       obtain ⟨Ao46,co46,eo46⟩:=Kd.R_slice HO_5.out
       subst eo46
       go_wp2_with (first | ((with_reducible refine gate_callee (f:=63) rfl ?_);refine goesL_ (some 45) rfl rfl Try.func63 (by kernel_rfl) rfl #[.pointer (some ⟨g,0,none⟩),.int .i64 (x5_15.length : Int)] rfl lm_ ?_;(with_reducible refine (spec_reader_pick.calls kj15 g s0_0 x1001_15 (x5_15.length : Int) t20 t21 w0 _ ?side1 ?side2 A39.out).mono ?_);(case side1=>exact is0_);(case side2=>exact hbi0_);rintro e w47 ⟨rfl,hi,hb,hk⟩;refine ⟨_,rfl,?_⟩;replace HO_5:=a0_ (Kd.R_mono (Kd.R_keep (IsS81.apart (is0_ : IsS81 w0 _ g s0_0 x1001_15) (rr_ HO_5.out) (by decide)) hk (fun _ h=>h.2)) (fun _ h=>h.1));replace Z7:=a0_ (Kd.R_mono (Kd.R_keep (IsS81.apart (is0_ : IsS81 w0 _ g s0_0 x1001_15) (rr_ Z7.out) (by decide)) hk (fun _ h=>h.2)) (fun _ h=>h.1));replace BK1:=kk_ hk BK1 NB1_0;replace BK6:=kk_ hk BK6 NB6_0;replace HK:=a0_ (KeepBut.trans (w:=w) hk_ hk (.inl rfl));replace HI0:=a0_ (hi);replace HB:=a0_ (hb);(try clear hb);(try clear hb2);(try clear hk);(try clear hi)) | ((with_reducible refine gate_callee (f:=63) rfl ?_);refine goesL_ (some 47) rfl rfl Try.func63 (by kernel_rfl) rfl #[.pointer (some ⟨g,0,none⟩),.int .i64 24] rfl lm_ ?_;(with_reducible refine (spec_reader_pick.calls kj15 g s0_0 t21 24 t22 t23 w0 _ ?side1 ?side2 A40.out).mono ?_);(case side1=>exact is0_);(case side2=>exact hbi0_);rintro e w48 ⟨rfl,hi,hb,hk⟩;refine ⟨_,rfl,?_⟩;replace HO_5:=a0_ (Kd.R_mono (Kd.R_keep (IsS81.apart (is0_ : IsS81 w0 _ g s0_0 t21) (rr_ HO_5.out) (by decide)) hk (fun _ h=>h.2)) (fun _ h=>h.1));replace Z7:=a0_ (Kd.R_mono (Kd.R_keep (IsS81.apart (is0_ : IsS81 w0 _ g s0_0 t21) (rr_ Z7.out) (by decide)) hk (fun _ h=>h.2)) (fun _ h=>h.1));replace BK1:=kk_ hk BK1 NB1_0;replace BK6:=kk_ hk BK6 NB6_0;replace HK:=a0_ (KeepBut.trans (w:=w) hk_ hk (.inl rfl));replace HI0:=a0_ (hi);replace HB:=a0_ (hb);(try clear hb);(try clear hb2);(try clear hk);(try clear hi)) | ((with_reducible refine gate_dst (N:=53) rfl ?_);refine Kd.R_lit (Kd.int .i64) _ 3 ?hg (N:=53) ?hd (xs:=([(-1),6,0,1] : List Int)) (inner:=[.int .i64 (-1),.int .i64 6,.int .i64 0,.int .i64 1]) (ok:=fun _=>True) (okp:=fun _=>True) ?hr ?hp (fun _ hk=>hk) trivial (Below.refl _ _) (Nat.le_refl _) (by simp) ?_;(case hd=>rfl);(case hg=>rfl);(case hr=>first | (go_simp;done) | (go_simp;rfl));(case hp=>exact (Reps.one (show Kd.M (Kd.int .i64) _ _ _ (-1) [.int .i64 (-1)] from rfl) (Reps.one (show Kd.M (Kd.int .i64) _ _ _ 6 [.int .i64 6] from rfl) (Reps.one (show Kd.M (Kd.int .i64) _ _ _ 0 [.int .i64 0] from rfl) (Reps.one (show Kd.M (Kd.int .i64) _ _ _ 1 [.int .i64 1] from rfl) (Reps.none _ _))))));intro v25 w49 ho50 hb hg_ hnew_;clear hg_ hnew_;(first | rw [← Ny24.out] at ho50 | (simp only [Int.reduceToNat] at ho50;rw [← Ny24.out] at ho50));have n0_:=rb_ HO_5 hb;have n1_:=rb_ Z7 hb;have n2_:=a0_ (Kd.R_lower ho50 (keep_size (w:=w) (g:=g) (row:=none) hk_));have n3_:=kb_ BK1 hb;have n4_:=kb_ BK6 hb;have n5_:=a0_ (IsS81.below is0_ hb);have n6_:=a0_ (KeepBut.trans (w:=w) hk_ (KeepBut.of_below hb g none) (.inl rfl));have n7_:=a0_ (below_step hbi0_ hb);clear HO_5 Z7;clear BK1 BK6;clear HI0 HK HB;have HO_5:=n0_;have Z7:=n1_;have HO26:=n2_;have BK1:=n3_;have BK6:=n4_;have HI0:=n5_;have HK:=n6_;have HB:=n7_;clear n0_ n1_ n2_ n3_ n4_ n5_ n6_ n7_;clear hb ho50;obtain ⟨Ao51,co51,eo51⟩:=Kd.R_slice HO26.out;subst eo51) | ((with_reducible refine gate_callee (f:=64) rfl ?_);refine goesL_ (some 54) rfl rfl Try.func64 (by kernel_rfl) rfl #[.pointer (some ⟨g,0,none⟩),.slice Ao51 y24.length co51] rfl lm_ ?_;(with_reducible refine (spec_reader_one.calls kj15 g s0_0 t23 _ _ y24 t27 t28 w0 _ ?side1 ?side2 ?side3 ?side4 ?side5 A42.out).mono ?_);(case side1=>exact is0_);(case side2=>exact hbi0_);(case side3=>exact cc_ (Kd.R_reads' HO26.out).2.2);(case side4=>exact (Kd.R_reads' HO26.out).2.1);(case side5=>exact far_slice (IsS81.own_ne HI0.out HO26.out (by decide)));rintro e w52 ⟨rfl,hi,hb,hk⟩;refine ⟨_,rfl,?_⟩;replace HO_5:=a0_ (Kd.R_mono (Kd.R_keep (IsS81.apart (is0_ : IsS81 w0 _ g s0_0 t23) (rr_ HO_5.out) (by decide)) hk (fun _ h=>h.2)) (fun _ h=>h.1));replace Z7:=a0_ (Kd.R_mono (Kd.R_keep (IsS81.apart (is0_ : IsS81 w0 _ g s0_0 t23) (rr_ Z7.out) (by decide)) hk (fun _ h=>h.2)) (fun _ h=>h.1));replace BK1:=kk_ hk BK1 NB1_0;replace BK6:=kk_ hk BK6 NB6_0;replace HO26:=a0_ (Kd.R_mono (Kd.R_keep (IsS81.apart (is0_ : IsS81 w0 _ g s0_0 t23) (rr_ HO26.out) (by decide)) hk (fun _ h=>h.2)) (fun _ h=>h.1));replace HK:=a0_ (KeepBut.trans (w:=w) hk_ hk (.inl rfl));replace HI0:=a0_ (hi);replace HB:=a0_ (hb);(try clear hb);have p45 : 0 ≤ (t20 : Int):=of_decide_eq_true (by first | (with_reducible assumption) | assumption);have q45 : (t20 : Int) < ((x5_15.length : Int) : Int):=of_decide_eq_true (by first | (with_reducible assumption) | assumption);obtain ⟨go45,co45,eo45,gb45,gl45,cl45,HG45⟩:=Kd.R_form HO_5.out (by omega);(first | cases eo45 | (injection eo45 with ea_ en_ ec_;(first | subst ea_ | (injection ea_ with ea_;subst ea_));subst ec_;clear en_));have GB45:=a0_ gb45;have GG45:=a0_ HG45;clear gb45 gl45 HG45;obtain ⟨ce45,hcl45,hM45,hcc45,hfr45⟩:=Kd.R_elem HO_5.out z47 (t20 : Int) p45 q45;obtain rfl:=k47_openM hM45;have hx45_0 : w52.cell? ⟨go45,(t20 : Int).toNat * 4,none⟩ = some (.int .i64 ((rd_T47 x5_15 t20).f0)):=hcc45 0 _ rfl;have hx45_1 : w52.cell? ⟨go45,(t20 : Int).toNat * 4 + 1,none⟩ = some (.bool ((rd_T47 x5_15 t20).f1)):=hcc45 1 _ rfl;have hx45_2 : w52.cell? ⟨go45,(t20 : Int).toNat * 4 + 2,none⟩ = some (.int .i64 ((rd_T47 x5_15 t20).f2)):=hcc45 2 _ rfl;have hx45_3 : w52.cell? ⟨go45,(t20 : Int).toNat * 4 + 3,none⟩ = some (.int .i64 ((rd_T47 x5_15 t20).f3)):=hcc45 3 _ rfl;have hf45_0 : w52.frozen? ⟨go45,(t20 : Int).toNat * 4,none⟩ = false:=hfr45 0;have hf45_1 : w52.frozen? ⟨go45,(t20 : Int).toNat * 4 + 1,none⟩ = false:=hfr45 1;have hf45_2 : w52.frozen? ⟨go45,(t20 : Int).toNat * 4 + 2,none⟩ = false:=hfr45 2;have hf45_3 : w52.frozen? ⟨go45,(t20 : Int).toNat * 4 + 3,none⟩ = false:=hfr45 3;clear hcl45 hcc45 hfr45 hM45;replace p45:=eq_true p45;replace q45:=eq_true q45;have HX53:=a0_ (show Kd.R k47 47 w52 w.heap.size (fun _=>True) (.slice (some ⟨go45,0,none⟩) x5_15.length co46) x5_15 from (rr_ HO_5.out));obtain ⟨ce53,hcl53,hM53,hcc53,hfr53⟩:=Kd.R_elem HX53.out z47 (t20 : Int) (of_decide_eq_true (by first | (with_reducible assumption) | assumption)) (by have h_ : (t20 : Int) < ((x5_15.length : Int) : Int):=of_decide_eq_true (by first | (with_reducible assumption) | assumption);first | exact h_ | (have e_:=(Kd.R_reads' HO_5.out).1;omega) | simpa using h_);obtain rfl:=k47_openM hM53;have HP53:=Kd.R_seg HX53.out (t20 : Int) (of_decide_eq_true (by first | (with_reducible assumption) | assumption)) (by have h_ : (t20 : Int) < ((x5_15.length : Int) : Int):=of_decide_eq_true (by first | (with_reducible assumption) | assumption);first | exact h_ | (have e_:=(Kd.R_reads' HO_5.out).1;omega) | simpa using h_) (seg:=[.int .i64 t27]) (j:=0) hcl53 hcc53 (show 1 ≤ 4 from by decide) (x':=(⟨t27,(rd_T47 x5_15 t20).f1,(rd_T47 x5_15 t20).f2,(rd_T47 x5_15 t20).f3⟩ : S47)) (k47_mkM _ _ _ (⟨t27,(rd_T47 x5_15 t20).f1,(rd_T47 x5_15 t20).f2,(rd_T47 x5_15 t20).f3⟩ : S47) ) (fun _ hk=>hk);have hx53_0:=hcc53 0 _ rfl;(try simp only [show (k47).sz = 4 from rfl,Nat.mul_one,Nat.add_zero] at hx53_0);have hf53_0:=hfr53 0;(try simp only [show (k47).sz = 4 from rfl,Nat.mul_one,Nat.add_zero] at hf53_0);clear hcl53 hcc53 hfr53 hM53) | ((with_reducible refine gate_store (t:=3) (p:=56) rfl ?_);refine store_event (t:=3) (p:=56) (v:=?vo_w54) (w1:=(w52.setCell ⟨go45,(t20 : Int).toNat * 4,none⟩ (.int .i64 t27))) ?hg ?ho ?hn ?hr ?_;(case ho=>rfl);(case hg=>rfl);(case hn=>rfl);(case hr=>first | (go_simp;done) | (go_simp;rfl));intro w54 hw;have hg : w52.grownBy w54 (some go45):=(by rw [hw];exact HP53.2);have hp_ : Kd.R k47 47 w54 w.heap.size (fun _=>True) (.slice (some ⟨go45,0,none⟩) x5_15.length co46) y29:=(by rw [hw,Ny29.out];exact HP53.1);clear HP53;have n0_:=a0_ (hp_);have n1_:=a0_ (Kd.R_over' (v:=(.slice (some ⟨go45,0,none⟩) x5_15.length co46)) (rr_ Z7.out) (Kd.R_typed HO_5.out) (by decide) hg);have n2_:=a0_ (blk_grown (bb_ BK1.out) hg (Kd.R_ne HO_5.out BK1.out (by decide)));have n3_:=a0_ (blk_grown (bb_ BK6.out) hg (Kd.R_ne HO_5.out BK6.out (by decide)));have n4_:=a0_ (IsS81.grown is0_ hg (IsS81.own_ne HI0.out HO_5.out (by decide)));have n5_:=a0_ (Kd.R_over' (v:=(.slice (some ⟨go45,0,none⟩) x5_15.length co46)) (rr_ HO26.out) (Kd.R_typed HO_5.out) (by decide) hg);have n6_:=a0_ ((by rw [hw];exact below_set (HB.out) (Nat.le_trans HL.out GB45.out) : Below w0.heap.size w0 w54));have n7_:=a0_ (KeepBut.trans (w:=w) hk_ (KeepBut.of_grown hg g) (Kd.R_base2 HO_5.out));clear HO_5 Z7;clear BK1 BK6;clear HI0 HO26;clear HB HK;have HO_5:=n0_;have Z7:=n1_;have BK1:=n2_;have BK6:=n3_;have HI0:=n4_;have HO26:=n5_;have HB:=n6_;have HK:=n7_;clear n0_ n1_ n2_ n3_ n4_ n5_ n6_ n7_;clear hg hw hp_;have hnb55:=NB6_1.out;have hnc55:=NB1_6.out;have hnb56:=NB6_0.out;have hnc56:=NB0_6.out;have hcz57_0 : w54.cell? ⟨gb6,0,none⟩ = some (.slice Ao20 t2.length co20):=(blk_cell BK6.out 0).trans rfl;have hfz57_0:=blk_frozen BK6.out 0;have hnb58:=NB1_0.out;have hnc58:=NB0_1.out;have hcz59_0 : w54.cell? ⟨gb1,0,none⟩ = some (.slice none 0 0):=(blk_cell BK1.out 0).trans rfl;have hfz59_0:=blk_frozen BK1.out 0))
       refine bodyPost_ret (results_ct rfl _ _ gb1 25 #[.slice Ao20 t2.length co20] (0,0) _ rfl (by (with_reducible repeat (first | refine blk_drewN ?_ _ | refine blk_drew ?_ | refine blk_alloc ?_ _));refine blk_put (cs:=#[.slice none 0 0]) ?_ 0 _ rfl;(with_reducible repeat (first | refine blk_drewN ?_ _ | refine blk_drew ?_ | refine blk_alloc ?_ _));exact BK1.out) Try.underlying25 rfl (by kernel_rfl)) rfl ?_
       exact ⟨_,_,by first | rfl | (simp [errW_none,errW_some] <;> rfl) | (simp [*,errW_none,errW_some] <;> rfl),by (with_reducible repeat (first | apply Kd.R_alloc | apply Kd.R_drewN | apply Kd.R_drew));exact Kd.R_mono (Kd.R_far (p:=⟨gb1,0,none⟩) (Kd.R_types Z7.out BK1.out (by decide)) (fun _ hk=>hk.2) (.slice Ao20 t2.length co20)) (fun _ hk=>trivial),by (with_reducible repeat (first | apply Kd.R_alloc | apply Kd.R_drewN | apply Kd.R_drew));exact Kd.R_mono (Kd.R_far (p:=⟨gb1,0,none⟩) (Kd.R_types HO_5.out BK1.out (by decide)) (fun _ hk=>hk.2) (.slice Ao20 t2.length co20)) (fun _ hk=>trivial),is0_,hbi0_,hk_⟩
      ·rw [if_neg c44] at H
       exact absurd H (by simp)
     ·rw [if_neg c43] at H
      exact absurd H (by simp)
    ·rw [if_neg c41] at H
     have c41b0 : (t22 == 0) = false:=beq_eq_false_iff_ne.mpr c41
     have c41b1 : (t22 != 0) = true:=bne_iff_ne.mpr c41
     by_cases c60 : t22 = 1
     ·rw [if_pos c60] at H
      have c60b0 : (t22 == 1) = true:=beq_iff_eq.mpr c60
      have c60b1 : (t22 != 1) = false:=bne_eq_false_iff_eq.mpr c60
      clear c60
      obtain ⟨y30,hy30⟩ : ∃ y_ : List Int,y_ = (([(-1),8,1] : List Int)):=⟨_,rfl⟩
      replace H : ((spec_reader_one.f kj15 s0_0 t23 y30).bind fun bt33=>(if 0 ≤ t20 then (if t20 < (x5_15.length : Int) then (some (t2,(x5_15.set (t20 : Int).toNat (⟨(rd_T47 x5_15 t20).f0,(rd_T47 x5_15 t20).f1,bt33.1,(rd_T47 x5_15 t20).f3⟩ : S47)),bt33.2)) else (none)) else (none))) = some (r1,r2,r3):=by first | (rw [hy30];with_reducible exact H) | (have H2_:=(Option.bind_some _ _).symm.trans H;rw [hy30];with_reducible exact H2_) | (have H2_:=(Option.bind_some _ _).symm.trans H;with_reducible exact H2_) | with_reducible exact H | (rw [hy30];exact H) | exact H
      have Ny30:=a0_ hy30
      clear hy30
      replace H:=Option.bind_eq_some_iff.mp H
      obtain ⟨⟨t33,t34⟩,A610,H⟩:=H
      try dsimp only at H
      have A61:=a0_ A610
      clear A610
      by_cases c62 : 0 ≤ t20
      ·rw [if_pos c62] at H
       have c62b0 : decide (0 ≤ t20) = true:=decide_eq_true c62
       clear c62
       by_cases c63 : t20 < (x5_15.length : Int)
       ·rw [if_pos c63] at H
        have c63b0 : decide (t20 < (x5_15.length : Int)) = true:=decide_eq_true c63
        clear c63
        obtain ⟨y35,hy35⟩ : ∃ y_ : List (S47),y_ = (x5_15.set (t20 : Int).toNat (⟨(rd_T47 x5_15 t20).f0,(rd_T47 x5_15 t20).f1,t33,(rd_T47 x5_15 t20).f3⟩ : S47)):=⟨_,rfl⟩
        replace H : (some (t2,y35,t34)) = some (r1,r2,r3):=by first | (rw [hy35];with_reducible exact H) | (have H2_:=(Option.bind_some _ _).symm.trans H;rw [hy35];with_reducible exact H2_) | (have H2_:=(Option.bind_some _ _).symm.trans H;with_reducible exact H2_) | with_reducible exact H | (rw [hy35];exact H) | exact H
        have Ny35:=a0_ hy35
        clear hy35
        simp only [Option.some.injEq,Prod.mk.injEq] at H
        obtain ⟨rfl,rfl,rfl⟩:=H
        obtain ⟨Ao65,co65,eo65⟩:=Kd.R_slice HO_5.out
        subst eo65
        go_wp2_with (first | ((with_reducible refine gate_callee (f:=63) rfl ?_);refine goesL_ (some 45) rfl rfl Try.func63 (by kernel_rfl) rfl #[.pointer (some ⟨g,0,none⟩),.int .i64 (x5_15.length : Int)] rfl lm_ ?_;(with_reducible refine (spec_reader_pick.calls kj15 g s0_0 x1001_15 (x5_15.length : Int) t20 t21 w0 _ ?side1 ?side2 A39.out).mono ?_);(case side1=>exact is0_);(case side2=>exact hbi0_);rintro e w66 ⟨rfl,hi,hb,hk⟩;refine ⟨_,rfl,?_⟩;replace HO_5:=a0_ (Kd.R_mono (Kd.R_keep (IsS81.apart (is0_ : IsS81 w0 _ g s0_0 x1001_15) (rr_ HO_5.out) (by decide)) hk (fun _ h=>h.2)) (fun _ h=>h.1));replace Z7:=a0_ (Kd.R_mono (Kd.R_keep (IsS81.apart (is0_ : IsS81 w0 _ g s0_0 x1001_15) (rr_ Z7.out) (by decide)) hk (fun _ h=>h.2)) (fun _ h=>h.1));replace BK1:=kk_ hk BK1 NB1_0;replace BK6:=kk_ hk BK6 NB6_0;replace HK:=a0_ (KeepBut.trans (w:=w) hk_ hk (.inl rfl));replace HI0:=a0_ (hi);replace HB:=a0_ (hb);(try clear hb);(try clear hb2);(try clear hk);(try clear hi)) | ((with_reducible refine gate_callee (f:=63) rfl ?_);refine goesL_ (some 47) rfl rfl Try.func63 (by kernel_rfl) rfl #[.pointer (some ⟨g,0,none⟩),.int .i64 24] rfl lm_ ?_;(with_reducible refine (spec_reader_pick.calls kj15 g s0_0 t21 24 t22 t23 w0 _ ?side1 ?side2 A40.out).mono ?_);(case side1=>exact is0_);(case side2=>exact hbi0_);rintro e w67 ⟨rfl,hi,hb,hk⟩;refine ⟨_,rfl,?_⟩;replace HO_5:=a0_ (Kd.R_mono (Kd.R_keep (IsS81.apart (is0_ : IsS81 w0 _ g s0_0 t21) (rr_ HO_5.out) (by decide)) hk (fun _ h=>h.2)) (fun _ h=>h.1));replace Z7:=a0_ (Kd.R_mono (Kd.R_keep (IsS81.apart (is0_ : IsS81 w0 _ g s0_0 t21) (rr_ Z7.out) (by decide)) hk (fun _ h=>h.2)) (fun _ h=>h.1));replace BK1:=kk_ hk BK1 NB1_0;replace BK6:=kk_ hk BK6 NB6_0;replace HK:=a0_ (KeepBut.trans (w:=w) hk_ hk (.inl rfl));replace HI0:=a0_ (hi);replace HB:=a0_ (hb);(try clear hb);(try clear hb2);(try clear hk);(try clear hi)) | ((with_reducible refine gate_dst (N:=62) rfl ?_);refine Kd.R_lit (Kd.int .i64) _ 3 ?hg (N:=62) ?hd (xs:=([(-1),8,1] : List Int)) (inner:=[.int .i64 (-1),.int .i64 8,.int .i64 1]) (ok:=fun _=>True) (okp:=fun _=>True) ?hr ?hp (fun _ hk=>hk) trivial (Below.refl _ _) (Nat.le_refl _) (by simp) ?_;(case hd=>rfl);(case hg=>rfl);(case hr=>first | (go_simp;done) | (go_simp;rfl));(case hp=>exact (Reps.one (show Kd.M (Kd.int .i64) _ _ _ (-1) [.int .i64 (-1)] from rfl) (Reps.one (show Kd.M (Kd.int .i64) _ _ _ 8 [.int .i64 8] from rfl) (Reps.one (show Kd.M (Kd.int .i64) _ _ _ 1 [.int .i64 1] from rfl) (Reps.none _ _)))));intro v31 w68 ho69 hb hg_ hnew_;clear hg_ hnew_;(first | rw [← Ny30.out] at ho69 | (simp only [Int.reduceToNat] at ho69;rw [← Ny30.out] at ho69));have n0_:=rb_ HO_5 hb;have n1_:=rb_ Z7 hb;have n2_:=a0_ (Kd.R_lower ho69 (keep_size (w:=w) (g:=g) (row:=none) hk_));have n3_:=kb_ BK1 hb;have n4_:=kb_ BK6 hb;have n5_:=a0_ (IsS81.below is0_ hb);have n6_:=a0_ (KeepBut.trans (w:=w) hk_ (KeepBut.of_below hb g none) (.inl rfl));have n7_:=a0_ (below_step hbi0_ hb);clear HO_5 Z7;clear BK1 BK6;clear HI0 HK HB;have HO_5:=n0_;have Z7:=n1_;have HO32:=n2_;have BK1:=n3_;have BK6:=n4_;have HI0:=n5_;have HK:=n6_;have HB:=n7_;clear n0_ n1_ n2_ n3_ n4_ n5_ n6_ n7_;clear hb ho69;obtain ⟨Ao70,co70,eo70⟩:=Kd.R_slice HO32.out;subst eo70) | ((with_reducible refine gate_callee (f:=64) rfl ?_);refine goesL_ (some 63) rfl rfl Try.func64 (by kernel_rfl) rfl #[.pointer (some ⟨g,0,none⟩),.slice Ao70 y30.length co70] rfl lm_ ?_;(with_reducible refine (spec_reader_one.calls kj15 g s0_0 t23 _ _ y30 t33 t34 w0 _ ?side1 ?side2 ?side3 ?side4 ?side5 A61.out).mono ?_);(case side1=>exact is0_);(case side2=>exact hbi0_);(case side3=>exact cc_ (Kd.R_reads' HO32.out).2.2);(case side4=>exact (Kd.R_reads' HO32.out).2.1);(case side5=>exact far_slice (IsS81.own_ne HI0.out HO32.out (by decide)));rintro e w71 ⟨rfl,hi,hb,hk⟩;refine ⟨_,rfl,?_⟩;replace HO_5:=a0_ (Kd.R_mono (Kd.R_keep (IsS81.apart (is0_ : IsS81 w0 _ g s0_0 t23) (rr_ HO_5.out) (by decide)) hk (fun _ h=>h.2)) (fun _ h=>h.1));replace Z7:=a0_ (Kd.R_mono (Kd.R_keep (IsS81.apart (is0_ : IsS81 w0 _ g s0_0 t23) (rr_ Z7.out) (by decide)) hk (fun _ h=>h.2)) (fun _ h=>h.1));replace BK1:=kk_ hk BK1 NB1_0;replace BK6:=kk_ hk BK6 NB6_0;replace HO32:=a0_ (Kd.R_mono (Kd.R_keep (IsS81.apart (is0_ : IsS81 w0 _ g s0_0 t23) (rr_ HO32.out) (by decide)) hk (fun _ h=>h.2)) (fun _ h=>h.1));replace HK:=a0_ (KeepBut.trans (w:=w) hk_ hk (.inl rfl));replace HI0:=a0_ (hi);replace HB:=a0_ (hb);(try clear hb);have p64 : 0 ≤ (t20 : Int):=of_decide_eq_true (by first | (with_reducible assumption) | assumption);have q64 : (t20 : Int) < ((x5_15.length : Int) : Int):=of_decide_eq_true (by first | (with_reducible assumption) | assumption);obtain ⟨go64,co64,eo64,gb64,gl64,cl64,HG64⟩:=Kd.R_form HO_5.out (by omega);(first | cases eo64 | (injection eo64 with ea_ en_ ec_;(first | subst ea_ | (injection ea_ with ea_;subst ea_));subst ec_;clear en_));have GB64:=a0_ gb64;have GG64:=a0_ HG64;clear gb64 gl64 HG64;obtain ⟨ce64,hcl64,hM64,hcc64,hfr64⟩:=Kd.R_elem HO_5.out z47 (t20 : Int) p64 q64;obtain rfl:=k47_openM hM64;have hx64_0 : w71.cell? ⟨go64,(t20 : Int).toNat * 4,none⟩ = some (.int .i64 ((rd_T47 x5_15 t20).f0)):=hcc64 0 _ rfl;have hx64_1 : w71.cell? ⟨go64,(t20 : Int).toNat * 4 + 1,none⟩ = some (.bool ((rd_T47 x5_15 t20).f1)):=hcc64 1 _ rfl;have hx64_2 : w71.cell? ⟨go64,(t20 : Int).toNat * 4 + 2,none⟩ = some (.int .i64 ((rd_T47 x5_15 t20).f2)):=hcc64 2 _ rfl;have hx64_3 : w71.cell? ⟨go64,(t20 : Int).toNat * 4 + 3,none⟩ = some (.int .i64 ((rd_T47 x5_15 t20).f3)):=hcc64 3 _ rfl;have hf64_0 : w71.frozen? ⟨go64,(t20 : Int).toNat * 4,none⟩ = false:=hfr64 0;have hf64_1 : w71.frozen? ⟨go64,(t20 : Int).toNat * 4 + 1,none⟩ = false:=hfr64 1;have hf64_2 : w71.frozen? ⟨go64,(t20 : Int).toNat * 4 + 2,none⟩ = false:=hfr64 2;have hf64_3 : w71.frozen? ⟨go64,(t20 : Int).toNat * 4 + 3,none⟩ = false:=hfr64 3;clear hcl64 hcc64 hfr64 hM64;replace p64:=eq_true p64;replace q64:=eq_true q64;have HX72:=a0_ (show Kd.R k47 47 w71 w.heap.size (fun _=>True) (.slice (some ⟨go64,0,none⟩) x5_15.length co65) x5_15 from (rr_ HO_5.out));obtain ⟨ce72,hcl72,hM72,hcc72,hfr72⟩:=Kd.R_elem HX72.out z47 (t20 : Int) (of_decide_eq_true (by first | (with_reducible assumption) | assumption)) (by have h_ : (t20 : Int) < ((x5_15.length : Int) : Int):=of_decide_eq_true (by first | (with_reducible assumption) | assumption);first | exact h_ | (have e_:=(Kd.R_reads' HO_5.out).1;omega) | simpa using h_);obtain rfl:=k47_openM hM72;have HP72:=Kd.R_seg HX72.out (t20 : Int) (of_decide_eq_true (by first | (with_reducible assumption) | assumption)) (by have h_ : (t20 : Int) < ((x5_15.length : Int) : Int):=of_decide_eq_true (by first | (with_reducible assumption) | assumption);first | exact h_ | (have e_:=(Kd.R_reads' HO_5.out).1;omega) | simpa using h_) (seg:=[.int .i64 t33]) (j:=2) hcl72 hcc72 (show 3 ≤ 4 from by decide) (x':=(⟨(rd_T47 x5_15 t20).f0,(rd_T47 x5_15 t20).f1,t33,(rd_T47 x5_15 t20).f3⟩ : S47)) (k47_mkM _ _ _ (⟨(rd_T47 x5_15 t20).f0,(rd_T47 x5_15 t20).f1,t33,(rd_T47 x5_15 t20).f3⟩ : S47) ) (fun _ hk=>hk);have hx72_2:=hcc72 2 _ rfl;(try simp only [show (k47).sz = 4 from rfl,Nat.mul_one,Nat.add_zero] at hx72_2);have hf72_2:=hfr72 2;(try simp only [show (k47).sz = 4 from rfl,Nat.mul_one,Nat.add_zero] at hf72_2);clear hcl72 hcc72 hfr72 hM72) | ((with_reducible refine gate_store (t:=3) (p:=65) rfl ?_);refine store_event (t:=3) (p:=65) (v:=?vo_w73) (w1:=(w71.setCell ⟨go64,(t20 : Int).toNat * 4 + 2,none⟩ (.int .i64 t33))) ?hg ?ho ?hn ?hr ?_;(case ho=>rfl);(case hg=>rfl);(case hn=>rfl);(case hr=>first | (go_simp;done) | (go_simp;rfl));intro w73 hw;have hg : w71.grownBy w73 (some go64):=(by rw [hw];exact HP72.2);have hp_ : Kd.R k47 47 w73 w.heap.size (fun _=>True) (.slice (some ⟨go64,0,none⟩) x5_15.length co65) y35:=(by rw [hw,Ny35.out];exact HP72.1);clear HP72;have n0_:=a0_ (hp_);have n1_:=a0_ (Kd.R_over' (v:=(.slice (some ⟨go64,0,none⟩) x5_15.length co65)) (rr_ Z7.out) (Kd.R_typed HO_5.out) (by decide) hg);have n2_:=a0_ (blk_grown (bb_ BK1.out) hg (Kd.R_ne HO_5.out BK1.out (by decide)));have n3_:=a0_ (blk_grown (bb_ BK6.out) hg (Kd.R_ne HO_5.out BK6.out (by decide)));have n4_:=a0_ (IsS81.grown is0_ hg (IsS81.own_ne HI0.out HO_5.out (by decide)));have n5_:=a0_ (Kd.R_over' (v:=(.slice (some ⟨go64,0,none⟩) x5_15.length co65)) (rr_ HO32.out) (Kd.R_typed HO_5.out) (by decide) hg);have n6_:=a0_ ((by rw [hw];exact below_set (HB.out) (Nat.le_trans HL.out GB64.out) : Below w0.heap.size w0 w73));have n7_:=a0_ (KeepBut.trans (w:=w) hk_ (KeepBut.of_grown hg g) (Kd.R_base2 HO_5.out));clear HO_5 Z7;clear BK1 BK6;clear HI0 HO32;clear HB HK;have HO_5:=n0_;have Z7:=n1_;have BK1:=n2_;have BK6:=n3_;have HI0:=n4_;have HO32:=n5_;have HB:=n6_;have HK:=n7_;clear n0_ n1_ n2_ n3_ n4_ n5_ n6_ n7_;clear hg hw hp_;have hnb74:=NB6_1.out;have hnc74:=NB1_6.out;have hnb75:=NB6_0.out;have hnc75:=NB0_6.out;have hcz76_0 : w73.cell? ⟨gb6,0,none⟩ = some (.slice Ao20 t2.length co20):=(blk_cell BK6.out 0).trans rfl;have hfz76_0:=blk_frozen BK6.out 0;have hnb77:=NB1_0.out;have hnc77:=NB0_1.out;have hcz78_0 : w73.cell? ⟨gb1,0,none⟩ = some (.slice none 0 0):=(blk_cell BK1.out 0).trans rfl;have hfz78_0:=blk_frozen BK1.out 0))
        refine bodyPost_ret (results_ct rfl _ _ gb1 25 #[.slice Ao20 t2.length co20] (0,0) _ rfl (by (with_reducible repeat (first | refine blk_drewN ?_ _ | refine blk_drew ?_ | refine blk_alloc ?_ _));refine blk_put (cs:=#[.slice none 0 0]) ?_ 0 _ rfl;(with_reducible repeat (first | refine blk_drewN ?_ _ | refine blk_drew ?_ | refine blk_alloc ?_ _));exact BK1.out) Try.underlying25 rfl (by kernel_rfl)) rfl ?_
        exact ⟨_,_,by first | rfl | (simp [errW_none,errW_some] <;> rfl) | (simp [*,errW_none,errW_some] <;> rfl),by (with_reducible repeat (first | apply Kd.R_alloc | apply Kd.R_drewN | apply Kd.R_drew));exact Kd.R_mono (Kd.R_far (p:=⟨gb1,0,none⟩) (Kd.R_types Z7.out BK1.out (by decide)) (fun _ hk=>hk.2) (.slice Ao20 t2.length co20)) (fun _ hk=>trivial),by (with_reducible repeat (first | apply Kd.R_alloc | apply Kd.R_drewN | apply Kd.R_drew));exact Kd.R_mono (Kd.R_far (p:=⟨gb1,0,none⟩) (Kd.R_types HO_5.out BK1.out (by decide)) (fun _ hk=>hk.2) (.slice Ao20 t2.length co20)) (fun _ hk=>trivial),is0_,hbi0_,hk_⟩
       ·rw [if_neg c63] at H
        exact absurd H (by simp)
      ·rw [if_neg c62] at H
       exact absurd H (by simp)
     ·rw [if_neg c60] at H
      have c60b0 : (t22 == 1) = false:=beq_eq_false_iff_ne.mpr c60
      have c60b1 : (t22 != 1) = true:=bne_iff_ne.mpr c60
      by_cases c79 : t22 = 2
      ·rw [if_pos c79] at H
       have c79b0 : (t22 == 2) = true:=beq_iff_eq.mpr c79
       have c79b1 : (t22 != 2) = false:=bne_eq_false_iff_eq.mpr c79
       clear c79
       obtain ⟨y36,hy36⟩ : ∃ y_ : List Int,y_ = (([(-1),100] : List Int)):=⟨_,rfl⟩
       replace H : ((spec_reader_one.f kj15 s0_0 t23 y36).bind fun bt39=>(if 0 ≤ t20 then (if t20 < (x5_15.length : Int) then (some (t2,(x5_15.set (t20 : Int).toNat (⟨(rd_T47 x5_15 t20).f0,(rd_T47 x5_15 t20).f1,(rd_T47 x5_15 t20).f2,bt39.1⟩ : S47)),bt39.2)) else (none)) else (none))) = some (r1,r2,r3):=by first | (rw [hy36];with_reducible exact H) | (have H2_:=(Option.bind_some _ _).symm.trans H;rw [hy36];with_reducible exact H2_) | (have H2_:=(Option.bind_some _ _).symm.trans H;with_reducible exact H2_) | with_reducible exact H | (rw [hy36];exact H) | exact H
       have Ny36:=a0_ hy36
       clear hy36
       replace H:=Option.bind_eq_some_iff.mp H
       obtain ⟨⟨t39,t40⟩,A800,H⟩:=H
       try dsimp only at H
       have A80:=a0_ A800
       clear A800
       by_cases c81 : 0 ≤ t20
       ·rw [if_pos c81] at H
        have c81b0 : decide (0 ≤ t20) = true:=decide_eq_true c81
        clear c81
        by_cases c82 : t20 < (x5_15.length : Int)
        ·rw [if_pos c82] at H
         have c82b0 : decide (t20 < (x5_15.length : Int)) = true:=decide_eq_true c82
         clear c82
         obtain ⟨y41,hy41⟩ : ∃ y_ : List (S47),y_ = (x5_15.set (t20 : Int).toNat (⟨(rd_T47 x5_15 t20).f0,(rd_T47 x5_15 t20).f1,(rd_T47 x5_15 t20).f2,t39⟩ : S47)):=⟨_,rfl⟩
         replace H : (some (t2,y41,t40)) = some (r1,r2,r3):=by first | (rw [hy41];with_reducible exact H) | (have H2_:=(Option.bind_some _ _).symm.trans H;rw [hy41];with_reducible exact H2_) | (have H2_:=(Option.bind_some _ _).symm.trans H;with_reducible exact H2_) | with_reducible exact H | (rw [hy41];exact H) | exact H
         have Ny41:=a0_ hy41
         clear hy41
         simp only [Option.some.injEq,Prod.mk.injEq] at H
         obtain ⟨rfl,rfl,rfl⟩:=H
         obtain ⟨Ao84,co84,eo84⟩:=Kd.R_slice HO_5.out
         subst eo84
         go_wp2_with (first | ((with_reducible refine gate_callee (f:=63) rfl ?_);refine goesL_ (some 45) rfl rfl Try.func63 (by kernel_rfl) rfl #[.pointer (some ⟨g,0,none⟩),.int .i64 (x5_15.length : Int)] rfl lm_ ?_;(with_reducible refine (spec_reader_pick.calls kj15 g s0_0 x1001_15 (x5_15.length : Int) t20 t21 w0 _ ?side1 ?side2 A39.out).mono ?_);(case side1=>exact is0_);(case side2=>exact hbi0_);rintro e w85 ⟨rfl,hi,hb,hk⟩;refine ⟨_,rfl,?_⟩;replace HO_5:=a0_ (Kd.R_mono (Kd.R_keep (IsS81.apart (is0_ : IsS81 w0 _ g s0_0 x1001_15) (rr_ HO_5.out) (by decide)) hk (fun _ h=>h.2)) (fun _ h=>h.1));replace Z7:=a0_ (Kd.R_mono (Kd.R_keep (IsS81.apart (is0_ : IsS81 w0 _ g s0_0 x1001_15) (rr_ Z7.out) (by decide)) hk (fun _ h=>h.2)) (fun _ h=>h.1));replace BK1:=kk_ hk BK1 NB1_0;replace BK6:=kk_ hk BK6 NB6_0;replace HK:=a0_ (KeepBut.trans (w:=w) hk_ hk (.inl rfl));replace HI0:=a0_ (hi);replace HB:=a0_ (hb);(try clear hb);(try clear hb2);(try clear hk);(try clear hi)) | ((with_reducible refine gate_callee (f:=63) rfl ?_);refine goesL_ (some 47) rfl rfl Try.func63 (by kernel_rfl) rfl #[.pointer (some ⟨g,0,none⟩),.int .i64 24] rfl lm_ ?_;(with_reducible refine (spec_reader_pick.calls kj15 g s0_0 t21 24 t22 t23 w0 _ ?side1 ?side2 A40.out).mono ?_);(case side1=>exact is0_);(case side2=>exact hbi0_);rintro e w86 ⟨rfl,hi,hb,hk⟩;refine ⟨_,rfl,?_⟩;replace HO_5:=a0_ (Kd.R_mono (Kd.R_keep (IsS81.apart (is0_ : IsS81 w0 _ g s0_0 t21) (rr_ HO_5.out) (by decide)) hk (fun _ h=>h.2)) (fun _ h=>h.1));replace Z7:=a0_ (Kd.R_mono (Kd.R_keep (IsS81.apart (is0_ : IsS81 w0 _ g s0_0 t21) (rr_ Z7.out) (by decide)) hk (fun _ h=>h.2)) (fun _ h=>h.1));replace BK1:=kk_ hk BK1 NB1_0;replace BK6:=kk_ hk BK6 NB6_0;replace HK:=a0_ (KeepBut.trans (w:=w) hk_ hk (.inl rfl));replace HI0:=a0_ (hi);replace HB:=a0_ (hb);(try clear hb);(try clear hb2);(try clear hk);(try clear hi)) | ((with_reducible refine gate_dst (N:=71) rfl ?_);refine Kd.R_lit (Kd.int .i64) _ 3 ?hg (N:=71) ?hd (xs:=([(-1),100] : List Int)) (inner:=[.int .i64 (-1),.int .i64 100]) (ok:=fun _=>True) (okp:=fun _=>True) ?hr ?hp (fun _ hk=>hk) trivial (Below.refl _ _) (Nat.le_refl _) (by simp) ?_;(case hd=>rfl);(case hg=>rfl);(case hr=>first | (go_simp;done) | (go_simp;rfl));(case hp=>exact (Reps.one (show Kd.M (Kd.int .i64) _ _ _ (-1) [.int .i64 (-1)] from rfl) (Reps.one (show Kd.M (Kd.int .i64) _ _ _ 100 [.int .i64 100] from rfl) (Reps.none _ _))));intro v37 w87 ho88 hb hg_ hnew_;clear hg_ hnew_;(first | rw [← Ny36.out] at ho88 | (simp only [Int.reduceToNat] at ho88;rw [← Ny36.out] at ho88));have n0_:=rb_ HO_5 hb;have n1_:=rb_ Z7 hb;have n2_:=a0_ (Kd.R_lower ho88 (keep_size (w:=w) (g:=g) (row:=none) hk_));have n3_:=kb_ BK1 hb;have n4_:=kb_ BK6 hb;have n5_:=a0_ (IsS81.below is0_ hb);have n6_:=a0_ (KeepBut.trans (w:=w) hk_ (KeepBut.of_below hb g none) (.inl rfl));have n7_:=a0_ (below_step hbi0_ hb);clear HO_5 Z7;clear BK1 BK6;clear HI0 HK HB;have HO_5:=n0_;have Z7:=n1_;have HO38:=n2_;have BK1:=n3_;have BK6:=n4_;have HI0:=n5_;have HK:=n6_;have HB:=n7_;clear n0_ n1_ n2_ n3_ n4_ n5_ n6_ n7_;clear hb ho88;obtain ⟨Ao89,co89,eo89⟩:=Kd.R_slice HO38.out;subst eo89) | ((with_reducible refine gate_callee (f:=64) rfl ?_);refine goesL_ (some 72) rfl rfl Try.func64 (by kernel_rfl) rfl #[.pointer (some ⟨g,0,none⟩),.slice Ao89 y36.length co89] rfl lm_ ?_;(with_reducible refine (spec_reader_one.calls kj15 g s0_0 t23 _ _ y36 t39 t40 w0 _ ?side1 ?side2 ?side3 ?side4 ?side5 A80.out).mono ?_);(case side1=>exact is0_);(case side2=>exact hbi0_);(case side3=>exact cc_ (Kd.R_reads' HO38.out).2.2);(case side4=>exact (Kd.R_reads' HO38.out).2.1);(case side5=>exact far_slice (IsS81.own_ne HI0.out HO38.out (by decide)));rintro e w90 ⟨rfl,hi,hb,hk⟩;refine ⟨_,rfl,?_⟩;replace HO_5:=a0_ (Kd.R_mono (Kd.R_keep (IsS81.apart (is0_ : IsS81 w0 _ g s0_0 t23) (rr_ HO_5.out) (by decide)) hk (fun _ h=>h.2)) (fun _ h=>h.1));replace Z7:=a0_ (Kd.R_mono (Kd.R_keep (IsS81.apart (is0_ : IsS81 w0 _ g s0_0 t23) (rr_ Z7.out) (by decide)) hk (fun _ h=>h.2)) (fun _ h=>h.1));replace BK1:=kk_ hk BK1 NB1_0;replace BK6:=kk_ hk BK6 NB6_0;replace HO38:=a0_ (Kd.R_mono (Kd.R_keep (IsS81.apart (is0_ : IsS81 w0 _ g s0_0 t23) (rr_ HO38.out) (by decide)) hk (fun _ h=>h.2)) (fun _ h=>h.1));replace HK:=a0_ (KeepBut.trans (w:=w) hk_ hk (.inl rfl));replace HI0:=a0_ (hi);replace HB:=a0_ (hb);(try clear hb);have p83 : 0 ≤ (t20 : Int):=of_decide_eq_true (by first | (with_reducible assumption) | assumption);have q83 : (t20 : Int) < ((x5_15.length : Int) : Int):=of_decide_eq_true (by first | (with_reducible assumption) | assumption);obtain ⟨go83,co83,eo83,gb83,gl83,cl83,HG83⟩:=Kd.R_form HO_5.out (by omega);(first | cases eo83 | (injection eo83 with ea_ en_ ec_;(first | subst ea_ | (injection ea_ with ea_;subst ea_));subst ec_;clear en_));have GB83:=a0_ gb83;have GG83:=a0_ HG83;clear gb83 gl83 HG83;obtain ⟨ce83,hcl83,hM83,hcc83,hfr83⟩:=Kd.R_elem HO_5.out z47 (t20 : Int) p83 q83;obtain rfl:=k47_openM hM83;have hx83_0 : w90.cell? ⟨go83,(t20 : Int).toNat * 4,none⟩ = some (.int .i64 ((rd_T47 x5_15 t20).f0)):=hcc83 0 _ rfl;have hx83_1 : w90.cell? ⟨go83,(t20 : Int).toNat * 4 + 1,none⟩ = some (.bool ((rd_T47 x5_15 t20).f1)):=hcc83 1 _ rfl;have hx83_2 : w90.cell? ⟨go83,(t20 : Int).toNat * 4 + 2,none⟩ = some (.int .i64 ((rd_T47 x5_15 t20).f2)):=hcc83 2 _ rfl;have hx83_3 : w90.cell? ⟨go83,(t20 : Int).toNat * 4 + 3,none⟩ = some (.int .i64 ((rd_T47 x5_15 t20).f3)):=hcc83 3 _ rfl;have hf83_0 : w90.frozen? ⟨go83,(t20 : Int).toNat * 4,none⟩ = false:=hfr83 0;have hf83_1 : w90.frozen? ⟨go83,(t20 : Int).toNat * 4 + 1,none⟩ = false:=hfr83 1;have hf83_2 : w90.frozen? ⟨go83,(t20 : Int).toNat * 4 + 2,none⟩ = false:=hfr83 2;have hf83_3 : w90.frozen? ⟨go83,(t20 : Int).toNat * 4 + 3,none⟩ = false:=hfr83 3;clear hcl83 hcc83 hfr83 hM83;replace p83:=eq_true p83;replace q83:=eq_true q83;have HX91:=a0_ (show Kd.R k47 47 w90 w.heap.size (fun _=>True) (.slice (some ⟨go83,0,none⟩) x5_15.length co84) x5_15 from (rr_ HO_5.out));obtain ⟨ce91,hcl91,hM91,hcc91,hfr91⟩:=Kd.R_elem HX91.out z47 (t20 : Int) (of_decide_eq_true (by first | (with_reducible assumption) | assumption)) (by have h_ : (t20 : Int) < ((x5_15.length : Int) : Int):=of_decide_eq_true (by first | (with_reducible assumption) | assumption);first | exact h_ | (have e_:=(Kd.R_reads' HO_5.out).1;omega) | simpa using h_);obtain rfl:=k47_openM hM91;have HP91:=Kd.R_seg HX91.out (t20 : Int) (of_decide_eq_true (by first | (with_reducible assumption) | assumption)) (by have h_ : (t20 : Int) < ((x5_15.length : Int) : Int):=of_decide_eq_true (by first | (with_reducible assumption) | assumption);first | exact h_ | (have e_:=(Kd.R_reads' HO_5.out).1;omega) | simpa using h_) (seg:=[.int .i64 t39]) (j:=3) hcl91 hcc91 (show 4 ≤ 4 from by decide) (x':=(⟨(rd_T47 x5_15 t20).f0,(rd_T47 x5_15 t20).f1,(rd_T47 x5_15 t20).f2,t39⟩ : S47)) (k47_mkM _ _ _ (⟨(rd_T47 x5_15 t20).f0,(rd_T47 x5_15 t20).f1,(rd_T47 x5_15 t20).f2,t39⟩ : S47) ) (fun _ hk=>hk);have hx91_3:=hcc91 3 _ rfl;(try simp only [show (k47).sz = 4 from rfl,Nat.mul_one,Nat.add_zero] at hx91_3);have hf91_3:=hfr91 3;(try simp only [show (k47).sz = 4 from rfl,Nat.mul_one,Nat.add_zero] at hf91_3);clear hcl91 hcc91 hfr91 hM91) | ((with_reducible refine gate_store (t:=3) (p:=74) rfl ?_);refine store_event (t:=3) (p:=74) (v:=?vo_w92) (w1:=(w90.setCell ⟨go83,(t20 : Int).toNat * 4 + 3,none⟩ (.int .i64 t39))) ?hg ?ho ?hn ?hr ?_;(case ho=>rfl);(case hg=>rfl);(case hn=>rfl);(case hr=>first | (go_simp;done) | (go_simp;rfl));intro w92 hw;have hg : w90.grownBy w92 (some go83):=(by rw [hw];exact HP91.2);have hp_ : Kd.R k47 47 w92 w.heap.size (fun _=>True) (.slice (some ⟨go83,0,none⟩) x5_15.length co84) y41:=(by rw [hw,Ny41.out];exact HP91.1);clear HP91;have n0_:=a0_ (hp_);have n1_:=a0_ (Kd.R_over' (v:=(.slice (some ⟨go83,0,none⟩) x5_15.length co84)) (rr_ Z7.out) (Kd.R_typed HO_5.out) (by decide) hg);have n2_:=a0_ (blk_grown (bb_ BK1.out) hg (Kd.R_ne HO_5.out BK1.out (by decide)));have n3_:=a0_ (blk_grown (bb_ BK6.out) hg (Kd.R_ne HO_5.out BK6.out (by decide)));have n4_:=a0_ (IsS81.grown is0_ hg (IsS81.own_ne HI0.out HO_5.out (by decide)));have n5_:=a0_ (Kd.R_over' (v:=(.slice (some ⟨go83,0,none⟩) x5_15.length co84)) (rr_ HO38.out) (Kd.R_typed HO_5.out) (by decide) hg);have n6_:=a0_ ((by rw [hw];exact below_set (HB.out) (Nat.le_trans HL.out GB83.out) : Below w0.heap.size w0 w92));have n7_:=a0_ (KeepBut.trans (w:=w) hk_ (KeepBut.of_grown hg g) (Kd.R_base2 HO_5.out));clear HO_5 Z7;clear BK1 BK6;clear HI0 HO38;clear HB HK;have HO_5:=n0_;have Z7:=n1_;have BK1:=n2_;have BK6:=n3_;have HI0:=n4_;have HO38:=n5_;have HB:=n6_;have HK:=n7_;clear n0_ n1_ n2_ n3_ n4_ n5_ n6_ n7_;clear hg hw hp_;have hnb93:=NB6_1.out;have hnc93:=NB1_6.out;have hnb94:=NB6_0.out;have hnc94:=NB0_6.out;have hcz95_0 : w92.cell? ⟨gb6,0,none⟩ = some (.slice Ao20 t2.length co20):=(blk_cell BK6.out 0).trans rfl;have hfz95_0:=blk_frozen BK6.out 0;have hnb96:=NB1_0.out;have hnc96:=NB0_1.out;have hcz97_0 : w92.cell? ⟨gb1,0,none⟩ = some (.slice none 0 0):=(blk_cell BK1.out 0).trans rfl;have hfz97_0:=blk_frozen BK1.out 0))
         refine bodyPost_ret (results_ct rfl _ _ gb1 25 #[.slice Ao20 t2.length co20] (0,0) _ rfl (by (with_reducible repeat (first | refine blk_drewN ?_ _ | refine blk_drew ?_ | refine blk_alloc ?_ _));refine blk_put (cs:=#[.slice none 0 0]) ?_ 0 _ rfl;(with_reducible repeat (first | refine blk_drewN ?_ _ | refine blk_drew ?_ | refine blk_alloc ?_ _));exact BK1.out) Try.underlying25 rfl (by kernel_rfl)) rfl ?_
         exact ⟨_,_,by first | rfl | (simp [errW_none,errW_some] <;> rfl) | (simp [*,errW_none,errW_some] <;> rfl),by (with_reducible repeat (first | apply Kd.R_alloc | apply Kd.R_drewN | apply Kd.R_drew));exact Kd.R_mono (Kd.R_far (p:=⟨gb1,0,none⟩) (Kd.R_types Z7.out BK1.out (by decide)) (fun _ hk=>hk.2) (.slice Ao20 t2.length co20)) (fun _ hk=>trivial),by (with_reducible repeat (first | apply Kd.R_alloc | apply Kd.R_drewN | apply Kd.R_drew));exact Kd.R_mono (Kd.R_far (p:=⟨gb1,0,none⟩) (Kd.R_types HO_5.out BK1.out (by decide)) (fun _ hk=>hk.2) (.slice Ao20 t2.length co20)) (fun _ hk=>trivial),is0_,hbi0_,hk_⟩
        ·rw [if_neg c82] at H
         exact absurd H (by simp)
       ·rw [if_neg c81] at H
        exact absurd H (by simp)
      ·rw [if_neg c79] at H
       have c79b0 : (t22 == 2) = false:=beq_eq_false_iff_ne.mpr c79
       have c79b1 : (t22 != 2) = true:=bne_iff_ne.mpr c79
       by_cases c98 : t22 = 3
       ·rw [if_pos c98] at H
        have c98b0 : (t22 == 3) = true:=beq_iff_eq.mpr c98
        have c98b1 : (t22 != 3) = false:=bne_eq_false_iff_eq.mpr c98
        clear c98
        by_cases c99 : 0 ≤ t20
        ·rw [if_pos c99] at H
         have c99b0 : decide (0 ≤ t20) = true:=decide_eq_true c99
         clear c99
         by_cases c100 : t20 < (x5_15.length : Int)
         ·rw [if_pos c100] at H
          have c100b0 : decide (t20 < (x5_15.length : Int)) = true:=decide_eq_true c100
          clear c100
          obtain ⟨y43,hy43⟩ : ∃ y_ : List (S47),y_ = (x5_15.set (t20 : Int).toNat (⟨(rd_T47 x5_15 t20).f0,!((rd_T47 x5_15 t20).f1),(rd_T47 x5_15 t20).f2,(rd_T47 x5_15 t20).f3⟩ : S47)):=⟨_,rfl⟩
          replace H : (some (t2,y43,t23)) = some (r1,r2,r3):=by first | (rw [hy43];with_reducible exact H) | (have H2_:=(Option.bind_some _ _).symm.trans H;rw [hy43];with_reducible exact H2_) | (have H2_:=(Option.bind_some _ _).symm.trans H;with_reducible exact H2_) | with_reducible exact H | (rw [hy43];exact H) | exact H
          have Ny43:=a0_ hy43
          clear hy43
          simp only [Option.some.injEq,Prod.mk.injEq] at H
          obtain ⟨rfl,rfl,rfl⟩:=H
          obtain ⟨Ao102,co102,eo102⟩:=Kd.R_slice HO_5.out
          subst eo102
          go_wp2_with (first | ((with_reducible refine gate_callee (f:=63) rfl ?_);refine goesL_ (some 45) rfl rfl Try.func63 (by kernel_rfl) rfl #[.pointer (some ⟨g,0,none⟩),.int .i64 (x5_15.length : Int)] rfl lm_ ?_;(with_reducible refine (spec_reader_pick.calls kj15 g s0_0 x1001_15 (x5_15.length : Int) t20 t21 w0 _ ?side1 ?side2 A39.out).mono ?_);(case side1=>exact is0_);(case side2=>exact hbi0_);rintro e w103 ⟨rfl,hi,hb,hk⟩;refine ⟨_,rfl,?_⟩;replace HO_5:=a0_ (Kd.R_mono (Kd.R_keep (IsS81.apart (is0_ : IsS81 w0 _ g s0_0 x1001_15) (rr_ HO_5.out) (by decide)) hk (fun _ h=>h.2)) (fun _ h=>h.1));replace Z7:=a0_ (Kd.R_mono (Kd.R_keep (IsS81.apart (is0_ : IsS81 w0 _ g s0_0 x1001_15) (rr_ Z7.out) (by decide)) hk (fun _ h=>h.2)) (fun _ h=>h.1));replace BK1:=kk_ hk BK1 NB1_0;replace BK6:=kk_ hk BK6 NB6_0;replace HK:=a0_ (KeepBut.trans (w:=w) hk_ hk (.inl rfl));replace HI0:=a0_ (hi);replace HB:=a0_ (hb);(try clear hb);(try clear hb2);(try clear hk);(try clear hi)) | ((with_reducible refine gate_callee (f:=63) rfl ?_);refine goesL_ (some 47) rfl rfl Try.func63 (by kernel_rfl) rfl #[.pointer (some ⟨g,0,none⟩),.int .i64 24] rfl lm_ ?_;(with_reducible refine (spec_reader_pick.calls kj15 g s0_0 t21 24 t22 t23 w0 _ ?side1 ?side2 A40.out).mono ?_);(case side1=>exact is0_);(case side2=>exact hbi0_);rintro e w104 ⟨rfl,hi,hb,hk⟩;refine ⟨_,rfl,?_⟩;replace HO_5:=a0_ (Kd.R_mono (Kd.R_keep (IsS81.apart (is0_ : IsS81 w0 _ g s0_0 t21) (rr_ HO_5.out) (by decide)) hk (fun _ h=>h.2)) (fun _ h=>h.1));replace Z7:=a0_ (Kd.R_mono (Kd.R_keep (IsS81.apart (is0_ : IsS81 w0 _ g s0_0 t21) (rr_ Z7.out) (by decide)) hk (fun _ h=>h.2)) (fun _ h=>h.1));replace BK1:=kk_ hk BK1 NB1_0;replace BK6:=kk_ hk BK6 NB6_0;replace HK:=a0_ (KeepBut.trans (w:=w) hk_ hk (.inl rfl));replace HI0:=a0_ (hi);replace HB:=a0_ (hb);(try clear hb);have p42 : 0 ≤ (t20 : Int):=of_decide_eq_true (by first | (with_reducible assumption) | assumption);have q42 : t20 < (x5_15.length : Int):=of_decide_eq_true (by first | (with_reducible assumption) | assumption);obtain ⟨ad42,e42,hx42_0,hx42_1,hx42_2,hx42_3⟩:=at_T47 (Kd.R_reads' HO_5.out).2.2 t20 p42 q42;cases e42;replace p42:=eq_true p42;replace q42:=eq_true q42;have p101 : 0 ≤ (t20 : Int):=of_decide_eq_true (by first | (with_reducible assumption) | assumption);have q101 : (t20 : Int) < ((x5_15.length : Int) : Int):=of_decide_eq_true (by first | (with_reducible assumption) | assumption);obtain ⟨go101,co101,eo101,gb101,gl101,cl101,HG101⟩:=Kd.R_form HO_5.out (by omega);(first | cases eo101 | (injection eo101 with ea_ en_ ec_;(first | subst ea_ | (injection ea_ with ea_;subst ea_));subst ec_;clear en_));have GB101:=a0_ gb101;have GG101:=a0_ HG101;clear gb101 gl101 HG101;(first | simp only [add_plain] at hx42_0 | skip);(first | simp only [add_plain] at hx42_1 | skip);(first | simp only [add_plain] at hx42_2 | skip);(first | simp only [add_plain] at hx42_3 | skip);obtain ⟨ce101,hcl101,hM101,hcc101,hfr101⟩:=Kd.R_elem HO_5.out z47 (t20 : Int) p101 q101;obtain rfl:=k47_openM hM101;have hx101_0 : w104.cell? ⟨go101,(t20 : Int).toNat * 4,none⟩ = some (.int .i64 ((rd_T47 x5_15 t20).f0)):=hcc101 0 _ rfl;have hx101_1 : w104.cell? ⟨go101,(t20 : Int).toNat * 4 + 1,none⟩ = some (.bool ((rd_T47 x5_15 t20).f1)):=hcc101 1 _ rfl;have hx101_2 : w104.cell? ⟨go101,(t20 : Int).toNat * 4 + 2,none⟩ = some (.int .i64 ((rd_T47 x5_15 t20).f2)):=hcc101 2 _ rfl;have hx101_3 : w104.cell? ⟨go101,(t20 : Int).toNat * 4 + 3,none⟩ = some (.int .i64 ((rd_T47 x5_15 t20).f3)):=hcc101 3 _ rfl;have hf101_0 : w104.frozen? ⟨go101,(t20 : Int).toNat * 4,none⟩ = false:=hfr101 0;have hf101_1 : w104.frozen? ⟨go101,(t20 : Int).toNat * 4 + 1,none⟩ = false:=hfr101 1;have hf101_2 : w104.frozen? ⟨go101,(t20 : Int).toNat * 4 + 2,none⟩ = false:=hfr101 2;have hf101_3 : w104.frozen? ⟨go101,(t20 : Int).toNat * 4 + 3,none⟩ = false:=hfr101 3;clear hcl101 hcc101 hfr101 hM101;replace p101:=eq_true p101;replace q101:=eq_true q101;have HX105:=a0_ (show Kd.R k47 47 w104 w.heap.size (fun _=>True) (.slice (some ⟨go101,0,none⟩) x5_15.length co102) x5_15 from (rr_ HO_5.out));obtain ⟨ce105,hcl105,hM105,hcc105,hfr105⟩:=Kd.R_elem HX105.out z47 (t20 : Int) (of_decide_eq_true (by first | (with_reducible assumption) | assumption)) (by have h_ : (t20 : Int) < ((x5_15.length : Int) : Int):=of_decide_eq_true (by first | (with_reducible assumption) | assumption);first | exact h_ | (have e_:=(Kd.R_reads' HO_5.out).1;omega) | simpa using h_);obtain rfl:=k47_openM hM105;have HP105:=Kd.R_seg HX105.out (t20 : Int) (of_decide_eq_true (by first | (with_reducible assumption) | assumption)) (by have h_ : (t20 : Int) < ((x5_15.length : Int) : Int):=of_decide_eq_true (by first | (with_reducible assumption) | assumption);first | exact h_ | (have e_:=(Kd.R_reads' HO_5.out).1;omega) | simpa using h_) (seg:=[.bool (!((rd_T47 x5_15 t20).f1))]) (j:=1) hcl105 hcc105 (show 2 ≤ 4 from by decide) (x':=(⟨(rd_T47 x5_15 t20).f0,!((rd_T47 x5_15 t20).f1),(rd_T47 x5_15 t20).f2,(rd_T47 x5_15 t20).f3⟩ : S47)) (k47_mkM _ _ _ (⟨(rd_T47 x5_15 t20).f0,!((rd_T47 x5_15 t20).f1),(rd_T47 x5_15 t20).f2,(rd_T47 x5_15 t20).f3⟩ : S47) ) (fun _ hk=>hk);have hx105_1:=hcc105 1 _ rfl;(try simp only [show (k47).sz = 4 from rfl,Nat.mul_one,Nat.add_zero] at hx105_1);have hf105_1:=hfr105 1;(try simp only [show (k47).sz = 4 from rfl,Nat.mul_one,Nat.add_zero] at hf105_1);clear hcl105 hcc105 hfr105 hM105) | ((with_reducible refine gate_store (t:=4) (p:=86) rfl ?_);refine store_event (t:=4) (p:=86) (v:=?vo_w106) (w1:=(w104.setCell ⟨go101,(t20 : Int).toNat * 4 + 1,none⟩ (.bool (!((rd_T47 x5_15 t20).f1))))) ?hg ?ho ?hn ?hr ?_;(case ho=>rfl);(case hg=>rfl);(case hn=>rfl);(case hr=>first | (go_simp;done) | (go_simp;rfl));intro w106 hw;have hg : w104.grownBy w106 (some go101):=(by rw [hw];exact HP105.2);have hp_ : Kd.R k47 47 w106 w.heap.size (fun _=>True) (.slice (some ⟨go101,0,none⟩) x5_15.length co102) y43:=(by rw [hw,Ny43.out];exact HP105.1);clear HP105;have n0_:=a0_ (hp_);have n1_:=a0_ (Kd.R_over' (v:=(.slice (some ⟨go101,0,none⟩) x5_15.length co102)) (rr_ Z7.out) (Kd.R_typed HO_5.out) (by decide) hg);have n2_:=a0_ (blk_grown (bb_ BK1.out) hg (Kd.R_ne HO_5.out BK1.out (by decide)));have n3_:=a0_ (blk_grown (bb_ BK6.out) hg (Kd.R_ne HO_5.out BK6.out (by decide)));have n4_:=a0_ (IsS81.grown is0_ hg (IsS81.own_ne HI0.out HO_5.out (by decide)));have n5_:=a0_ ((by rw [hw];exact below_set (HB.out) (Nat.le_trans HL.out GB101.out) : Below w0.heap.size w0 w106));have n6_:=a0_ (KeepBut.trans (w:=w) hk_ (KeepBut.of_grown hg g) (Kd.R_base2 HO_5.out));clear HO_5 Z7;clear BK1 BK6;clear HI0 HB HK;have HO_5:=n0_;have Z7:=n1_;have BK1:=n2_;have BK6:=n3_;have HI0:=n4_;have HB:=n5_;have HK:=n6_;clear n0_ n1_ n2_ n3_ n4_ n5_ n6_;clear hg hw hp_;have hnb107:=NB6_1.out;have hnc107:=NB1_6.out;have hnb108:=NB6_0.out;have hnc108:=NB0_6.out;have hcz109_0 : w106.cell? ⟨gb6,0,none⟩ = some (.slice Ao20 t2.length co20):=(blk_cell BK6.out 0).trans rfl;have hfz109_0:=blk_frozen BK6.out 0;have hnb110:=NB1_0.out;have hnc110:=NB0_1.out;have hcz111_0 : w106.cell? ⟨gb1,0,none⟩ = some (.slice none 0 0):=(blk_cell BK1.out 0).trans rfl;have hfz111_0:=blk_frozen BK1.out 0))
          refine bodyPost_ret (results_ct rfl _ _ gb1 25 #[.slice Ao20 t2.length co20] (0,0) _ rfl (by (with_reducible repeat (first | refine blk_drewN ?_ _ | refine blk_drew ?_ | refine blk_alloc ?_ _));refine blk_put (cs:=#[.slice none 0 0]) ?_ 0 _ rfl;(with_reducible repeat (first | refine blk_drewN ?_ _ | refine blk_drew ?_ | refine blk_alloc ?_ _));exact BK1.out) Try.underlying25 rfl (by kernel_rfl)) rfl ?_
          exact ⟨_,_,by first | rfl | (simp [errW_none,errW_some] <;> rfl) | (simp [*,errW_none,errW_some] <;> rfl),by (with_reducible repeat (first | apply Kd.R_alloc | apply Kd.R_drewN | apply Kd.R_drew));exact Kd.R_mono (Kd.R_far (p:=⟨gb1,0,none⟩) (Kd.R_types Z7.out BK1.out (by decide)) (fun _ hk=>hk.2) (.slice Ao20 t2.length co20)) (fun _ hk=>trivial),by (with_reducible repeat (first | apply Kd.R_alloc | apply Kd.R_drewN | apply Kd.R_drew));exact Kd.R_mono (Kd.R_far (p:=⟨gb1,0,none⟩) (Kd.R_types HO_5.out BK1.out (by decide)) (fun _ hk=>hk.2) (.slice Ao20 t2.length co20)) (fun _ hk=>trivial),is0_,hbi0_,hk_⟩
         ·rw [if_neg c100] at H
          exact absurd H (by simp)
        ·rw [if_neg c99] at H
         exact absurd H (by simp)
       ·rw [if_neg c98] at H
        have c98b0 : (t22 == 3) = false:=beq_eq_false_iff_ne.mpr c98
        have c98b1 : (t22 != 3) = true:=bne_iff_ne.mpr c98
        simp only [Option.some.injEq,Prod.mk.injEq] at H
        obtain ⟨rfl,rfl,rfl⟩:=H
        obtain ⟨Ao112,co112,eo112⟩:=Kd.R_slice HO_5.out
        subst eo112
        go_wp2_with (first | ((with_reducible refine gate_callee (f:=63) rfl ?_);refine goesL_ (some 45) rfl rfl Try.func63 (by kernel_rfl) rfl #[.pointer (some ⟨g,0,none⟩),.int .i64 (x5_15.length : Int)] rfl lm_ ?_;(with_reducible refine (spec_reader_pick.calls kj15 g s0_0 x1001_15 (x5_15.length : Int) t20 t21 w0 _ ?side1 ?side2 A39.out).mono ?_);(case side1=>exact is0_);(case side2=>exact hbi0_);rintro e w113 ⟨rfl,hi,hb,hk⟩;refine ⟨_,rfl,?_⟩;replace HO_5:=a0_ (Kd.R_mono (Kd.R_keep (IsS81.apart (is0_ : IsS81 w0 _ g s0_0 x1001_15) (rr_ HO_5.out) (by decide)) hk (fun _ h=>h.2)) (fun _ h=>h.1));replace Z7:=a0_ (Kd.R_mono (Kd.R_keep (IsS81.apart (is0_ : IsS81 w0 _ g s0_0 x1001_15) (rr_ Z7.out) (by decide)) hk (fun _ h=>h.2)) (fun _ h=>h.1));replace BK1:=kk_ hk BK1 NB1_0;replace BK6:=kk_ hk BK6 NB6_0;replace HK:=a0_ (KeepBut.trans (w:=w) hk_ hk (.inl rfl));replace HI0:=a0_ (hi);replace HB:=a0_ (hb);(try clear hb);(try clear hb2);(try clear hk);(try clear hi)) | ((with_reducible refine gate_callee (f:=63) rfl ?_);refine goesL_ (some 47) rfl rfl Try.func63 (by kernel_rfl) rfl #[.pointer (some ⟨g,0,none⟩),.int .i64 24] rfl lm_ ?_;(with_reducible refine (spec_reader_pick.calls kj15 g s0_0 t21 24 t22 t23 w0 _ ?side1 ?side2 A40.out).mono ?_);(case side1=>exact is0_);(case side2=>exact hbi0_);rintro e w114 ⟨rfl,hi,hb,hk⟩;refine ⟨_,rfl,?_⟩;replace HO_5:=a0_ (Kd.R_mono (Kd.R_keep (IsS81.apart (is0_ : IsS81 w0 _ g s0_0 t21) (rr_ HO_5.out) (by decide)) hk (fun _ h=>h.2)) (fun _ h=>h.1));replace Z7:=a0_ (Kd.R_mono (Kd.R_keep (IsS81.apart (is0_ : IsS81 w0 _ g s0_0 t21) (rr_ Z7.out) (by decide)) hk (fun _ h=>h.2)) (fun _ h=>h.1));replace BK1:=kk_ hk BK1 NB1_0;replace BK6:=kk_ hk BK6 NB6_0;replace HK:=a0_ (KeepBut.trans (w:=w) hk_ hk (.inl rfl));replace HI0:=a0_ (hi);replace HB:=a0_ (hb);(try clear hb);have hnb115:=NB6_1.out;have hnc115:=NB1_6.out;have hnb116:=NB6_0.out;have hnc116:=NB0_6.out;have hcz117_0 : w114.cell? ⟨gb6,0,none⟩ = some (.slice Ao20 t2.length co20):=(blk_cell BK6.out 0).trans rfl;have hfz117_0:=blk_frozen BK6.out 0;have hnb118:=NB1_0.out;have hnc118:=NB0_1.out;have hcz119_0 : w114.cell? ⟨gb1,0,none⟩ = some (.slice none 0 0):=(blk_cell BK1.out 0).trans rfl;have hfz119_0:=blk_frozen BK1.out 0))
        refine bodyPost_ret (results_ct rfl _ _ gb1 25 #[.slice Ao20 t2.length co20] (0,0) _ rfl (by (with_reducible repeat (first | refine blk_drewN ?_ _ | refine blk_drew ?_ | refine blk_alloc ?_ _));refine blk_put (cs:=#[.slice none 0 0]) ?_ 0 _ rfl;(with_reducible repeat (first | refine blk_drewN ?_ _ | refine blk_drew ?_ | refine blk_alloc ?_ _));exact BK1.out) Try.underlying25 rfl (by kernel_rfl)) rfl ?_
        exact ⟨_,_,by first | rfl | (simp [errW_none,errW_some] <;> rfl) | (simp [*,errW_none,errW_some] <;> rfl),by (with_reducible repeat (first | apply Kd.R_alloc | apply Kd.R_drewN | apply Kd.R_drew));exact Kd.R_mono (Kd.R_far (p:=⟨gb1,0,none⟩) (Kd.R_types Z7.out BK1.out (by decide)) (fun _ hk=>hk.2) (.slice Ao20 t2.length co20)) (fun _ hk=>trivial),by (with_reducible repeat (first | apply Kd.R_alloc | apply Kd.R_drewN | apply Kd.R_drew));exact Kd.R_mono (Kd.R_far (p:=⟨gb1,0,none⟩) (Kd.R_types HO_5.out BK1.out (by decide)) (fun _ hk=>hk.2) (.slice Ao20 t2.length co20)) (fun _ hk=>trivial),is0_,hbi0_,hk_⟩
theorem spec_someGroup_j1 (b : List Int) (hb : byL b) (t : List Cls) (g : List Prt) (q : Int) (h0 : 0 ≤ q) (h1 : q ≤ 1099511600000) (hl : 1 ≤ g.length) : ∃ g' q',Ev (fun k=>spec_someGroup.j1 k g b q t) (t,g',q') ∧ q ≤ q' ∧ q' ≤ q + 3 ∧ g'.length = g.length:=by
 obtain ⟨x,hx,x0,x1,_⟩:=spec_pick_ev b q (g.length : Int) hb h0 (by omega)
 have x1:=x1 (by omega)
 obtain ⟨y,hy,y0,y1,_⟩:=spec_pick_ev b (q + 1) 24 hb (by omega) (by omega)
 by_cases c0 : y = 0
 ·obtain ⟨s,hs,_⟩:=spec_one_ev b (q + 1 + 1) [(-1),6,0,1] hb (by omega) (by omega) (by simp)
  refine ⟨g.set (x : Int).toNat ⟨s,(rd_T47 g x).f1,(rd_T47 g x).f2,(rd_T47 g x).f3⟩,q + 1 + 1 + 1,Ev.succ ?_,by omega,by omega,by rw [List.length_set]⟩
  simp only [spec_someGroup.j1]
  exact Ev.bind hx (Ev.bind hy (Ev.pos c0 (Ev.bind hs (Ev.pos x0 (Ev.pos x1 (Ev.const rfl))))))
 by_cases c1 : y = 1
 ·obtain ⟨s,hs,_⟩:=spec_one_ev b (q + 1 + 1) [(-1),8,1] hb (by omega) (by omega) (by simp)
  refine ⟨g.set (x : Int).toNat ⟨(rd_T47 g x).f0,(rd_T47 g x).f1,s,(rd_T47 g x).f3⟩,q + 1 + 1 + 1,Ev.succ ?_,by omega,by omega,by rw [List.length_set]⟩
  simp only [spec_someGroup.j1]
  exact Ev.bind hx (Ev.bind hy (Ev.neg c0 (Ev.pos c1 (Ev.bind hs (Ev.pos x0 (Ev.pos x1 (Ev.const rfl)))))))
 by_cases c2 : y = 2
 ·obtain ⟨s,hs,_⟩:=spec_one_ev b (q + 1 + 1) [(-1),100] hb (by omega) (by omega) (by simp)
  refine ⟨g.set (x : Int).toNat ⟨(rd_T47 g x).f0,(rd_T47 g x).f1,(rd_T47 g x).f2,s⟩,q + 1 + 1 + 1,Ev.succ ?_,by omega,by omega,by rw [List.length_set]⟩
  simp only [spec_someGroup.j1]
  exact Ev.bind hx (Ev.bind hy (Ev.neg c0 (Ev.neg c1 (Ev.pos c2 (Ev.bind hs (Ev.pos x0 (Ev.pos x1 (Ev.const rfl))))))))
 by_cases c3 : y = 3
 ·refine ⟨g.set (x : Int).toNat ⟨(rd_T47 g x).f0,!((rd_T47 g x).f1),(rd_T47 g x).f2,(rd_T47 g x).f3⟩,q + 1 + 1,Ev.succ ?_,by omega,by omega,by rw [List.length_set]⟩
  simp only [spec_someGroup.j1]
  exact Ev.bind hx (Ev.bind hy (Ev.neg c0 (Ev.neg c1 (Ev.neg c2 (Ev.pos c3 (Ev.pos x0 (Ev.pos x1 (Ev.const rfl))))))))
 ·refine ⟨g,q + 1 + 1,Ev.succ ?_,by omega,by omega,rfl⟩
  simp only [spec_someGroup.j1]
  exact Ev.bind hx (Ev.bind hy (Ev.neg c0 (Ev.neg c1 (Ev.neg c2 (Ev.neg c3 (Ev.const rfl))))))
theorem spec_someGroup_l0 (b : List Int) (hb : byL b) (t : List Cls) (q : Int) (h0 : 0 ≤ q) (h1 : q ≤ 1099511600000) (n : Nat) (hn : 1 ≤ n) (hn2 : n ≤ 1000000) : ∀ (d i : Nat) (g : List Prt),i + d = n → g.length = n → ∃ g' q',Ev (fun k=>spec_someGroup.l0 k g (i : Int) b q t) (t,g',q') ∧ q ≤ q' ∧ q' ≤ q + 3 ∧ g'.length = n:=by
 intro d
 induction d with
 | zero =>
  intro i g hi hg
  obtain ⟨g',q',he,a1,a2,a3⟩:=spec_someGroup_j1 b hb t g q h0 h1 (by omega)
  refine ⟨g',q',Ev.succ ?_,a1,a2,by omega⟩
  simp only [spec_someGroup.l0]
  exact Ev.neg (by omega) he
 | succ d ih =>
  intro i g hi hg
  obtain ⟨g',q',he,a1,a2,a3⟩:=ih (i + 1) (g.set ((i : Int)).toNat ⟨wrap64 (((rd_T47 g (i : Int)).f0) - 2),(rd_T47 g (i : Int)).f1,(rd_T47 g (i : Int)).f2,(rd_T47 g (i : Int)).f3⟩) (by omega) (by rw [List.length_set];exact hg)
  refine ⟨g',q',Ev.succ ?_,a1,a2,a3⟩
  simp only [spec_someGroup.l0]
  rw [wrap_succ (i:=(i : Int)) (n:=n) (by omega) (by omega) (by omega)]
  exact Ev.pos (by omega) (Ev.pos (by omega) he)
theorem spec_someGroup_ev (b : List Int) (p : Int) (hb : byL b) (h0 : 0 ≤ p) (hp : p ≤ 1099511500000) : ∃ t g q,Ev (fun k=>spec_someGroup.f k b p) (t,g,q) ∧ p ≤ q ∧ q ≤ p + 400 ∧ t.length ≤ 8 ∧ smT t = true ∧ g.length ≤ 16:=by
 obtain ⟨t,q,ht,h1,h2,h3,h4⟩:=spec_someTree_ev b p hb h0 (by omega)
 have hs:=smT_mk h4
 by_cases hz : (t.length : Int) = 0
 ·exact ⟨t,_,q,Ev.bind ht (Ev.pos hz (Ev.const rfl)),by omega,by omega,h3,hs,by simp⟩
 obtain ⟨g,r,hg,a1,a2,a3,a4⟩:=spec_goodGroup_ev b hb t 3 0 q rfl (by omega) (by omega) (by rw [show cG 3 = 160 by decide];omega) (by decide)
 rw [show cG 3 = 160 by decide] at a2
 rw [show lG 3 = 40 by decide] at a4
 by_cases h16 : (g.length : Int) > 16
 ·obtain ⟨g2,r2,hg2,b1,b2,b3,b4⟩:=spec_goodGroup_ev b hb t 1 2 r rfl (by omega) (by omega) (by rw [show cG 1 = 16 by decide];omega) (by decide)
  rw [show cG 1 = 16 by decide] at b2
  rw [show lG 1 = 4 by decide] at b4
  obtain ⟨g3,r3,hg3,c1,c2,c3⟩:=spec_someGroup_l0 b hb t r2 (by omega) (by omega) g2.length b3 (by omega) g2.length 0 g2 (by omega) rfl
  exact ⟨t,g3,r3,Ev.bind ht (Ev.neg hz (Ev.bind hg (Ev.pos h16 (Ev.bind hg2 hg3)))),by omega,by omega,h3,hs,by omega⟩
 ·obtain ⟨g3,r3,hg3,c1,c2,c3⟩:=spec_someGroup_j1 b hb t g r (by omega) (by omega) a3
  exact ⟨t,g3,r3,Ev.bind ht (Ev.neg hz (Ev.bind hg (Ev.neg h16 hg3))),by omega,by omega,h3,hs,by omega⟩
end Go.Proofs.Ytfphcdbnnienhaa.P
namespace Go.Proofs.Ytfphcdbnnienhaa.P
open Go.RowKit Go.Proofs.YtfphcdbnnienhaaW.PrintWords Go.Proofs.YtfphcdbnnienhaaW.PrintLast Go.Proofs.YtfphcdbnnienhaaW.PrintMore
attribute [local go_sem] max2_int min2_int max_two min_two max_three min_three max_four min_four
set_option linter.unusedVariables false
set_option linter.unusedSimpArgs false
def spec_newReader.f (l0 : List Int) : Option (List Int × Int):=if (l0.length : Int) > 2000 then (if 2000 ≤ (l0.length : Int) then (some (l0.take 2000,0)) else (none)) else (some (l0,0))
set_option maxHeartbeats 8000000 in
set_option maxRecDepth 100000 in
theorem spec_newReader.calls (A0 : Option Addr) (c0 : Nat) (l0 : List Int) (r1 : List Int) (r2 : Int) (w0 w : World) (hB : Below w0.heap.size w0 w) (hr0 : Kd.C (Kd.int .u8) w0 A0 l0.length l0) (hc0 : l0.length ≤ c0) (h : spec_newReader.f l0 = some (r1,r2)) :
  Calls Try.prog 37 #[.slice A0 l0.length c0] w fun e w'=>∃ g_ : Nat,e = .returned (.pointer (some ⟨g_,0,none⟩)) ∧ IsS81 w0 w' g_ r1 r2 ∧ Below w0.heap.size w0 w' ∧ Below w.heap.size w w':=by
 have hu81:=Try.underlying81
 have HR0:=a0_ hr0
 have HC0:=a0_ hc0
 clear hr0 hc0
 have HBW:=a0_ (Below.refl w.heap.size w)
 have HW0:=a0_ hB.size
 have HB:=a0_ hB
 clear hB
 have H : (if (l0.length : Int) > 2000 then (if 2000 ≤ (l0.length : Int) then (some (l0.take 2000,0)) else (none)) else (some (l0,0))) = some (r1,r2):=h
 clear h
 by_cases c2 : (l0.length : Int) > 2000
 ·rw [if_pos c2] at H
  have c2b0 : decide (2000 < (l0.length : Int)) = true:=decide_eq_true c2
  have c2b1 : decide (2000 < l0.length) = true:=decide_eq_true (by omega)
  clear c2
  by_cases c3 : 2000 ≤ (l0.length : Int)
  ·rw [if_pos c3] at H
   have c3b0:=eq_true c3
   have c3b1 : decide (2000 ≤ (l0.length : Int)) = true:=decide_eq_true c3
   clear c3
   simp only [Option.some.injEq,Prod.mk.injEq] at H
   obtain ⟨rfl,rfl⟩:=H
   obtain ⟨i04,hi04,_,hsz4,_⟩:=info_parts info5
   obtain ⟨hcut4,hA4,hC4⟩:=print_take_of (P:=Try.prog) (Value.int .u8) 0 22 5 .i64 Try.underlying22 hi04 hsz4 A0 c0 l0 2000 (by omega) (of_decide_eq_true (by first | (with_reducible assumption) | assumption)) HC0.out
   have HR1:=a0_ (Kd.C_of_reads (h1:=fun _=>rfl) (hA4 _ (Kd.reads_of_C HR0.out)))
   have HC1:=a0_ hC4
   clear hA4 hC4 hi04 hsz4
   go_enter Try.func37,Try.ntmps37
   go_wp2_with (first | ((with_reducible refine gate_dst (N:=10) rfl ?_);refine box_event ?hg (N:=10) ?hd (cs:=#[.slice A0 (l0.take 2000).length c0,.int .i64 0]) (t:=81) ?hr ?_;(case hd=>rfl);(case hg=>rfl);(case hr=>first | (go_simp;done) | (go_simp;rfl));intro gb2 hg w5 hbox hb;have n0_:=a0_ (below_step HBW.out hb);have n1_:=a0_ (below_step hb_ hb);have n2_:=a0_ (hbox);have n3_:=a0_ ((by rw [hg];exact (below_size (by repeat (first | (with_reducible first | exact HBW.out | apply below_alloc | apply pw_below_drewN | apply below_drew1) | exact HBW.out))) : w.heap.size ≤ gb2));have n4_:=a0_ ((Nat.le_trans HW0.out (by rw [hg];exact (below_size (by repeat (first | (with_reducible first | exact HBW.out | apply below_alloc | apply pw_below_drewN | apply below_drew1) | exact HBW.out))) : w.heap.size ≤ gb2) : w0.heap.size ≤ gb2));clear HBW HB;have HBW:=n0_;have HB:=n1_;have BK2:=n2_;have GW2:=n3_;have GE2:=n4_;clear n0_ n1_ n2_ n3_ n4_;clear hb hbox hg))
   go_ret
   exact ⟨_,rfl,(show IsS81 w0 _ gb2 (l0.take 2000) 0 from ⟨_,_,by (with_reducible repeat (first | refine blk_drewN ?_ _ | refine blk_drew ?_ | refine blk_alloc ?_ _));exact BK2.out,GE2.out,HR1.out⟩),hb_,by repeat (first | (with_reducible first | exact HBW.out | apply below_alloc | apply pw_below_drewN | apply below_drew1 | refine below_set ?_ GW2.out) | exact HBW.out)⟩
  ·rw [if_neg c3] at H
   exact absurd H (by simp)
 ·rw [if_neg c2] at H
  have c2b0 : decide (2000 < (l0.length : Int)) = false:=decide_eq_false c2
  have c2b1 : decide (2000 < l0.length) = false:=decide_eq_false (by omega)
  clear c2
  simp only [Option.some.injEq,Prod.mk.injEq] at H
  obtain ⟨rfl,rfl⟩:=H
  go_enter Try.func37,Try.ntmps37
  go_wp2_with (first | ((with_reducible refine gate_dst (N:=10) rfl ?_);refine box_event ?hg (N:=10) ?hd (cs:=#[.slice A0 l0.length c0,.int .i64 0]) (t:=81) ?hr ?_;(case hd=>rfl);(case hg=>rfl);(case hr=>first | (go_simp;done) | (go_simp;rfl));intro gb3 hg w6 hbox hb;have n0_:=a0_ (below_step HBW.out hb);have n1_:=a0_ (below_step hb_ hb);have n2_:=a0_ (hbox);have n3_:=a0_ ((by rw [hg];exact (below_size (by repeat (first | (with_reducible first | exact HBW.out | apply below_alloc | apply pw_below_drewN | apply below_drew1) | exact HBW.out))) : w.heap.size ≤ gb3));have n4_:=a0_ ((Nat.le_trans HW0.out (by rw [hg];exact (below_size (by repeat (first | (with_reducible first | exact HBW.out | apply below_alloc | apply pw_below_drewN | apply below_drew1) | exact HBW.out))) : w.heap.size ≤ gb3) : w0.heap.size ≤ gb3));clear HBW HB;have HBW:=n0_;have HB:=n1_;have BK3:=n2_;have GW3:=n3_;have GE3:=n4_;clear n0_ n1_ n2_ n3_ n4_;clear hb hbox hg))
  go_ret
  exact ⟨_,rfl,(show IsS81 w0 _ gb3 l0 0 from ⟨_,_,by (with_reducible repeat (first | refine blk_drewN ?_ _ | refine blk_drew ?_ | refine blk_alloc ?_ _));exact BK3.out,GE3.out,HR0.out⟩),hb_,by repeat (first | (with_reducible first | exact HBW.out | apply below_alloc | apply pw_below_drewN | apply below_drew1 | refine below_set ?_ GW3.out) | exact HBW.out)⟩
theorem spec_newReader_ev (l : List Int) (hl : ∀ x ∈ l,(Lit.int .u8 x).wf = true) : ∃ b,spec_newReader.f l = some (b,0) ∧ byL b:=by
 have h8 : ∀ x ∈ l,0 ≤ x ∧ x ≤ 255:=by
  intro x hx
  have:=hl x hx
  simp [Lit.wf,IntKind.min,IntKind.max,IntKind.bits,IntKind.signed] at this
  omega
 unfold spec_newReader.f
 by_cases h : (l.length : Int) > 2000
 ·refine ⟨l.take 2000,by rw [if_pos h,if_pos (by omega)],?_,fun x hx=>h8 x (List.mem_of_mem_take hx)⟩
  rw [List.length_take]
  omega
 ·exact ⟨l,by rw [if_neg h],by omega,h8⟩
end Go.Proofs.Ytfphcdbnnienhaa.P
namespace Go.Proofs.Ytfphcdbnnienhaa.P
open Go.RowKit Go.Proofs.YtfphcdbnnienhaaW.PrintWords Go.Proofs.YtfphcdbnnienhaaW.PrintLast Go.Proofs.YtfphcdbnnienhaaW.PrintMore
attribute [local go_sem] max2_int min2_int max_two min_two max_three min_three max_four min_four
set_option linter.unusedVariables false
set_option linter.unusedSimpArgs false
def spec_DrawFlattenGroup.f (k : Nat) (l0 : List Int) : Option ((List (S85)) × (List (S47))):=(spec_newReader.f l0).bind fun bt2=>((spec_someGroup.f k bt2.1 bt2.2).bind fun bt5=>(some (bt5.1,bt5.2.1)))
theorem spec_DrawFlattenGroup.mono : ∀ a0 k,LeO (spec_DrawFlattenGroup.f k a0) (spec_DrawFlattenGroup.f (k + 1) a0):=by
 intro a0 k
 unfold spec_DrawFlattenGroup.f
 repeat' first
   | (with_reducible exact spec_someGroup.mono _ _ _)
   | (with_reducible exact LeO.refl _)
   | (with_reducible exact LeO.none _)
   | (with_reducible refine LeO.ite ?_ ?_)
   | (with_reducible refine LeO.bind ?_ (fun _=>?_))
   | exact spec_someGroup.mono _ _ _
   | exact LeO.none _
   | refine LeO.ite ?_ ?_
   | refine LeO.bind ?_ (fun _=>?_)
set_option maxHeartbeats 8000000 in
set_option maxRecDepth 100000 in
theorem spec_DrawFlattenGroup.calls (k : Nat) (A0 : Option Addr) (c0 : Nat) (l0 : List Int) (r1 : List (S85)) (r2 : List (S47)) (w : World) (hr0 : Kd.C (Kd.int .u8) w A0 l0.length l0) (hc0 : l0.length ≤ c0) (h : spec_DrawFlattenGroup.f k l0 = some (r1,r2)) :
  Calls Try.prog 11 #[.slice A0 l0.length c0] w fun e w'=>∃ v0_ v1_ : Value,e = .returned (.tuple #[.agg #[v0_],v1_]) ∧ Kd.R k85 85 w' w.heap.size (fun _=>True) v0_ r1 ∧ Kd.R k47 47 w' w.heap.size (fun _=>True) v1_ r2 ∧ Below w.heap.size w w':=by
 have hu25:=Try.underlying25
 have HR0:=a0_ hr0
 have HC0:=a0_ hc0
 clear hr0 hc0
 have HB:=a0_ (Below.refl w.heap.size w)
 have H : ((spec_newReader.f l0).bind fun bt2=>((spec_someGroup.f k bt2.1 bt2.2).bind fun bt5=>(some (bt5.1,bt5.2.1)))) = some (r1,r2):=h
 clear h
 replace H:=Option.bind_eq_some_iff.mp H
 obtain ⟨⟨t2,t3⟩,A20,H⟩:=H
 try dsimp only at H
 have A2:=a0_ A20
 clear A20
 replace H:=Option.bind_eq_some_iff.mp H
 obtain ⟨⟨t5,t8,t11⟩,A30,H⟩:=H
 replace H : (some (t5,t8)) = some (r1,r2):=H
 have A3:=a0_ A30
 clear A30
 simp only [Option.some.injEq,Prod.mk.injEq] at H
 obtain ⟨rfl,rfl⟩:=H
 go_enter Try.func11,Try.ntmps11
 go_wp2_with (first | ((with_reducible refine gate_dst (N:=2) rfl ?_);refine box_event ?hg (N:=2) ?hd (cs:=#[.slice none 0 0]) (t:=25) ?hr ?_;(case hd=>rfl);(case hg=>rfl);(case hr=>first | (go_simp;done) | (go_simp;rfl));intro gb1 hg w4 hbox hb;have BK1:=a0_ (hbox);have GW1:=a0_ ((by rw [hg];exact (below_size hb_) : w.heap.size ≤ gb1));have GE1:=a0_ ((by rw [hg];exact (below_size hb_) : w.heap.size ≤ gb1));replace HB:=a0_ (below_step hb_ hb);clear hb hbox hg) | ((with_reducible refine gate_callee (f:=37) rfl ?_);refine goesL_ (some 5) rfl rfl Try.func37 (by kernel_rfl) rfl #[.slice A0 l0.length c0] rfl lm_ ?_;(with_reducible refine (spec_newReader.calls _ _ l0 t2 t3 w _ ?side1 ?side2 ?side3 A2.out).mono ?_);(case side1=>exact hb_);(case side2=>exact HR0.out);(case side3=>exact HC0.out);rintro e w5 ⟨g4,rfl,hi,hb,hb2⟩;refine ⟨_,rfl,?_⟩;have n0_:=a0_ (blk_below (bb_ BK1.out) hb2);have n1_:=a0_ (hb);have n2_:=a0_ (hi);have n3_:=a0_ (IsS81.ne_blk hi (blk_below (bb_ BK1.out) hb2) (by decide));have n4_:=a0_ (Ne.symm (IsS81.ne_blk hi (blk_below (bb_ BK1.out) hb2) (by decide)));clear BK1 HB;have BK1:=n0_;have HB:=n1_;have HI4:=n2_;have NB4_1:=n3_;have NB1_4:=n4_;clear n0_ n1_ n2_ n3_ n4_;(try clear hb);(try clear hb2);(try clear hk);(try clear hi)) | ((with_reducible refine gate_callee (f:=36) rfl ?_);refine goesL_ (some 6) rfl rfl Try.func36 (by kernel_rfl) rfl #[.pointer (some ⟨g4,0,none⟩)] rfl lm_ ?_;(with_reducible refine (spec_someGroup.calls k g4 t2 t3 t5 t8 t11 w _ ?side1 ?side2 A3.out).mono ?_);(case side1=>repeat (first | (with_reducible first | exact HI4.out | apply IsS81.alloc | apply IsS81.drewN | apply IsS81.drew | apply IsS81.set_1 | refine IsS81.far ?_ NB4_1.out _) | exact HI4.out));(case side2=>repeat (first | (with_reducible first | exact HB.out | apply below_alloc | apply pw_below_drewN | apply below_drew1 | refine below_set ?_ (IsS81.ge HI4.out) | refine below_set ?_ GE1.out) | exact HB.out));rintro e w6 ⟨v6,v9,rfl,ho0,ho1,hi,hb,hk⟩;refine ⟨_,rfl,?_⟩;replace BK1:=kk_ hk BK1 NB1_4;have HO7:=a0_ (Kd.R_lower ho0 (below_size (by repeat (first | (with_reducible first | exact HB.out | apply below_alloc | apply pw_below_drewN | apply below_drew1 | refine below_set ?_ (IsS81.ge HI4.out) | refine below_set ?_ GE1.out) | exact HB.out))));have HO10:=a0_ (Kd.R_lower ho1 (below_size (by repeat (first | (with_reducible first | exact HB.out | apply below_alloc | apply pw_below_drewN | apply below_drew1 | refine below_set ?_ (IsS81.ge HI4.out) | refine below_set ?_ GE1.out) | exact HB.out))));replace HI4:=a0_ (hi);replace HB:=a0_ (hb);(try clear hb);(try clear ho0);(try clear ho1);obtain ⟨Ao7,co7,eo7⟩:=Kd.R_slice HO7.out;subst eo7;have hnb8:=NB1_4.out;have hnc8:=NB4_1.out;have hcz9_0 : w6.cell? ⟨gb1,0,none⟩ = some (.slice none 0 0):=(blk_cell BK1.out 0).trans rfl;have hfz9_0:=blk_frozen BK1.out 0))
 refine bodyPost_ret (results_ct rfl _ _ gb1 25 #[.slice Ao7 t5.length co7] (0,0) _ rfl (by (with_reducible repeat (first | refine blk_drewN ?_ _ | refine blk_drew ?_ | refine blk_alloc ?_ _));refine blk_put (cs:=#[.slice none 0 0]) ?_ 0 _ rfl;(with_reducible repeat (first | refine blk_drewN ?_ _ | refine blk_drew ?_ | refine blk_alloc ?_ _));exact BK1.out) Try.underlying25 rfl (by kernel_rfl)) rfl ?_
 exact ⟨_,_,by first | rfl | (simp [errW_none,errW_some] <;> rfl) | (simp [*,errW_none,errW_some] <;> rfl),by (with_reducible repeat (first | apply Kd.R_alloc | apply Kd.R_drewN | apply Kd.R_drew));exact Kd.R_mono (Kd.R_far (p:=⟨gb1,0,none⟩) (Kd.R_types HO7.out BK1.out (by decide)) (fun _ hk=>hk.2) (.slice Ao7 t5.length co7)) (fun _ hk=>trivial),by (with_reducible repeat (first | apply Kd.R_alloc | apply Kd.R_drewN | apply Kd.R_drew));exact Kd.R_mono (Kd.R_far (p:=⟨gb1,0,none⟩) (Kd.R_types HO10.out BK1.out (by decide)) (fun _ hk=>hk.2) (.slice Ao7 t5.length co7)) (fun _ hk=>trivial),by repeat (first | (with_reducible first | exact HB.out | apply below_alloc | apply pw_below_drewN | apply below_drew1 | refine below_set ?_ (IsS81.ge HI4.out) | refine below_set ?_ GE1.out) | exact HB.out)⟩
theorem spec_DrawFlattenGroup_ev (l : List Int) (hl : ∀ x ∈ l,(Lit.int .u8 x).wf = true) : ∃ t g,Ev (fun k=>spec_DrawFlattenGroup.f k l) (t,g) ∧ t.length ≤ 8 ∧ smT t = true ∧ g.length ≤ 16:=by
 obtain ⟨b,hn,hb⟩:=spec_newReader_ev l hl
 obtain ⟨t,g,q,he,_,_,a3,a4,a5⟩:=spec_someGroup_ev b 0 hb (by omega) (by omega)
 exact ⟨t,g,Ev.bind (Ev.const hn) (Ev.bind he (Ev.const rfl)),a3,a4,a5⟩
end Go.Proofs.Ytfphcdbnnienhaa.P
namespace Go.Proofs.Ytfphcdbnnienhaa.P
open Go.RowKit Go.Proofs.YtfphcdbnnienhaaW.PrintWords Go.Proofs.YtfphcdbnnienhaaW.PrintLast Go.Proofs.YtfphcdbnnienhaaW.PrintMore
attribute [local go_sem] max2_int min2_int max_two min_two max_three min_three max_four min_four
set_option linter.unusedVariables false
set_option linter.unusedSimpArgs false
def impl_within.f (a0 : Int) (a1 : Int) (a2 : Int) : Option (Bool):=if a0 ≥ a1 then (some (decide (a0 ≤ a2))) else (some false)
set_option maxHeartbeats 8000000 in
set_option maxRecDepth 100000 in
theorem impl_within.calls (a0 : Int) (a1 : Int) (a2 : Int) (r : Bool) (w : World) (h : impl_within.f a0 a1 a2 = some r) :
  Calls Try.prog 70 #[.int .i64 a0,.int .i64 a1,.int .i64 a2] w fun e w'=>e = .returned (.bool r) ∧ Drawn0 w w':=by
 have H : (if a0 ≥ a1 then (some (decide (a0 ≤ a2))) else (some false)) = some r:=h
 clear h
 by_cases c4 : a0 ≥ a1
 ·rw [if_pos c4] at H
  have c4b0 : decide (a1 ≤ a0) = true:=decide_eq_true c4
  clear c4
  obtain rfl:=Option.some.inj H
  go_enter Try.func70,Try.ntmps70
  go_wp2
  go_ret
  exact ⟨by first | rfl | (simp;done) | (simp [*];done),by repeat (first | exact Drawn0.refl _ | apply Drawn0.step)⟩
 ·rw [if_neg c4] at H
  have c4b0 : decide (a1 ≤ a0) = false:=decide_eq_false c4
  clear c4
  obtain rfl:=Option.some.inj H
  go_enter Try.func70,Try.ntmps70
  go_wp2
  go_ret
  exact ⟨by first | rfl | (simp;done) | (simp [*];done),by repeat (first | exact Drawn0.refl _ | apply Drawn0.step)⟩
theorem impl_within_ev (a b c : Int) : impl_within.f a b c = some (decide (b ≤ a) && decide (a ≤ c)):=by
 unfold impl_within.f
 by_cases h : a ≥ b
 ·rw [if_pos h,decide_eq_true (show b ≤ a from h),Bool.true_and]
 ·rw [if_neg h,decide_eq_false (show ¬ b ≤ a from h),Bool.false_and]
end Go.Proofs.Ytfphcdbnnienhaa.P
namespace Go.Proofs.Ytfphcdbnnienhaa.P
open Go.RowKit Go.Proofs.YtfphcdbnnienhaaW.PrintWords Go.Proofs.YtfphcdbnnienhaaW.PrintLast Go.Proofs.YtfphcdbnnienhaaW.PrintMore
attribute [local go_sem] max2_int min2_int max_two min_two max_three min_three max_four min_four
set_option linter.unusedVariables false
set_option linter.unusedSimpArgs false
def impl_nameOk.l0 : Nat → ByteArray → Int → Int → Option (Bool)
 | 0,_,_,_=>none
 | k + 1,x0,x5,x6=>if x6 < x5 then (if 0 ≤ x6 then (if x6 < (x0.size : Int) then (if (bt x0 x6) < 97 then (some false) else (if (bt x0 x6) > 122 then (some false) else (impl_nameOk.l0 k x0 x5 (wrap64 (x6 + 1))))) else (none)) else (none)) else ((impl_within.f (x0.size : Int) 1 6).bind fun t1=>(some t1))
def impl_nameOk.f (k : Nat) (a0 : ByteArray) : Option (Bool):=impl_nameOk.l0 k a0 (a0.size : Int) 0
theorem impl_nameOk.mono_l : ∀ k,(∀ y0 y1 y2,LeO (impl_nameOk.l0 k y0 y1 y2) (impl_nameOk.l0 (k + 1) y0 y1 y2))
 | 0=>fun _ _ _ r h=>by simp [impl_nameOk.l0] at h
 | k + 1=>by
  have ih0:=impl_nameOk.mono_l k
  ·intro y0 y1 y2
   unfold impl_nameOk.l0
   repeat' first
   | (with_reducible exact ih0 _ _ _)
   | (with_reducible exact LeO.refl _)
   | (with_reducible exact LeO.none _)
   | (with_reducible refine LeO.ite ?_ ?_)
   | (with_reducible refine LeO.bind ?_ (fun _=>?_))
   | exact ih0 _ _ _
   | exact LeO.none _
   | refine LeO.ite ?_ ?_
   | refine LeO.bind ?_ (fun _=>?_)
theorem impl_nameOk.mono : ∀ a0 k,LeO (impl_nameOk.f k a0) (impl_nameOk.f (k + 1) a0):=by
 intro a0 k
 have ih0:=impl_nameOk.mono_l k
 unfold impl_nameOk.f
 repeat' first
   | (with_reducible exact ih0 _ _ _)
   | (with_reducible exact LeO.refl _)
   | (with_reducible exact LeO.none _)
   | (with_reducible refine LeO.ite ?_ ?_)
   | (with_reducible refine LeO.bind ?_ (fun _=>?_))
   | exact ih0 _ _ _
   | exact LeO.none _
   | refine LeO.ite ?_ ?_
   | refine LeO.bind ?_ (fun _=>?_)
set_option maxHeartbeats 8000000 in
set_option maxRecDepth 100000 in
theorem impl_nameOk.calls (k : Nat) (a0 : ByteArray) (r : Bool) (w : World) (h : impl_nameOk.f k a0 = some r) :
  Calls Try.prog 68 #[.string a0] w fun e w'=>e = .returned (.bool r) ∧ Drawn0 w w':=by
 have H : (impl_nameOk.l0 k a0 (a0.size : Int) 0) = some r:=h
 clear h
 have H':=a0_ H
 clear H
 go_enter Try.func68,Try.ntmps68
 go_wp2
 go_loopg [6] k (fun kq v6 w'=>∃ (x6_1 : Int),v6 = .int .i64 x6_1 ∧ Aside0 (impl_nameOk.l0 kq a0 (a0.size : Int) x6_1 = some r) ∧ Aside0 (kq ≤ k) ∧ Drawn0 w w')
 case atStart=>exact ⟨(0),(by first | rfl | (simp;done) | (simp [*];done)),H',⟨Nat.le_refl _⟩,by repeat (first | exact Drawn0.refl _ | apply Drawn0.step)⟩
 case round =>
  clear H'
  obtain ⟨x6_1,rfl,HA,HK1,⟨m1,rfl⟩⟩:=hrel
  cases gk with
  | zero=>exact absurd HA.out (by simp [impl_nameOk.l0])
  | succ k1 =>
   have H:=HA.out
   clear HA
   simp only [impl_nameOk.l0] at H
   by_cases c2 : x6_1 < (a0.size : Int)
   ·rw [if_pos c2] at H
    have c2b0 : decide (x6_1 < (a0.size : Int)) = true:=decide_eq_true c2
    clear c2
    by_cases c3 : 0 ≤ x6_1
    ·rw [if_pos c3] at H
     have c3b0 : decide (0 ≤ x6_1) = true:=decide_eq_true c3
     clear c3
     by_cases c4 : x6_1 < (a0.size : Int)
     ·rw [if_pos c4] at H
      have c4b0 : decide (x6_1 < (a0.size : Int)) = true:=decide_eq_true c4
      clear c4
      by_cases c6 : (bt a0 x6_1) < 97
      ·rw [if_pos c6] at H
       have c6b0 : decide ((bt a0 x6_1) < 97) = true:=decide_eq_true c6
       clear c6
       obtain rfl:=Option.some.inj H
       have p5 : 0 ≤ (x6_1 : Int):=of_decide_eq_true (by first | (with_reducible assumption) | assumption)
       have q5 : x6_1 < (a0.size : Int):=of_decide_eq_true (by first | (with_reducible assumption) | assumption)
       have hx5:=bt_at a0 x6_1
       replace p5:=eq_true p5
       replace q5:=eq_true q5
       go_wp2
       go_ret
       exact ⟨by first | rfl | (simp;done) | (simp [*];done),by repeat (first | exact Drawn0.refl _ | apply Drawn0.step)⟩
      ·rw [if_neg c6] at H
       have c6b0 : decide ((bt a0 x6_1) < 97) = false:=decide_eq_false c6
       clear c6
       by_cases c8 : (bt a0 x6_1) > 122
       ·rw [if_pos c8] at H
        have c8b0 : decide (122 < (bt a0 x6_1)) = true:=decide_eq_true c8
        clear c8
        obtain rfl:=Option.some.inj H
        have p5 : 0 ≤ (x6_1 : Int):=of_decide_eq_true (by first | (with_reducible assumption) | assumption)
        have q5 : x6_1 < (a0.size : Int):=of_decide_eq_true (by first | (with_reducible assumption) | assumption)
        have hx5:=bt_at a0 x6_1
        replace p5:=eq_true p5
        replace q5:=eq_true q5
        have p7 : 0 ≤ (x6_1 : Int):=of_decide_eq_true (by first | (with_reducible assumption) | assumption)
        have q7 : x6_1 < (a0.size : Int):=of_decide_eq_true (by first | (with_reducible assumption) | assumption)
        have hx7:=bt_at a0 x6_1
        replace p7:=eq_true p7
        replace q7:=eq_true q7
        go_wp2
        go_ret
        exact ⟨by first | rfl | (simp;done) | (simp [*];done),by repeat (first | exact Drawn0.refl _ | apply Drawn0.step)⟩
       ·rw [if_neg c8] at H
        have c8b0 : decide (122 < (bt a0 x6_1)) = false:=decide_eq_false c8
        clear c8
        have H':=a0_ H
        clear H
        have p5 : 0 ≤ (x6_1 : Int):=of_decide_eq_true (by first | (with_reducible assumption) | assumption)
        have q5 : x6_1 < (a0.size : Int):=of_decide_eq_true (by first | (with_reducible assumption) | assumption)
        have hx5:=bt_at a0 x6_1
        replace p5:=eq_true p5
        replace q5:=eq_true q5
        have p7 : 0 ≤ (x6_1 : Int):=of_decide_eq_true (by first | (with_reducible assumption) | assumption)
        have q7 : x6_1 < (a0.size : Int):=of_decide_eq_true (by first | (with_reducible assumption) | assumption)
        have hx7:=bt_at a0 x6_1
        replace p7:=eq_true p7
        replace q7:=eq_true q7
        go_wp2
        go_roundg k1
        case measure=>have:=HK1.out;omega
        case rel=>exact ⟨(wrap64 (x6_1 + 1)),(by first | rfl | (simp;done) | (simp [*];done)),H',⟨by have:=HK1.out;omega⟩,by repeat (first | exact Drawn0.refl _ | apply Drawn0.step)⟩
     ·rw [if_neg c4] at H
      exact absurd H (by simp)
    ·rw [if_neg c3] at H
     exact absurd H (by simp)
   ·rw [if_neg c2] at H
    have c2b0 : decide (x6_1 < (a0.size : Int)) = false:=decide_eq_false c2
    clear c2
    replace H:=Option.bind_eq_some_iff.mp H
    obtain ⟨t1,A90,H⟩:=H
    replace H : (some t1) = some r:=H
    have A9:=a0_ A90
    clear A90
    obtain rfl:=Option.some.inj H
    go_wp2_with (first | ((with_reducible refine gate_callee (f:=70) rfl ?_);refine goesL_ (some 22) rfl rfl Try.func70 (by kernel_rfl) rfl #[.int .i64 (a0.size : Int),.int .i64 1,.int .i64 6] rfl lm_ ?_;(with_reducible refine (impl_within.calls (a0.size : Int) 1 6 t1 _ A9.out).mono ?_);rintro e w' ⟨rfl,⟨nd,rfl⟩⟩;refine ⟨_,rfl,?_⟩))
    go_ret
    exact ⟨by first | rfl | (simp;done) | (simp [*];done),by repeat (first | exact Drawn0.refl _ | apply Drawn0.step)⟩
theorem impl_nameOk_l0 (s : ByteArray) (hs : s.size ≤ 9223372036854775807) (d : Nat) : ∀ (k : Nat) (i : Nat),i ≤ s.size → s.size - i = d → d < k → impl_nameOk.l0 k s (s.size : Int) (i : Int) = some ((s.data.toList.drop i).all (fun c=>decide (97 ≤ c.toNat) && decide (c.toNat ≤ 122)) && (decide (1 ≤ s.size) && decide (s.size ≤ 6))):=by
 induction d with
 | zero =>
  intro k i hi hd hk
  obtain ⟨k,rfl⟩ : ∃ m,k = m + 1:=⟨k - 1,by omega⟩
  simp only [impl_nameOk.l0]
  rw [if_neg (by omega)]
  have : s.data.toList.drop i = []:=by
   apply List.drop_eq_nil_of_le
   have : s.data.toList.length = s.size:=toL_len s
   omega
  rw [this]
  simp only [impl_within.f,List.all_nil,Bool.true_and]
  by_cases h1 : 1 ≤ s.size
  ·rw [if_pos (show (s.size : Int) ≥ 1 by omega)]
   by_cases h2 : s.size ≤ 6
   ·simp [h1,h2];omega
   ·simp [h2];omega
  ·rw [if_neg (show ¬ (s.size : Int) ≥ 1 by omega)];simp [h1]
 | succ d ih =>
  intro k i hi hd hk
  obtain ⟨k,rfl⟩ : ∃ m,k = m + 1:=⟨k - 1,by omega⟩
  have hlt : i < s.size:=by omega
  have hl : s.data.toList.length = s.size:=toL_len s
  simp only [impl_nameOk.l0]
  rw [if_pos (show (i : Int) < (s.size : Int) by omega),if_pos (show (0 : Int) ≤ (i : Int) by omega),if_pos (show (i : Int) < (s.size : Int) by omega),bt_getElem s i hlt]
  have hd2 : s.data.toList.drop i = s[i] :: s.data.toList.drop (i + 1):=by
   rw [List.drop_eq_getElem_cons (by omega)]
   congr 1
  rw [hd2,List.all_cons]
  by_cases h1 : (s[i].toNat : Int) < 97
  ·rw [if_pos h1];have : ¬ 97 ≤ s[i].toNat:=by omega
   simp [this]
  ·rw [if_neg h1]
   by_cases h2 : (s[i].toNat : Int) > 122
   ·rw [if_pos h2];have : ¬ s[i].toNat ≤ 122:=by omega
    simp [this]
   ·rw [if_neg h2,wrap_succ (n:=s.size) (by omega) (by omega) (by omega)]
    have:=ih k (i + 1) (by omega) (by omega) (by omega)
    rw [show ((i : Int) + 1) = ((i + 1 : Nat) : Int) by omega,this]
    have a : 97 ≤ s[i].toNat:=by omega
    have b : s[i].toNat ≤ 122:=by omega
    simp [a,b]
theorem impl_nameOk_ev (s : ByteArray) (hs : s.size ≤ 9223372036854775807) : impl_nameOk.f (s.size + 1) s = some (okName s):=by
 unfold impl_nameOk.f okName
 have:=impl_nameOk_l0 s hs s.size (s.size + 1) 0 (by omega) (by omega) (by omega)
 simpa using this
end Go.Proofs.Ytfphcdbnnienhaa.P
namespace Go.Proofs.Ytfphcdbnnienhaa.P
open Go.RowKit Go.Proofs.YtfphcdbnnienhaaW.PrintWords Go.Proofs.YtfphcdbnnienhaaW.PrintLast Go.Proofs.YtfphcdbnnienhaaW.PrintMore
attribute [local go_sem] max2_int min2_int max_two min_two max_three min_three max_four min_four
set_option linter.unusedVariables false
set_option linter.unusedSimpArgs false
set_option maxHeartbeats 2000000 in
theorem slices_IndexFunc_Class.callsF (A : Option Addr) (c : Nat) (l : List S85) (g : Nat) (lb : Array Value) (p : S85 → Bool) (w : World) (eg : ∀ args w,(callFunc g args).run Try.prog w = .ok (.enter g args) w)
  (hr : Kd.C k85 w A l.length l) (hc : l.length ≤ c) (hp : ∀ x,x ∈ l → ∀ W,Below w.heap.size w W → Calls Try.prog g (#[.agg #[.string x.f0,.int .i64 x.f1]] ++ lb) W fun e w'=>e = .returned (.bool (p x)) ∧ Below W.heap.size W w') :
  Calls Try.prog 87 #[.slice A l.length c,.func (.func g) #[] lb] w fun e w'=>e = .returned (.int .i64 (idxP p l)) ∧ Below w.heap.size w w':=by
 have HR:=a0_ hr
 have HP:=a0_ hp
 have hmax : l.length ≤ 9223372036854775807:=hr.2.1
 clear hr hp hc
 go_enter Try.func87,Try.ntmps87
 go_wp2
 go_loopg [5,8] l.length (fun gg _ s8 wr=>∃ kk : Nat,kk ≤ l.length ∧ l.length - kk ≤ gg ∧ s8 = .int .i64 kk ∧ Aside0 (Below w.heap.size w wr) ∧ Aside0 (∀ j (hj : j < l.length),j < kk → p l[j] = false))
 case atStart=>exact ⟨0,Nat.zero_le _,by omega,rfl,⟨Below.refl _ w⟩,⟨fun j _ hj=>absurd hj (Nat.not_lt_zero _)⟩⟩
 case round =>
  obtain ⟨kk,hkk,hg,rfl,BW,HA⟩:=hrel
  by_cases hlt : kk < l.length
  ·have hltz : (kk : Int) < (l.length : Int):=by omega
   obtain ⟨ad,ea,hx0,hx1⟩:=at_T85 HR.out (kk : Int) (by omega) (by omega)
   cases ea
   have hrd : rd_T85 l (kk : Int) = l[kk]:=by simp [rd_T85,hlt]
   rw [hrd] at hx0 hx1
   rw [Int.toNat_natCast] at hx0 hx1
   replace hx0:=(BW.out.cell (World.block_lt_of_cell? w _ hx0)).trans hx0
   replace hx1:=(BW.out.cell (World.block_lt_of_cell? w _ hx1)).trans hx1
   have hcall:=HP.out l[kk] (List.getElem_mem hlt) wr BW.out
   clear hrd
   generalize hy : l[kk] = y at hx0 hx1 hcall
   have B:=a0_ hy
   clear hy
   cases hq : p y with
   | true =>
    rw [hq] at hcall
    go_wp2_with (go_at_fn g;refine hcall.mono ?_;rintro e w' ⟨rfl,hb'⟩)
    go_ret
    refine ⟨?_,below_step BW.out hb'⟩
    rw [idxP_hit p l kk hlt (by rw [B.out];exact hq) HA.out];rfl
   | false =>
    rw [hq] at hcall
    go_wp2_with (go_at_fn g;refine hcall.mono ?_;rintro e w' ⟨rfl,hb'⟩)
    go_roundg (l.length - (kk + 1))
    case measure=>omega
    case rel =>
     refine ⟨kk + 1,by omega,by omega,by go_num,⟨below_step BW.out hb'⟩,⟨fun j hj hjk=>?_⟩⟩
     by_cases e : j = kk
     ·subst e
      rw [B.out];exact hq
     ·exact HA.out j hj (by omega)
  ·have hltz : ¬ (kk : Int) < (l.length : Int):=by omega
   have : kk = l.length:=by omega
   subst this
   go_wp2
   go_ret
   refine ⟨?_,BW.out⟩
   rw [idxP_miss p l (fun j hj=>HA.out j hj hj)];rfl
end Go.Proofs.Ytfphcdbnnienhaa.P
namespace Go.Proofs.Ytfphcdbnnienhaa.P
open Go.RowKit Go.Proofs.YtfphcdbnnienhaaW.PrintWords Go.Proofs.YtfphcdbnnienhaaW.PrintLast Go.Proofs.YtfphcdbnnienhaaW.PrintMore
attribute [local go_sem] max2_int min2_int max_two min_two max_three min_three max_four min_four
set_option linter.unusedVariables false
set_option linter.unusedSimpArgs false
theorem impl_Tree_named_1.callsF (B : Nat) (nm : ByteArray) (x : S85) (w : World) (hB : w.heap[B]? = some (.cells #[.string nm] 9 (0,0))) :
  Calls Try.prog 88 #[.agg #[.string x.f0,.int .i64 x.f1],.pointer (some ⟨B,0,none⟩)] w fun e w'=>e = .returned (.bool (x.f0.toList == nm.toList)) ∧ Below w.heap.size w w':=by
 have hc : w.cell? ⟨B,0,none⟩ = some (.string nm):=(blk_cell hB 0).trans rfl
 have hlt : B < w.heap.size:=(Array.getElem?_eq_some_iff.1 hB).1
 have hne : B ≠ w.heap.size:=by omega
 clear hB
 go_enter Try.func88,Try.ntmps88
 go_wp2
 all_goals (go_ret;exact ⟨by simp_all,(Below.refl _ w).alloc (Nat.le_refl _) _⟩)
end Go.Proofs.Ytfphcdbnnienhaa.P
namespace Go.Proofs.Ytfphcdbnnienhaa.P
open Go.RowKit Go.Proofs.YtfphcdbnnienhaaW.PrintWords Go.Proofs.YtfphcdbnnienhaaW.PrintLast Go.Proofs.YtfphcdbnnienhaaW.PrintMore
attribute [local go_sem] max2_int min2_int max_two min_two max_three min_three max_four min_four
set_option linter.unusedVariables false
set_option linter.unusedSimpArgs false
def impl_Tree_named.f (l0_0 : List (S85)) (a1 : ByteArray) : Option Int:=some (idxP (fun x : S85=>x.f0.toList == a1.toList) l0_0)
set_option maxHeartbeats 2000000 in
theorem impl_Tree_named.calls (A0_0 : Option Addr) (c0_0 : Nat) (l0_0 : List (S85)) (a1 : ByteArray) (r : Int) (w : World) (hr0_0 : Kd.C k85 w A0_0 l0_0.length l0_0) (hc0_0 : l0_0.length ≤ c0_0) (h : impl_Tree_named.f l0_0 a1 = some r) :
  Calls Try.prog 69 #[.agg #[.slice A0_0 l0_0.length c0_0],.string a1] w fun e w'=>e = .returned (.int .i64 r) ∧ Below w.heap.size w w':=by
 obtain rfl:=Option.some.inj h
 clear h
 have hu31:=Try.underlying25
 have eg : ∀ args w,(callFunc 88 args).run Try.prog w = .ok (.enter 88 args) w:=enters_of Try.func88 (by kernel_rfl) rfl
 have hcon:=fun (W : World) (hb : Below w.heap.size w W) (hB : W.heap[w.heap.size + 1]? = some (.cells #[.string a1] 9 (0,0)))=>slices_IndexFunc_Class.callsF A0_0 c0_0 l0_0 88 #[.pointer (some ⟨w.heap.size + 1,0,none⟩)] (fun x=>x.f0.toList == a1.toList) W eg (Kd.C_below hr0_0 hb) hc0_0 (fun x _ W' hW=>by
  have:=impl_Tree_named_1.callsF (w.heap.size + 1) a1 x W' (blk_keptB hB hW)
  simpa using this)
 clear hr0_0 hc0_0
 generalize idxP (fun x : S85=>x.f0.toList == a1.toList) l0_0 = r at hcon ⊢
 have HC:=a0_ hcon
 clear hcon
 go_enter Try.func69,Try.ntmps69
 go_wp2_with (go_at_call 87;refine (HC.out _ ?hb ?hB).mono ?_;(case hb=>exact below2 w _ _);(case hB=>exact heap_new2 w _ _);rintro e w' ⟨rfl,hb'⟩)
 go_ret
 exact ⟨rfl,(below2 w _ _).trans (hb'.mono (by simp;omega))⟩
end Go.Proofs.Ytfphcdbnnienhaa.P
namespace Go.Proofs.Ytfphcdbnnienhaa.P
open Go.RowKit Go.Proofs.YtfphcdbnnienhaaW.PrintWords Go.Proofs.YtfphcdbnnienhaaW.PrintLast Go.Proofs.YtfphcdbnnienhaaW.PrintMore
attribute [local go_sem] max2_int min2_int max_two min_two max_three min_three max_four min_four
set_option linter.unusedVariables false
set_option linter.unusedSimpArgs false
def impl_ValidTree.f (l0_0 : List (S85)) : Option Bool:=if smT l0_0 = true then some (vT l0_0) else none
set_option maxHeartbeats 4000000 in
set_option maxRecDepth 100000 in
theorem impl_ValidTree.calls (A0_0 : Option Addr) (c0_0 : Nat) (l0_0 : List (S85)) (r : Bool) (w : World) (hr0_0 : Kd.C k85 w A0_0 l0_0.length l0_0) (hc0_0 : l0_0.length ≤ c0_0) (h : impl_ValidTree.f l0_0 = some r) :
  Calls Try.prog 41 #[.agg #[.slice A0_0 l0_0.length c0_0]] w fun e w'=>e = .returned (.bool r) ∧ Below w.heap.size w w':=by
 have hu31:=Try.underlying25
 have hsm : smT l0_0 = true:=by
  apply Classical.byContradiction
  intro hn
  rw [impl_ValidTree.f,if_neg hn] at h
  cases h
 rw [impl_ValidTree.f,if_pos hsm] at h
 have HRr:=a0_ (Option.some.inj h)
 have HSM:=a0_ hsm
 have HR:=a0_ hr0_0
 have hmax : l0_0.length ≤ 9223372036854775807:=hr0_0.2.1
 clear h hsm hr0_0
 go_enter Try.func41,Try.ntmps41
 go_wp2
 go_loopg [8] l0_0.length (fun gg s8 wr=>∃ kk : Nat,kk ≤ l0_0.length ∧ l0_0.length - kk ≤ gg ∧ s8 = .int .i64 kk ∧ Aside0 (Below w.heap.size w wr) ∧ Aside0 (wr.heap[w.heap.size]? = some (.cells #[.slice A0_0 l0_0.length c0_0] 25 (0,0))) ∧ Aside0 (∀ j,j < kk → okCls l0_0 j (l0_0.getD j z85) = true))
 case atStart=>exact ⟨0,Nat.zero_le _,by omega,rfl,⟨below1 w _⟩,⟨heap_new1 w _⟩,⟨fun j hj=>absurd hj (Nat.not_lt_zero _)⟩⟩
 case round =>
  obtain ⟨kk,hkk,hg,rfl,BW,BK,HA⟩:=hrel
  have hcz : wr.cell? ⟨w.heap.size,0,none⟩ = some (.slice A0_0 l0_0.length c0_0):=(blk_cell BK.out 0).trans rfl
  by_cases hlt : kk < l0_0.length
  ·have hltz : (kk : Int) < (l0_0.length : Int):=by omega
   obtain ⟨ad,ea,hx0,hx1⟩:=at_T85 HR.out (kk : Int) (by omega) (by omega)
   cases ea
   have hrd : rd_T85 l0_0 (kk : Int) = l0_0[kk]:=by simp [rd_T85,hlt]
   rw [hrd] at hx0 hx1
   rw [Int.toNat_natCast] at hx0 hx1
   replace hx0:=(BW.out.cell (World.block_lt_of_cell? w _ hx0)).trans hx0
   replace hx1:=(BW.out.cell (World.block_lt_of_cell? w _ hx1)).trans hx1
   clear hrd
   generalize hy : l0_0[kk] = y at hx0 hx1
   have B:=a0_ hy
   clear hy
   go_upto_region 4 with (fail)
   have hW1:=a0_ (below_alloc BW.out (.cells #[.string y.f0,.int .i64 y.f1] 85))
   have hW2:=a0_ (blk_alloc BK.out (.cells #[.string y.f0,.int .i64 y.f1] 85))
   have hW3:=(blk_cell hW2.out 0).trans rfl
   have hW4:=(blk_cell (heap_new1 wr (.cells #[.string y.f0,.int .i64 y.f1] 85)) 0).trans rfl
   have hW5:=(blk_cell (heap_new1 wr (.cells #[.string y.f0,.int .i64 y.f1] 85)) 1).trans rfl
   clear hcz hx0 hx1 BW BK
   generalize wr.alloc (.cells #[.string y.f0,.int .i64 y.f1] 85) = W1 at hW1 hW2 hW3 hW4 hW5 ⊢
   generalize wr.heap.size = gb at hW4 hW5 ⊢
   have hy1 : y.f0.size ≤ 9223372036854775806:=by rw [← B.out];exact smT_at HSM.out kk hlt
   have A1:=a0_ (impl_nameOk_ev y.f0 (by omega))
   have hcn0:=fun (W : World) (hW : Below w.heap.size w W)=>impl_Tree_named.calls (some ad) c0_0 l0_0 y.f0 (named l0_0 y.f0) W (Kd.C_below HR.out hW) hc0_0 rfl
   have hok : okCls l0_0 kk (l0_0.getD kk z85) = okCls l0_0 kk y:=by
    rw [← B.out];simp [List.getD,hlt]
   have hdef : okCls l0_0 kk y = (okName y.f0 && (decide (named l0_0 y.f0 = (kk : Int)) && (if kk = 0 then decide (y.f1 = -1) else decide (0 ≤ y.f1) && decide (y.f1 ≤ (kk : Int) - 1)))):=rfl
   generalize named l0_0 y.f0 = nn at hcn0 hdef
   have HCN:=a0_ hcn0
   have HOK:=a0_ hok
   have HDF:=a0_ hdef
   clear hcn0 hok hdef hy1
   go_cut [45] (fun v45 wc=>v45 = .bool (!okCls l0_0 kk y) ∧ Aside0 (Below w.heap.size w wc) ∧ Aside0 (wc.heap[w.heap.size]? = some (.cells #[.slice (some ad) l0_0.length c0_0] 25 (0,0))))
   case first =>
    have hw1 : IntKind.i64.wrap ((kk : Int) - 1) = (kk : Int) - 1:=by rw [IntKind.wrap_i64];omega
    have A2:=a0_ (show impl_within.f y.f1 0 ((kk : Int) - 1) = some (decide (0 ≤ y.f1) && decide (y.f1 ≤ (kk : Int) - 1)) by
     unfold impl_within.f
     by_cases h0 : 0 ≤ y.f1
     ·rw [if_pos h0];simp [h0]
     ·rw [if_neg h0];simp [h0])
    cases hb1 : okName y.f0 with
    | false =>
     rw [hb1] at A1
     have BV : okCls l0_0 kk y = false:=by rw [HDF.out,hb1];rfl
     clear HDF HOK
     go_wp2_with (first
     | (go_at_call 68;(with_reducible refine (impl_nameOk.calls _ y.f0 _ _ A1.out).mono ?_);rintro e w' ⟨rfl,hd⟩;have hb:=drawn_below hd;replace hW3:=pw_cell_below hb hW3;replace hW4:=pw_cell_below hb hW4;replace hW5:=pw_cell_below hb hW5;replace hW1:=a0_ (below_step hW1.out hb);replace hW2:=a0_ (blk_keptB hW2.out hb);clear hb hd)
     | (go_at_call 69;(with_reducible refine (HCN.out _ hW1.out).mono ?_);rintro e w' ⟨rfl,hb⟩;replace hW3:=pw_cell_below hb hW3;replace hW4:=pw_cell_below hb hW4;replace hW5:=pw_cell_below hb hW5;replace hW1:=a0_ (below_step hW1.out hb);replace hW2:=a0_ (blk_keptB hW2.out hb);clear hb)
     | (go_at_call 70;(with_reducible refine (impl_within.calls y.f1 0 ((kk : Int) - 1) _ _ A2.out).mono ?_);rintro e w' ⟨rfl,hd⟩;have hb:=drawn_below hd;replace hW3:=pw_cell_below hb hW3;replace hW4:=pw_cell_below hb hW4;replace hW5:=pw_cell_below hb hW5;replace hW1:=a0_ (below_step hW1.out hb);replace hW2:=a0_ (blk_keptB hW2.out hb);clear hb hd))
     go_meet
     case rel=>exact ⟨by (rw [BV]);first | rfl | (simp [*];done),⟨hW1.out⟩,⟨hW2.out⟩⟩
    | true =>
     rw [hb1] at A1
     by_cases hb2 : nn ≠ (kk : Int)
     ·have BV : okCls l0_0 kk y = false:=by rw [HDF.out,hb1,decide_eq_false hb2];rfl
      have d2 : (nn != (kk : Int)) = true:=bne_iff_ne.2 hb2
      have d2' : (nn == (kk : Int)) = false:=beq_eq_false_iff_ne.2 hb2
      clear HDF HOK hb2
      go_wp2_with (first
     | (go_at_call 68;(with_reducible refine (impl_nameOk.calls _ y.f0 _ _ A1.out).mono ?_);rintro e w' ⟨rfl,hd⟩;have hb:=drawn_below hd;replace hW3:=pw_cell_below hb hW3;replace hW4:=pw_cell_below hb hW4;replace hW5:=pw_cell_below hb hW5;replace hW1:=a0_ (below_step hW1.out hb);replace hW2:=a0_ (blk_keptB hW2.out hb);clear hb hd)
     | (go_at_call 69;(with_reducible refine (HCN.out _ hW1.out).mono ?_);rintro e w' ⟨rfl,hb⟩;replace hW3:=pw_cell_below hb hW3;replace hW4:=pw_cell_below hb hW4;replace hW5:=pw_cell_below hb hW5;replace hW1:=a0_ (below_step hW1.out hb);replace hW2:=a0_ (blk_keptB hW2.out hb);clear hb)
     | (go_at_call 70;(with_reducible refine (impl_within.calls y.f1 0 ((kk : Int) - 1) _ _ A2.out).mono ?_);rintro e w' ⟨rfl,hd⟩;have hb:=drawn_below hd;replace hW3:=pw_cell_below hb hW3;replace hW4:=pw_cell_below hb hW4;replace hW5:=pw_cell_below hb hW5;replace hW1:=a0_ (below_step hW1.out hb);replace hW2:=a0_ (blk_keptB hW2.out hb);clear hb hd))
      go_meet
      case rel=>exact ⟨by (rw [BV]);first | rfl | (simp [*];done),⟨hW1.out⟩,⟨hW2.out⟩⟩
     ·have hnm : nn = (kk : Int):=Classical.byContradiction fun hn=>hb2 hn
      have d2 : (nn != (kk : Int)) = false:=bne_eq_false_iff_eq.2 hnm
      have d2' : (nn == (kk : Int)) = true:=beq_iff_eq.2 hnm
      have BV0 : okCls l0_0 kk y = (if kk = 0 then decide (y.f1 = -1) else decide (0 ≤ y.f1) && decide (y.f1 ≤ (kk : Int) - 1)):=by rw [HDF.out,hb1,decide_eq_true hnm];rfl
      clear HDF HOK hb2 hnm
      by_cases hk0 : kk = 0
      ·have BV : okCls l0_0 kk y = decide (y.f1 = -1):=by rw [BV0,if_pos hk0]
       have e0 : ((kk : Int) == 0) = true:=beq_iff_eq.2 (by omega)
       have e1 : decide (0 < (kk : Int)) = false:=decide_eq_false (by omega)
       have e1n : decide (0 < kk) = false:=decide_eq_false (by omega)
       clear BV0
       by_cases hp : y.f1 = -1
       ·have e2 : (y.f1 != -1) = false:=by rw [hp];rfl
        have e3 : (y.f1 == -1) = true:=by rw [hp];rfl
        rw [decide_eq_true hp] at BV
        clear hp hk0
        go_wp2_with (first
     | (go_at_call 68;(with_reducible refine (impl_nameOk.calls _ y.f0 _ _ A1.out).mono ?_);rintro e w' ⟨rfl,hd⟩;have hb:=drawn_below hd;replace hW3:=pw_cell_below hb hW3;replace hW4:=pw_cell_below hb hW4;replace hW5:=pw_cell_below hb hW5;replace hW1:=a0_ (below_step hW1.out hb);replace hW2:=a0_ (blk_keptB hW2.out hb);clear hb hd)
     | (go_at_call 69;(with_reducible refine (HCN.out _ hW1.out).mono ?_);rintro e w' ⟨rfl,hb⟩;replace hW3:=pw_cell_below hb hW3;replace hW4:=pw_cell_below hb hW4;replace hW5:=pw_cell_below hb hW5;replace hW1:=a0_ (below_step hW1.out hb);replace hW2:=a0_ (blk_keptB hW2.out hb);clear hb)
     | (go_at_call 70;(with_reducible refine (impl_within.calls y.f1 0 ((kk : Int) - 1) _ _ A2.out).mono ?_);rintro e w' ⟨rfl,hd⟩;have hb:=drawn_below hd;replace hW3:=pw_cell_below hb hW3;replace hW4:=pw_cell_below hb hW4;replace hW5:=pw_cell_below hb hW5;replace hW1:=a0_ (below_step hW1.out hb);replace hW2:=a0_ (blk_keptB hW2.out hb);clear hb hd))
        go_meet
        case rel=>exact ⟨by (rw [BV]);first | rfl | (simp [*];done),⟨hW1.out⟩,⟨hW2.out⟩⟩
       ·have e2 : (y.f1 != -1) = true:=bne_iff_ne.2 hp
        have e3 : (y.f1 == -1) = false:=beq_eq_false_iff_ne.2 hp
        rw [decide_eq_false hp] at BV
        clear hp hk0
        go_wp2_with (first
     | (go_at_call 68;(with_reducible refine (impl_nameOk.calls _ y.f0 _ _ A1.out).mono ?_);rintro e w' ⟨rfl,hd⟩;have hb:=drawn_below hd;replace hW3:=pw_cell_below hb hW3;replace hW4:=pw_cell_below hb hW4;replace hW5:=pw_cell_below hb hW5;replace hW1:=a0_ (below_step hW1.out hb);replace hW2:=a0_ (blk_keptB hW2.out hb);clear hb hd)
     | (go_at_call 69;(with_reducible refine (HCN.out _ hW1.out).mono ?_);rintro e w' ⟨rfl,hb⟩;replace hW3:=pw_cell_below hb hW3;replace hW4:=pw_cell_below hb hW4;replace hW5:=pw_cell_below hb hW5;replace hW1:=a0_ (below_step hW1.out hb);replace hW2:=a0_ (blk_keptB hW2.out hb);clear hb)
     | (go_at_call 70;(with_reducible refine (impl_within.calls y.f1 0 ((kk : Int) - 1) _ _ A2.out).mono ?_);rintro e w' ⟨rfl,hd⟩;have hb:=drawn_below hd;replace hW3:=pw_cell_below hb hW3;replace hW4:=pw_cell_below hb hW4;replace hW5:=pw_cell_below hb hW5;replace hW1:=a0_ (below_step hW1.out hb);replace hW2:=a0_ (blk_keptB hW2.out hb);clear hb hd))
        go_meet
        case rel=>exact ⟨by (rw [BV]);first | rfl | (simp [*];done),⟨hW1.out⟩,⟨hW2.out⟩⟩
      ·have BV : okCls l0_0 kk y = (decide (0 ≤ y.f1) && decide (y.f1 ≤ (kk : Int) - 1)):=by rw [BV0,if_neg hk0]
       have e0 : ((kk : Int) == 0) = false:=beq_eq_false_iff_ne.2 (by omega)
       have e1 : decide (0 < (kk : Int)) = true:=decide_eq_true (by omega)
       have e1n : decide (0 < kk) = true:=decide_eq_true (by omega)
       rw [← BV] at A2
       clear BV BV0 hk0
       cases BV : okCls l0_0 kk y with
       | false =>
        rw [BV] at A2
        go_wp2_with (first
     | (go_at_call 68;(with_reducible refine (impl_nameOk.calls _ y.f0 _ _ A1.out).mono ?_);rintro e w' ⟨rfl,hd⟩;have hb:=drawn_below hd;replace hW3:=pw_cell_below hb hW3;replace hW4:=pw_cell_below hb hW4;replace hW5:=pw_cell_below hb hW5;replace hW1:=a0_ (below_step hW1.out hb);replace hW2:=a0_ (blk_keptB hW2.out hb);clear hb hd)
     | (go_at_call 69;(with_reducible refine (HCN.out _ hW1.out).mono ?_);rintro e w' ⟨rfl,hb⟩;replace hW3:=pw_cell_below hb hW3;replace hW4:=pw_cell_below hb hW4;replace hW5:=pw_cell_below hb hW5;replace hW1:=a0_ (below_step hW1.out hb);replace hW2:=a0_ (blk_keptB hW2.out hb);clear hb)
     | (go_at_call 70;(with_reducible refine (impl_within.calls y.f1 0 ((kk : Int) - 1) _ _ A2.out).mono ?_);rintro e w' ⟨rfl,hd⟩;have hb:=drawn_below hd;replace hW3:=pw_cell_below hb hW3;replace hW4:=pw_cell_below hb hW4;replace hW5:=pw_cell_below hb hW5;replace hW1:=a0_ (below_step hW1.out hb);replace hW2:=a0_ (blk_keptB hW2.out hb);clear hb hd))
        go_meet
        case rel=>exact ⟨by (rw [BV]);first | rfl | (simp [*];done),⟨hW1.out⟩,⟨hW2.out⟩⟩
       | true =>
        rw [BV] at A2
        go_wp2_with (first
     | (go_at_call 68;(with_reducible refine (impl_nameOk.calls _ y.f0 _ _ A1.out).mono ?_);rintro e w' ⟨rfl,hd⟩;have hb:=drawn_below hd;replace hW3:=pw_cell_below hb hW3;replace hW4:=pw_cell_below hb hW4;replace hW5:=pw_cell_below hb hW5;replace hW1:=a0_ (below_step hW1.out hb);replace hW2:=a0_ (blk_keptB hW2.out hb);clear hb hd)
     | (go_at_call 69;(with_reducible refine (HCN.out _ hW1.out).mono ?_);rintro e w' ⟨rfl,hb⟩;replace hW3:=pw_cell_below hb hW3;replace hW4:=pw_cell_below hb hW4;replace hW5:=pw_cell_below hb hW5;replace hW1:=a0_ (below_step hW1.out hb);replace hW2:=a0_ (blk_keptB hW2.out hb);clear hb)
     | (go_at_call 70;(with_reducible refine (impl_within.calls y.f1 0 ((kk : Int) - 1) _ _ A2.out).mono ?_);rintro e w' ⟨rfl,hd⟩;have hb:=drawn_below hd;replace hW3:=pw_cell_below hb hW3;replace hW4:=pw_cell_below hb hW4;replace hW5:=pw_cell_below hb hW5;replace hW1:=a0_ (below_step hW1.out hb);replace hW2:=a0_ (blk_keptB hW2.out hb);clear hb hd))
        go_meet
        case rel=>exact ⟨by (rw [BV]);first | rfl | (simp [*];done),⟨hW1.out⟩,⟨hW2.out⟩⟩
   case rest =>
    obtain ⟨rfl,hW,hK⟩:=hcut
    have hb:=HOK.out
    cases BV : okCls l0_0 kk y with
    | false =>
     go_wp2
     go_ret
     refine ⟨?_,hW.out⟩
     rw [← HRr.out]
     have : vT l0_0 = false:=by
      cases hv : vT l0_0 with
      | false=>rfl
      | true=>have:=vT_at hv kk hlt;rw [HOK.out,BV] at this;cases this
     rw [this];rfl
    | true =>
     go_wp2
     go_roundg (l0_0.length - (kk + 1))
     case measure=>omega
     case rel =>
      refine ⟨kk + 1,by omega,by omega,by go_num,⟨hW.out⟩,⟨hK.out⟩,⟨fun j hj=>?_⟩⟩
      by_cases e : j = kk
      ·subst e;rw [HOK.out,BV]
      ·exact HA.out j (by omega)
  ·have hltz : ¬ (kk : Int) < (l0_0.length : Int):=by omega
   have : kk = l0_0.length:=by omega
   subst this
   have A3:=a0_ (show impl_within.f (l0_0.length : Int) 1 8 = some (vT l0_0) by
    have hall : (List.range l0_0.length).all (fun i=>okCls l0_0 i (l0_0.getD i z85)) = true:=by
     rw [List.all_eq_true];intro i hi;exact HA.out i (by simpa using hi)
    unfold impl_within.f vT
    rw [hall]
    by_cases h1 : (1 : Int) ≤ l0_0.length
    ·rw [if_pos h1]
     have h1' : 1 ≤ l0_0.length:=by omega
     by_cases h8 : l0_0.length ≤ 8
     ·simp [h1',h8];omega
     ·simp [h8];omega
    ·rw [if_neg h1]
     have h1' : ¬ 1 ≤ l0_0.length:=by omega
     simp [h1'])
   rw [HRr.out] at A3
   go_wp2_with (go_at_call 70;(with_reducible refine (impl_within.calls (l0_0.length : Int) 1 8 _ _ A3.out).mono ?_);rintro e w' ⟨rfl,⟨nd,rfl⟩⟩)
   go_ret
   exact ⟨rfl,pw_below_drewN BW.out _⟩
end Go.Proofs.Ytfphcdbnnienhaa.P
namespace Go.Proofs.Ytfphcdbnnienhaa.P
open Go.RowKit Go.Proofs.YtfphcdbnnienhaaW.PrintWords Go.Proofs.YtfphcdbnnienhaaW.PrintLast Go.Proofs.YtfphcdbnnienhaaW.PrintMore
attribute [local go_sem] max2_int min2_int max_two min_two max_three min_three max_four min_four
set_option linter.unusedVariables false
set_option linter.unusedSimpArgs false
def impl_Tree_has.f (l0_0 : List (S85)) (a1 : Int) : Option (Bool):=(impl_within.f a1 0 (wrap64 ((l0_0.length : Int) - 1))).bind fun t2=>(some t2)
set_option maxHeartbeats 8000000 in
set_option maxRecDepth 100000 in
theorem impl_Tree_has.calls (A0_0 : Option Addr) (c0_0 : Nat) (l0_0 : List (S85)) (a1 : Int) (r : Bool) (w : World) (hr0_0 : Kd.C k85 w A0_0 l0_0.length l0_0) (hc0_0 : l0_0.length ≤ c0_0) (h : impl_Tree_has.f l0_0 a1 = some r) :
  Calls Try.prog 44 #[.agg #[.slice A0_0 l0_0.length c0_0],.int .i64 a1] w fun e w'=>e = .returned (.bool r) ∧ Below w.heap.size w w':=by
 have hu25:=Try.underlying25
 have HR0_0:=a0_ hr0_0
 have HC0_0:=a0_ hc0_0
 clear hr0_0 hc0_0
 have HB:=a0_ (Below.refl w.heap.size w)
 have H : ((impl_within.f a1 0 (wrap64 ((l0_0.length : Int) - 1))).bind fun t2=>(some t2)) = some r:=h
 clear h
 replace H:=Option.bind_eq_some_iff.mp H
 obtain ⟨t2,A30,H⟩:=H
 replace H : (some t2) = some r:=H
 have A3:=a0_ A30
 clear A30
 obtain rfl:=Option.some.inj H
 go_enter Try.func44,Try.ntmps44
 go_wp2_with (first | ((with_reducible refine gate_dst (N:=2) rfl ?_);refine box_event ?hg (N:=2) ?hd (cs:=#[.slice A0_0 l0_0.length c0_0]) (t:=25) ?hr ?_;(case hd=>rfl);(case hg=>rfl);(case hr=>first | (go_simp;done) | (go_simp;rfl));intro gb1 hg w4 hbox hb;have BK1:=a0_ (hbox);have GW1:=a0_ ((by rw [hg];exact (below_size hb_) : w.heap.size ≤ gb1));have GE1:=a0_ ((by rw [hg];exact (below_size hb_) : w.heap.size ≤ gb1));replace HB:=a0_ (below_step hb_ hb);clear hb hbox hg;have hcz5_0 : w4.cell? ⟨gb1,0,none⟩ = some (.slice A0_0 l0_0.length c0_0):=(blk_cell BK1.out 0).trans rfl;have hfz5_0:=blk_frozen BK1.out 0) | ((with_reducible refine gate_callee (f:=70) rfl ?_);refine goesL_ (some 10) rfl rfl Try.func70 (by kernel_rfl) rfl #[.int .i64 a1,.int .i64 0,.int .i64 (wrap64 ((l0_0.length : Int) - 1))] rfl lm_ ?_;(with_reducible refine (impl_within.calls a1 0 (wrap64 ((l0_0.length : Int) - 1)) t2 _ A3.out).mono ?_);rintro e w' ⟨rfl,⟨nd,rfl⟩⟩;refine ⟨_,rfl,?_⟩))
 go_ret
 exact ⟨by first | rfl | (simp [errW_none,errW_some] <;> rfl) | (simp [*,errW_none,errW_some] <;> rfl),hb_⟩
theorem impl_Tree_has_ev (t : List Cls) (a : Int) (hl : t.length ≤ 9223372036854775807) : impl_Tree_has.f t a = some (hasC t a):=by
 unfold impl_Tree_has.f impl_within.f hasC
 rw [wrap_pred (by omega) (by omega)]
 by_cases h0 : a ≥ 0
 ·rw [if_pos h0]
  have h0' : 0 ≤ a:=h0
  simp only [Option.bind_some,Option.some.injEq,decide_eq_true h0',Bool.true_and]
  by_cases h1 : a < (t.length : Int)
  ·rw [decide_eq_true h1,decide_eq_true (by omega)]
  ·rw [decide_eq_false h1,decide_eq_false (by omega)]
 ·rw [if_neg h0]
  have h0' : ¬ 0 ≤ a:=h0
  simp [decide_eq_false h0']
end Go.Proofs.Ytfphcdbnnienhaa.P
namespace Go.Proofs.Ytfphcdbnnienhaa.P
open Go.RowKit Go.Proofs.YtfphcdbnnienhaaW.PrintWords Go.Proofs.YtfphcdbnnienhaaW.PrintLast Go.Proofs.YtfphcdbnnienhaaW.PrintMore
attribute [local go_sem] max2_int min2_int max_two min_two max_three min_three max_four min_four
set_option linter.unusedVariables false
set_option linter.unusedSimpArgs false
def impl_codeOk.f (a0 : Int) : Option (Bool):=(impl_within.f a0 0 99).bind fun t1=>(some t1)
set_option maxHeartbeats 8000000 in
set_option maxRecDepth 100000 in
theorem impl_codeOk.calls (a0 : Int) (r : Bool) (w : World) (h : impl_codeOk.f a0 = some r) :
  Calls Try.prog 71 #[.int .i64 a0] w fun e w'=>e = .returned (.bool r) ∧ Drawn0 w w':=by
 have H : ((impl_within.f a0 0 99).bind fun t1=>(some t1)) = some r:=h
 clear h
 replace H:=Option.bind_eq_some_iff.mp H
 obtain ⟨t1,A20,H⟩:=H
 replace H : (some t1) = some r:=H
 have A2:=a0_ A20
 clear A20
 obtain rfl:=Option.some.inj H
 go_enter Try.func71,Try.ntmps71
 go_wp2_with (first | ((with_reducible refine gate_callee (f:=70) rfl ?_);refine goesL_ (some 4) rfl rfl Try.func70 (by kernel_rfl) rfl #[.int .i64 a0,.int .i64 0,.int .i64 99] rfl lm_ ?_;(with_reducible refine (impl_within.calls a0 0 99 t1 _ A2.out).mono ?_);rintro e w' ⟨rfl,⟨nd,rfl⟩⟩;refine ⟨_,rfl,?_⟩))
 go_ret
 exact ⟨by first | rfl | (simp;done) | (simp [*];done),by repeat (first | exact Drawn0.refl _ | apply Drawn0.step)⟩
theorem impl_codeOk_ev (a : Int) : impl_codeOk.f a = some (decide (0 ≤ a) && decide (a ≤ 99)):=by
 unfold impl_codeOk.f
 rw [impl_within_ev]
 rfl
end Go.Proofs.Ytfphcdbnnienhaa.P
namespace Go.Proofs.Ytfphcdbnnienhaa.P
open Go.RowKit Go.Proofs.YtfphcdbnnienhaaW.PrintWords Go.Proofs.YtfphcdbnnienhaaW.PrintLast Go.Proofs.YtfphcdbnnienhaaW.PrintMore
attribute [local go_sem] max2_int min2_int max_two min_two max_three min_three max_four min_four
set_option linter.unusedVariables false
set_option linter.unusedSimpArgs false
mutual
def impl_partsOk.l0 : Nat → List (S47) → List (S47) → Int → Int → List (S85) → Option (Bool)
 | 0,_,_,_,_,_=>none
 | k + 1,x1,x8,x9,x10,x2000=>if x10 < x9 then (if 0 ≤ x10 then (if x10 < (x8.length : Int) then ((impl_codeOk.f ((rd_T47 x8 x10).f3)).bind fun t5=>(if t5 = true then ((impl_within.f ((rd_T47 x8 x10).f0) 0 5).bind fun t6=>(if t6 = true then (impl_partsOk.j1 k x1 x10 x8 x9 x10 ((((rd_T47 x8 x10).f0) == 0) != (x10 == 0)) x2000 ((rd_T47 x8 x10).f0) ((rd_T47 x8 x10).f1) ((rd_T47 x8 x10).f2) ((rd_T47 x8 x10).f3)) else (impl_partsOk.j1 k x1 x10 x8 x9 x10 true x2000 ((rd_T47 x8 x10).f0) ((rd_T47 x8 x10).f1) ((rd_T47 x8 x10).f2) ((rd_T47 x8 x10).f3)))) else (impl_partsOk.j1 k x1 x10 x8 x9 x10 true x2000 ((rd_T47 x8 x10).f0) ((rd_T47 x8 x10).f1) ((rd_T47 x8 x10).f2) ((rd_T47 x8 x10).f3)))) else (none)) else (none)) else ((impl_within.f (x1.length : Int) 1 16).bind fun t2=>(some t2))
def impl_partsOk.j1 : Nat → List (S47) → Int → List (S47) → Int → Int → Bool → List (S85) → Int → Bool → Int → Int → Option (Bool)
 | 0,_,_,_,_,_,_,_,_,_,_,_=>none
 | k + 1,x1,x5,x8,x9,x10,x32,x2000,x5000,x5001,x5002,x5003=>if x32 = true then (some false) else (if x5 > 0 then (if 0 ≤ (wrap64 (x5 - 1)) then (if (wrap64 (x5 - 1)) < (x1.length : Int) then (if x5000 > ((rd_T47 x1 (wrap64 (x5 - 1))).f0) then (if (rd_T47 x1 (wrap64 (x5 - 1))).f1 = true then (impl_partsOk.j2 k x1 x5 x8 x9 x10 (!(x5000 == (wrap64 (((rd_T47 x1 (wrap64 (x5 - 1))).f0) + 1)))) x2000 x5000 x5001 x5002 x5003) else (impl_partsOk.j2 k x1 x5 x8 x9 x10 (!false) x2000 x5000 x5001 x5002 x5003)) else (impl_partsOk.j2 k x1 x5 x8 x9 x10 false x2000 x5000 x5001 x5002 x5003)) else (none)) else (none)) else (impl_partsOk.j2 k x1 x5 x8 x9 x10 false x2000 x5000 x5001 x5002 x5003))
def impl_partsOk.j2 : Nat → List (S47) → Int → List (S47) → Int → Int → Bool → List (S85) → Int → Bool → Int → Int → Option (Bool)
 | 0,_,_,_,_,_,_,_,_,_,_,_=>none
 | k + 1,x1,x5,x8,x9,x10,x66,x2000,x5000,x5001,x5002,x5003=>if x66 = true then (some false) else (if (wrap64 (x5 + 1)) < (x1.length : Int) then (if 0 ≤ (wrap64 (x5 + 1)) then (if x5001 = true then (if x5002 = 0 then (if (((rd_T47 x1 (wrap64 (x5 + 1))).f0) > x5000) then (impl_partsOk.l0 k x1 x8 x9 (wrap64 (x10 + 1)) x2000) else (some false)) else (some false)) else ((impl_Tree_has.f x2000 x5002).bind fun t11=>(if t11 = true then (impl_partsOk.l0 k x1 x8 x9 (wrap64 (x10 + 1)) x2000) else (some false)))) else (none)) else (if x5001 = true then (if x5002 = 0 then (some false) else (some false)) else ((impl_Tree_has.f x2000 x5002).bind fun t12=>(if t12 = true then (impl_partsOk.l0 k x1 x8 x9 (wrap64 (x10 + 1)) x2000) else (some false)))))
end
def impl_partsOk.f (k : Nat) (l0_0 : List (S85)) (l1 : List (S47)) : Option (Bool):=impl_partsOk.l0 k l1 l1 (l1.length : Int) 0 l0_0
theorem impl_partsOk.mono_l : ∀ k,(∀ y0 y1 y2 y3 y4,LeO (impl_partsOk.l0 k y0 y1 y2 y3 y4) (impl_partsOk.l0 (k + 1) y0 y1 y2 y3 y4)) ∧ (∀ y0 y1 y2 y3 y4 y5 y6 y7 y8 y9 y10,LeO (impl_partsOk.j1 k y0 y1 y2 y3 y4 y5 y6 y7 y8 y9 y10) (impl_partsOk.j1 (k + 1) y0 y1 y2 y3 y4 y5 y6 y7 y8 y9 y10)) ∧ (∀ y0 y1 y2 y3 y4 y5 y6 y7 y8 y9 y10,LeO (impl_partsOk.j2 k y0 y1 y2 y3 y4 y5 y6 y7 y8 y9 y10) (impl_partsOk.j2 (k + 1) y0 y1 y2 y3 y4 y5 y6 y7 y8 y9 y10))
 | 0=>⟨fun _ _ _ _ _ r h=>by simp [impl_partsOk.l0] at h,fun _ _ _ _ _ _ _ _ _ _ _ r h=>by simp [impl_partsOk.j1] at h,fun _ _ _ _ _ _ _ _ _ _ _ r h=>by simp [impl_partsOk.j2] at h⟩
 | k + 1=>by
  obtain ⟨ih0,ih1,ih2⟩:=impl_partsOk.mono_l k
  refine ⟨?_,?_,?_⟩
  ·intro y0 y1 y2 y3 y4
   unfold impl_partsOk.l0
   repeat' first
   | (with_reducible exact ih0 _ _ _ _ _)
   | (with_reducible exact ih1 _ _ _ _ _ _ _ _ _ _ _)
   | (with_reducible exact ih2 _ _ _ _ _ _ _ _ _ _ _)
   | (with_reducible exact LeO.refl _)
   | (with_reducible exact LeO.none _)
   | (with_reducible refine LeO.ite ?_ ?_)
   | (with_reducible refine LeO.bind ?_ (fun _=>?_))
   | exact ih0 _ _ _ _ _
   | exact ih1 _ _ _ _ _ _ _ _ _ _ _
   | exact ih2 _ _ _ _ _ _ _ _ _ _ _
   | exact LeO.none _
   | refine LeO.ite ?_ ?_
   | refine LeO.bind ?_ (fun _=>?_)
  ·intro y0 y1 y2 y3 y4 y5 y6 y7 y8 y9 y10
   unfold impl_partsOk.j1
   repeat' first
   | (with_reducible exact ih0 _ _ _ _ _)
   | (with_reducible exact ih1 _ _ _ _ _ _ _ _ _ _ _)
   | (with_reducible exact ih2 _ _ _ _ _ _ _ _ _ _ _)
   | (with_reducible exact LeO.refl _)
   | (with_reducible exact LeO.none _)
   | (with_reducible refine LeO.ite ?_ ?_)
   | (with_reducible refine LeO.bind ?_ (fun _=>?_))
   | exact ih0 _ _ _ _ _
   | exact ih1 _ _ _ _ _ _ _ _ _ _ _
   | exact ih2 _ _ _ _ _ _ _ _ _ _ _
   | exact LeO.none _
   | refine LeO.ite ?_ ?_
   | refine LeO.bind ?_ (fun _=>?_)
  ·intro y0 y1 y2 y3 y4 y5 y6 y7 y8 y9 y10
   unfold impl_partsOk.j2
   repeat' first
   | (with_reducible exact ih0 _ _ _ _ _)
   | (with_reducible exact ih1 _ _ _ _ _ _ _ _ _ _ _)
   | (with_reducible exact ih2 _ _ _ _ _ _ _ _ _ _ _)
   | (with_reducible exact LeO.refl _)
   | (with_reducible exact LeO.none _)
   | (with_reducible refine LeO.ite ?_ ?_)
   | (with_reducible refine LeO.bind ?_ (fun _=>?_))
   | exact ih0 _ _ _ _ _
   | exact ih1 _ _ _ _ _ _ _ _ _ _ _
   | exact ih2 _ _ _ _ _ _ _ _ _ _ _
   | exact LeO.none _
   | refine LeO.ite ?_ ?_
   | refine LeO.bind ?_ (fun _=>?_)
theorem impl_partsOk.mono : ∀ a0 a1 k,LeO (impl_partsOk.f k a0 a1) (impl_partsOk.f (k + 1) a0 a1):=by
 intro a0 a1 k
 obtain ⟨ih0,ih1,ih2⟩:=impl_partsOk.mono_l k
 unfold impl_partsOk.f
 repeat' first
   | (with_reducible exact ih0 _ _ _ _ _)
   | (with_reducible exact ih1 _ _ _ _ _ _ _ _ _ _ _)
   | (with_reducible exact ih2 _ _ _ _ _ _ _ _ _ _ _)
   | (with_reducible exact LeO.refl _)
   | (with_reducible exact LeO.none _)
   | (with_reducible refine LeO.ite ?_ ?_)
   | (with_reducible refine LeO.bind ?_ (fun _=>?_))
   | exact ih0 _ _ _ _ _
   | exact ih1 _ _ _ _ _ _ _ _ _ _ _
   | exact ih2 _ _ _ _ _ _ _ _ _ _ _
   | exact LeO.none _
   | refine LeO.ite ?_ ?_
   | refine LeO.bind ?_ (fun _=>?_)
set_option maxHeartbeats 8000000 in
set_option maxRecDepth 100000 in
theorem impl_partsOk.calls (k : Nat) (A0_0 : Option Addr) (c0_0 : Nat) (l0_0 : List (S85)) (A1 : Option Addr) (c1 : Nat) (l1 : List (S47)) (r : Bool) (w : World) (hr0_0 : Kd.C k85 w A0_0 l0_0.length l0_0) (hc0_0 : l0_0.length ≤ c0_0) (hr1 : Kd.C k47 w A1 l1.length l1) (hc1 : l1.length ≤ c1) (h : impl_partsOk.f k l0_0 l1 = some r) :
  Calls Try.prog 42 #[.agg #[.slice A0_0 l0_0.length c0_0],.slice A1 l1.length c1] w fun e w'=>e = .returned (.bool r) ∧ Below w.heap.size w w':=by
 have hu25:=Try.underlying25
 have hu47:=Try.underlying47
 have HR0_0:=a0_ hr0_0
 have HC0_0:=a0_ hc0_0
 clear hr0_0 hc0_0
 have HR1:=a0_ hr1
 have HC1:=a0_ hc1
 clear hr1 hc1
 have HB:=a0_ (Below.refl w.heap.size w)
 have H : (impl_partsOk.l0 k l1 l1 (l1.length : Int) 0 l0_0) = some r:=h
 clear h
 have H':=a0_ H
 clear H
 go_enter Try.func42,Try.ntmps42
 go_wp2_with (first | ((with_reducible refine gate_dst (N:=2) rfl ?_);refine box_event ?hg (N:=2) ?hd (cs:=#[.slice A0_0 l0_0.length c0_0]) (t:=25) ?hr ?_;(case hd=>rfl);(case hg=>rfl);(case hr=>first | (go_simp;done) | (go_simp;rfl));intro gb1 hg w3 hbox hb;have BK1:=a0_ (hbox);have GW1:=a0_ ((by rw [hg];exact (below_size hb_) : w.heap.size ≤ gb1));have GE1:=a0_ ((by rw [hg];exact (below_size hb_) : w.heap.size ≤ gb1));replace HB:=a0_ (below_step hb_ hb);clear hb hbox hg))
 repeat (go_quiet (first | ((with_reducible refine gate_dst (N:=2) rfl ?_);refine box_event ?hg (N:=2) ?hd (cs:=#[.slice A0_0 l0_0.length c0_0]) (t:=25) ?hr ?_;(case hd=>rfl);(case hg=>rfl);(case hr=>first | (go_simp;done) | (go_simp;rfl));intro gb1 hg w3 hbox hb;have BK1:=a0_ (hbox);have GW1:=a0_ ((by rw [hg];exact (below_size hb_) : w.heap.size ≤ gb1));have GE1:=a0_ ((by rw [hg];exact (below_size hb_) : w.heap.size ≤ gb1));replace HB:=a0_ (below_step hb_ hb);clear hb hbox hg));try go_wp2_with (first | ((with_reducible refine gate_dst (N:=2) rfl ?_);refine box_event ?hg (N:=2) ?hd (cs:=#[.slice A0_0 l0_0.length c0_0]) (t:=25) ?hr ?_;(case hd=>rfl);(case hg=>rfl);(case hr=>first | (go_simp;done) | (go_simp;rfl));intro gb1 hg w3 hbox hb;have BK1:=a0_ (hbox);have GW1:=a0_ ((by rw [hg];exact (below_size hb_) : w.heap.size ≤ gb1));have GE1:=a0_ ((by rw [hg];exact (below_size hb_) : w.heap.size ≤ gb1));replace HB:=a0_ (below_step hb_ hb);clear hb hbox hg)))
 go_loopg [10] k (fun kq v10 w'=>∃ (x10_1 : Int),v10 = .int .i64 x10_1 ∧ Aside0 (impl_partsOk.l0 kq l1 l1 (l1.length : Int) x10_1 l0_0 = some r) ∧ Aside0 (kq ≤ k) ∧ Aside0 (w'.heap[gb1]? = some (.cells #[(.slice A0_0 l0_0.length c0_0)] 25 (0,0))) ∧ Aside0 (Below w.heap.size w w'))
 case atStart=>exact ⟨(0),(by first | rfl | (simp;done) | (simp [*];done)),H',⟨Nat.le_refl _⟩,⟨by (with_reducible repeat (first | refine blk_drewN ?_ _ | refine blk_drew ?_ | refine blk_alloc ?_ _));exact BK1.out⟩,⟨hb_⟩⟩
 case round =>
  clear H'
  try clear c1
  try clear p2
  obtain ⟨x10_1,rfl,HA,HK1,BK1,HB⟩:=hrel
  cases gk with
  | zero=>exact absurd HA.out (by simp [impl_partsOk.l0])
  | succ k1 =>
   have H:=HA.out
   clear HA
   simp only [impl_partsOk.l0] at H
   by_cases c4 : x10_1 < (l1.length : Int)
   ·rw [if_pos c4] at H
    have c4b0 : decide (x10_1 < (l1.length : Int)) = true:=decide_eq_true c4
    clear c4
    by_cases c5 : 0 ≤ x10_1
    ·rw [if_pos c5] at H
     have c5b0 : decide (0 ≤ x10_1) = true:=decide_eq_true c5
     clear c5
     by_cases c6 : x10_1 < (l1.length : Int)
     ·rw [if_pos c6] at H
      have c6b0 : decide (x10_1 < (l1.length : Int)) = true:=decide_eq_true c6
      clear c6
      have HC7:=a0_ H
      clear H
      have p3 : 0 ≤ (x10_1 : Int):=of_decide_eq_true (by first | (with_reducible assumption) | assumption)
      have q3 : x10_1 < (l1.length : Int):=of_decide_eq_true (by first | (with_reducible assumption) | assumption)
      obtain ⟨ad3,e3,hx3_0,hx3_1,hx3_2,hx3_3⟩:=at_T47 HR1.out x10_1 p3 q3
      cases e3
      replace hx3_0:=(HB.out.cell (World.block_lt_of_cell? w _ hx3_0)).trans hx3_0
      replace hx3_1:=(HB.out.cell (World.block_lt_of_cell? w _ hx3_1)).trans hx3_1
      replace hx3_2:=(HB.out.cell (World.block_lt_of_cell? w _ hx3_2)).trans hx3_2
      replace hx3_3:=(HB.out.cell (World.block_lt_of_cell? w _ hx3_3)).trans hx3_3
      replace p3:=eq_true p3
      replace q3:=eq_true q3
      go_upto_region 4 with (first | ((with_reducible refine gate_dst (N:=6) rfl ?_);refine box_event ?hg (N:=6) ?hd (cs:=#[.int .i64 0,.bool false,.int .i64 0,.int .i64 0]) (t:=47) ?hr ?_;(case hd=>rfl);(case hg=>rfl);(case hr=>first | (go_simp;done) | (go_simp;rfl));intro gb4 hg w8 hbox hb;have n0_:=kb_ BK1 hb;have n1_:=a0_ (below_step hb_ hb);have n2_:=a0_ (hbox);have n3_:=a0_ ((by rw [hg];exact (below_size hb_) : w.heap.size ≤ gb4));have n4_:=a0_ ((by rw [hg];exact (below_size hb_) : w.heap.size ≤ gb4));have n5_:=a0_ ((by rw [hg];exact Nat.ne_of_lt (blk_lt (bb_ BK1.out)) : gb1 ≠ gb4));have n6_:=a0_ ((by rw [hg];exact Nat.ne_of_gt (blk_lt (bb_ BK1.out)) : gb4 ≠ gb1));clear BK1 HB;have BK1:=n0_;have HB:=n1_;have BK4:=n2_;have GW4:=n3_;have GE4:=n4_;have NB1_4:=n5_;have NB4_1:=n6_;clear n0_ n1_ n2_ n3_ n4_ n5_ n6_;clear hb hbox hg;have hnb9:=NB4_1.out;have hnc9:=NB1_4.out;have hcz10_0 : w8.cell? ⟨gb4,0,none⟩ = some (.int .i64 0):=(blk_cell BK4.out 0).trans rfl;have hcz10_1 : w8.cell? ⟨gb4,1,none⟩ = some (.bool false):=(blk_cell BK4.out 1).trans rfl;have hcz10_2 : w8.cell? ⟨gb4,2,none⟩ = some (.int .i64 0):=(blk_cell BK4.out 2).trans rfl;have hcz10_3 : w8.cell? ⟨gb4,3,none⟩ = some (.int .i64 0):=(blk_cell BK4.out 3).trans rfl;have hfz10_0:=blk_frozen BK4.out 0;have hfz10_1:=blk_frozen BK4.out 1;have hfz10_2:=blk_frozen BK4.out 2;have hfz10_3:=blk_frozen BK4.out 3))
      repeat (go_quiet (first | ((with_reducible refine gate_dst (N:=6) rfl ?_);refine box_event ?hg (N:=6) ?hd (cs:=#[.int .i64 0,.bool false,.int .i64 0,.int .i64 0]) (t:=47) ?hr ?_;(case hd=>rfl);(case hg=>rfl);(case hr=>first | (go_simp;done) | (go_simp;rfl));intro gb4 hg w8 hbox hb;have n0_:=kb_ BK1 hb;have n1_:=a0_ (below_step hb_ hb);have n2_:=a0_ (hbox);have n3_:=a0_ ((by rw [hg];exact (below_size hb_) : w.heap.size ≤ gb4));have n4_:=a0_ ((by rw [hg];exact (below_size hb_) : w.heap.size ≤ gb4));have n5_:=a0_ ((by rw [hg];exact Nat.ne_of_lt (blk_lt (bb_ BK1.out)) : gb1 ≠ gb4));have n6_:=a0_ ((by rw [hg];exact Nat.ne_of_gt (blk_lt (bb_ BK1.out)) : gb4 ≠ gb1));clear BK1 HB;have BK1:=n0_;have HB:=n1_;have BK4:=n2_;have GW4:=n3_;have GE4:=n4_;have NB1_4:=n5_;have NB4_1:=n6_;clear n0_ n1_ n2_ n3_ n4_ n5_ n6_;clear hb hbox hg;have hnb9:=NB4_1.out;have hnc9:=NB1_4.out;have hcz10_0 : w8.cell? ⟨gb4,0,none⟩ = some (.int .i64 0):=(blk_cell BK4.out 0).trans rfl;have hcz10_1 : w8.cell? ⟨gb4,1,none⟩ = some (.bool false):=(blk_cell BK4.out 1).trans rfl;have hcz10_2 : w8.cell? ⟨gb4,2,none⟩ = some (.int .i64 0):=(blk_cell BK4.out 2).trans rfl;have hcz10_3 : w8.cell? ⟨gb4,3,none⟩ = some (.int .i64 0):=(blk_cell BK4.out 3).trans rfl;have hfz10_0:=blk_frozen BK4.out 0;have hfz10_1:=blk_frozen BK4.out 1;have hfz10_2:=blk_frozen BK4.out 2;have hfz10_3:=blk_frozen BK4.out 3));go_upto_region 4 with (first | ((with_reducible refine gate_dst (N:=6) rfl ?_);refine box_event ?hg (N:=6) ?hd (cs:=#[.int .i64 0,.bool false,.int .i64 0,.int .i64 0]) (t:=47) ?hr ?_;(case hd=>rfl);(case hg=>rfl);(case hr=>first | (go_simp;done) | (go_simp;rfl));intro gb4 hg w8 hbox hb;have n0_:=kb_ BK1 hb;have n1_:=a0_ (below_step hb_ hb);have n2_:=a0_ (hbox);have n3_:=a0_ ((by rw [hg];exact (below_size hb_) : w.heap.size ≤ gb4));have n4_:=a0_ ((by rw [hg];exact (below_size hb_) : w.heap.size ≤ gb4));have n5_:=a0_ ((by rw [hg];exact Nat.ne_of_lt (blk_lt (bb_ BK1.out)) : gb1 ≠ gb4));have n6_:=a0_ ((by rw [hg];exact Nat.ne_of_gt (blk_lt (bb_ BK1.out)) : gb4 ≠ gb1));clear BK1 HB;have BK1:=n0_;have HB:=n1_;have BK4:=n2_;have GW4:=n3_;have GE4:=n4_;have NB1_4:=n5_;have NB4_1:=n6_;clear n0_ n1_ n2_ n3_ n4_ n5_ n6_;clear hb hbox hg;have hnb9:=NB4_1.out;have hnc9:=NB1_4.out;have hcz10_0 : w8.cell? ⟨gb4,0,none⟩ = some (.int .i64 0):=(blk_cell BK4.out 0).trans rfl;have hcz10_1 : w8.cell? ⟨gb4,1,none⟩ = some (.bool false):=(blk_cell BK4.out 1).trans rfl;have hcz10_2 : w8.cell? ⟨gb4,2,none⟩ = some (.int .i64 0):=(blk_cell BK4.out 2).trans rfl;have hcz10_3 : w8.cell? ⟨gb4,3,none⟩ = some (.int .i64 0):=(blk_cell BK4.out 3).trans rfl;have hfz10_0:=blk_frozen BK4.out 0;have hfz10_1:=blk_frozen BK4.out 1;have hfz10_2:=blk_frozen BK4.out 2;have hfz10_3:=blk_frozen BK4.out 3)))
      (try simp only [Act.put,s1_,s2_,s3_])
      go_cut [32] (fun v32 wc=>∃ (kq : Nat) (x32_6 : Bool),v32 = .bool x32_6 ∧ Aside0 (impl_partsOk.j1 kq l1 x10_1 l1 (l1.length : Int) x10_1 x32_6 l0_0 ((rd_T47 l1 x10_1).f0) ((rd_T47 l1 x10_1).f1) ((rd_T47 l1 x10_1).f2) ((rd_T47 l1 x10_1).f3) = some r) ∧ Aside0 (kq ≤ k1) ∧ Aside0 (wc.heap[gb1]? = some (.cells #[(.slice A0_0 l0_0.length c0_0)] 25 (0,0))) ∧ Aside0 (wc.heap[gb4]? = some (.cells #[.int .i64 ((rd_T47 l1 x10_1).f0),.bool ((rd_T47 l1 x10_1).f1),.int .i64 ((rd_T47 l1 x10_1).f2),.int .i64 ((rd_T47 l1 x10_1).f3)] 47 (0,0))) ∧ Aside0 (Below w.heap.size w wc))
      case first =>
       have H:=HC7.out
       clear HC7
       replace H:=Option.bind_eq_some_iff.mp H
       obtain ⟨t5,A110,H⟩:=H
       try dsimp only at H
       have A11:=a0_ A110
       clear A110
       by_cases c12 : t5 = true
       ·subst c12
        have H1 : ((impl_within.f ((rd_T47 l1 x10_1).f0) 0 5).bind fun t6=>(if t6 = true then (impl_partsOk.j1 k1 l1 x10_1 l1 (l1.length : Int) x10_1 ((((rd_T47 l1 x10_1).f0) == 0) != (x10_1 == 0)) l0_0 ((rd_T47 l1 x10_1).f0) ((rd_T47 l1 x10_1).f1) ((rd_T47 l1 x10_1).f2) ((rd_T47 l1 x10_1).f3)) else (impl_partsOk.j1 k1 l1 x10_1 l1 (l1.length : Int) x10_1 true l0_0 ((rd_T47 l1 x10_1).f0) ((rd_T47 l1 x10_1).f1) ((rd_T47 l1 x10_1).f2) ((rd_T47 l1 x10_1).f3)))) = some r:=by rw [if_pos rfl] at H;exact H
        clear H
        have H:=H1
        clear H1
        replace H:=Option.bind_eq_some_iff.mp H
        obtain ⟨t6,A130,H⟩:=H
        try dsimp only at H
        have A13:=a0_ A130
        clear A130
        by_cases c14 : t6 = true
        ·subst c14
         have H1 : (impl_partsOk.j1 k1 l1 x10_1 l1 (l1.length : Int) x10_1 ((((rd_T47 l1 x10_1).f0) == 0) != (x10_1 == 0)) l0_0 ((rd_T47 l1 x10_1).f0) ((rd_T47 l1 x10_1).f1) ((rd_T47 l1 x10_1).f2) ((rd_T47 l1 x10_1).f3)) = some r:=by rw [if_pos rfl] at H;exact H
         clear H
         have H:=H1
         clear H1
         have H':=a0_ H
         clear H
         have hnb15:=NB4_1.out
         have hnc15:=NB1_4.out
         have hcz16_0 : w8.cell? ⟨gb4,0,none⟩ = some (.int .i64 0):=(blk_cell BK4.out 0).trans rfl
         have hcz16_1 : w8.cell? ⟨gb4,1,none⟩ = some (.bool false):=(blk_cell BK4.out 1).trans rfl
         have hcz16_2 : w8.cell? ⟨gb4,2,none⟩ = some (.int .i64 0):=(blk_cell BK4.out 2).trans rfl
         have hcz16_3 : w8.cell? ⟨gb4,3,none⟩ = some (.int .i64 0):=(blk_cell BK4.out 3).trans rfl
         have hfz16_0:=blk_frozen BK4.out 0
         have hfz16_1:=blk_frozen BK4.out 1
         have hfz16_2:=blk_frozen BK4.out 2
         have hfz16_3:=blk_frozen BK4.out 3
         go_wp2_with (first | (go_at_call 71;(with_reducible refine (impl_codeOk.calls ((rd_T47 l1 x10_1).f3) true _ A11.out).mono ?_);rintro e w' ⟨rfl,⟨nd,rfl⟩⟩;(try first | exact ⟨rfl,_,World.drewN_drewN _ _ _⟩ | exact ⟨rfl,_,Eq.trans (World.drewN_drewN _ _ _) (congrArg (World.drewN _) (Nat.add_assoc _ _ _))⟩)) | (go_at_call 70;(with_reducible refine (impl_within.calls ((rd_T47 l1 x10_1).f0) 0 5 true _ A13.out).mono ?_);rintro e w' ⟨rfl,⟨nd,rfl⟩⟩;(try first | exact ⟨rfl,_,World.drewN_drewN _ _ _⟩ | exact ⟨rfl,_,Eq.trans (World.drewN_drewN _ _ _) (congrArg (World.drewN _) (Nat.add_assoc _ _ _))⟩)))
         repeat (go_quiet (first | (go_at_call 71;(with_reducible refine (impl_codeOk.calls ((rd_T47 l1 x10_1).f3) true _ A11.out).mono ?_);rintro e w' ⟨rfl,⟨nd,rfl⟩⟩;(try first | exact ⟨rfl,_,World.drewN_drewN _ _ _⟩ | exact ⟨rfl,_,Eq.trans (World.drewN_drewN _ _ _) (congrArg (World.drewN _) (Nat.add_assoc _ _ _))⟩)) | (go_at_call 70;(with_reducible refine (impl_within.calls ((rd_T47 l1 x10_1).f0) 0 5 true _ A13.out).mono ?_);rintro e w' ⟨rfl,⟨nd,rfl⟩⟩;(try first | exact ⟨rfl,_,World.drewN_drewN _ _ _⟩ | exact ⟨rfl,_,Eq.trans (World.drewN_drewN _ _ _) (congrArg (World.drewN _) (Nat.add_assoc _ _ _))⟩)));try go_wp2_with (first | (go_at_call 71;(with_reducible refine (impl_codeOk.calls ((rd_T47 l1 x10_1).f3) true _ A11.out).mono ?_);rintro e w' ⟨rfl,⟨nd,rfl⟩⟩;(try first | exact ⟨rfl,_,World.drewN_drewN _ _ _⟩ | exact ⟨rfl,_,Eq.trans (World.drewN_drewN _ _ _) (congrArg (World.drewN _) (Nat.add_assoc _ _ _))⟩)) | (go_at_call 70;(with_reducible refine (impl_within.calls ((rd_T47 l1 x10_1).f0) 0 5 true _ A13.out).mono ?_);rintro e w' ⟨rfl,⟨nd,rfl⟩⟩;(try first | exact ⟨rfl,_,World.drewN_drewN _ _ _⟩ | exact ⟨rfl,_,Eq.trans (World.drewN_drewN _ _ _) (congrArg (World.drewN _) (Nat.add_assoc _ _ _))⟩))))
         go_meet
         case rel=>exact ⟨_,(((((rd_T47 l1 x10_1).f0) == 0) != (x10_1 == 0))),(by first | rfl | (simp;done) | (simp [*];done)),H',⟨by have:=HK1.out;first | omega | exact Nat.le_refl _⟩,⟨by (with_reducible repeat (first | refine blk_drewN ?_ _ | refine blk_drew ?_ | refine blk_alloc ?_ _));refine blk_far ?_ NB1_4.out _;(with_reducible repeat (first | refine blk_drewN ?_ _ | refine blk_drew ?_ | refine blk_alloc ?_ _));refine blk_far ?_ NB1_4.out _;(with_reducible repeat (first | refine blk_drewN ?_ _ | refine blk_drew ?_ | refine blk_alloc ?_ _));refine blk_far ?_ NB1_4.out _;(with_reducible repeat (first | refine blk_drewN ?_ _ | refine blk_drew ?_ | refine blk_alloc ?_ _));refine blk_far ?_ NB1_4.out _;(with_reducible repeat (first | refine blk_drewN ?_ _ | refine blk_drew ?_ | refine blk_alloc ?_ _));exact BK1.out⟩,⟨by (with_reducible repeat (first | refine blk_drewN ?_ _ | refine blk_drew ?_ | refine blk_alloc ?_ _));refine blk_put (cs:=#[.int .i64 ((rd_T47 l1 x10_1).f0),.bool ((rd_T47 l1 x10_1).f1),.int .i64 ((rd_T47 l1 x10_1).f2),.int .i64 0]) ?_ 3 _ rfl;(with_reducible repeat (first | refine blk_drewN ?_ _ | refine blk_drew ?_ | refine blk_alloc ?_ _));refine blk_put (cs:=#[.int .i64 ((rd_T47 l1 x10_1).f0),.bool ((rd_T47 l1 x10_1).f1),.int .i64 0,.int .i64 0]) ?_ 2 _ rfl;(with_reducible repeat (first | refine blk_drewN ?_ _ | refine blk_drew ?_ | refine blk_alloc ?_ _));refine blk_put (cs:=#[.int .i64 ((rd_T47 l1 x10_1).f0),.bool false,.int .i64 0,.int .i64 0]) ?_ 1 _ rfl;(with_reducible repeat (first | refine blk_drewN ?_ _ | refine blk_drew ?_ | refine blk_alloc ?_ _));refine blk_put (cs:=#[.int .i64 0,.bool false,.int .i64 0,.int .i64 0]) ?_ 0 _ rfl;(with_reducible repeat (first | refine blk_drewN ?_ _ | refine blk_drew ?_ | refine blk_alloc ?_ _));exact BK4.out⟩,⟨hb_⟩⟩
        ·replace c14:=Bool.eq_false_iff.mpr c14
         subst c14
         have H1 : (impl_partsOk.j1 k1 l1 x10_1 l1 (l1.length : Int) x10_1 true l0_0 ((rd_T47 l1 x10_1).f0) ((rd_T47 l1 x10_1).f1) ((rd_T47 l1 x10_1).f2) ((rd_T47 l1 x10_1).f3)) = some r:=by rw [if_neg (show ¬ (false = true) by decide)] at H;exact H
         clear H
         have H:=H1
         clear H1
         have H':=a0_ H
         clear H
         have hnb17:=NB4_1.out
         have hnc17:=NB1_4.out
         have hcz18_0 : w8.cell? ⟨gb4,0,none⟩ = some (.int .i64 0):=(blk_cell BK4.out 0).trans rfl
         have hcz18_1 : w8.cell? ⟨gb4,1,none⟩ = some (.bool false):=(blk_cell BK4.out 1).trans rfl
         have hcz18_2 : w8.cell? ⟨gb4,2,none⟩ = some (.int .i64 0):=(blk_cell BK4.out 2).trans rfl
         have hcz18_3 : w8.cell? ⟨gb4,3,none⟩ = some (.int .i64 0):=(blk_cell BK4.out 3).trans rfl
         have hfz18_0:=blk_frozen BK4.out 0
         have hfz18_1:=blk_frozen BK4.out 1
         have hfz18_2:=blk_frozen BK4.out 2
         have hfz18_3:=blk_frozen BK4.out 3
         go_wp2_with (first | (go_at_call 71;(with_reducible refine (impl_codeOk.calls ((rd_T47 l1 x10_1).f3) true _ A11.out).mono ?_);rintro e w' ⟨rfl,⟨nd,rfl⟩⟩;(try first | exact ⟨rfl,_,World.drewN_drewN _ _ _⟩ | exact ⟨rfl,_,Eq.trans (World.drewN_drewN _ _ _) (congrArg (World.drewN _) (Nat.add_assoc _ _ _))⟩)) | (go_at_call 70;(with_reducible refine (impl_within.calls ((rd_T47 l1 x10_1).f0) 0 5 false _ A13.out).mono ?_);rintro e w' ⟨rfl,⟨nd,rfl⟩⟩;(try first | exact ⟨rfl,_,World.drewN_drewN _ _ _⟩ | exact ⟨rfl,_,Eq.trans (World.drewN_drewN _ _ _) (congrArg (World.drewN _) (Nat.add_assoc _ _ _))⟩)))
         repeat (go_quiet (first | (go_at_call 71;(with_reducible refine (impl_codeOk.calls ((rd_T47 l1 x10_1).f3) true _ A11.out).mono ?_);rintro e w' ⟨rfl,⟨nd,rfl⟩⟩;(try first | exact ⟨rfl,_,World.drewN_drewN _ _ _⟩ | exact ⟨rfl,_,Eq.trans (World.drewN_drewN _ _ _) (congrArg (World.drewN _) (Nat.add_assoc _ _ _))⟩)) | (go_at_call 70;(with_reducible refine (impl_within.calls ((rd_T47 l1 x10_1).f0) 0 5 false _ A13.out).mono ?_);rintro e w' ⟨rfl,⟨nd,rfl⟩⟩;(try first | exact ⟨rfl,_,World.drewN_drewN _ _ _⟩ | exact ⟨rfl,_,Eq.trans (World.drewN_drewN _ _ _) (congrArg (World.drewN _) (Nat.add_assoc _ _ _))⟩)));try go_wp2_with (first | (go_at_call 71;(with_reducible refine (impl_codeOk.calls ((rd_T47 l1 x10_1).f3) true _ A11.out).mono ?_);rintro e w' ⟨rfl,⟨nd,rfl⟩⟩;(try first | exact ⟨rfl,_,World.drewN_drewN _ _ _⟩ | exact ⟨rfl,_,Eq.trans (World.drewN_drewN _ _ _) (congrArg (World.drewN _) (Nat.add_assoc _ _ _))⟩)) | (go_at_call 70;(with_reducible refine (impl_within.calls ((rd_T47 l1 x10_1).f0) 0 5 false _ A13.out).mono ?_);rintro e w' ⟨rfl,⟨nd,rfl⟩⟩;(try first | exact ⟨rfl,_,World.drewN_drewN _ _ _⟩ | exact ⟨rfl,_,Eq.trans (World.drewN_drewN _ _ _) (congrArg (World.drewN _) (Nat.add_assoc _ _ _))⟩))))
         go_meet
         case rel=>exact ⟨_,(true),(by first | rfl | (simp;done) | (simp [*];done)),H',⟨by have:=HK1.out;first | omega | exact Nat.le_refl _⟩,⟨by (with_reducible repeat (first | refine blk_drewN ?_ _ | refine blk_drew ?_ | refine blk_alloc ?_ _));refine blk_far ?_ NB1_4.out _;(with_reducible repeat (first | refine blk_drewN ?_ _ | refine blk_drew ?_ | refine blk_alloc ?_ _));refine blk_far ?_ NB1_4.out _;(with_reducible repeat (first | refine blk_drewN ?_ _ | refine blk_drew ?_ | refine blk_alloc ?_ _));refine blk_far ?_ NB1_4.out _;(with_reducible repeat (first | refine blk_drewN ?_ _ | refine blk_drew ?_ | refine blk_alloc ?_ _));refine blk_far ?_ NB1_4.out _;(with_reducible repeat (first | refine blk_drewN ?_ _ | refine blk_drew ?_ | refine blk_alloc ?_ _));exact BK1.out⟩,⟨by (with_reducible repeat (first | refine blk_drewN ?_ _ | refine blk_drew ?_ | refine blk_alloc ?_ _));refine blk_put (cs:=#[.int .i64 ((rd_T47 l1 x10_1).f0),.bool ((rd_T47 l1 x10_1).f1),.int .i64 ((rd_T47 l1 x10_1).f2),.int .i64 0]) ?_ 3 _ rfl;(with_reducible repeat (first | refine blk_drewN ?_ _ | refine blk_drew ?_ | refine blk_alloc ?_ _));refine blk_put (cs:=#[.int .i64 ((rd_T47 l1 x10_1).f0),.bool ((rd_T47 l1 x10_1).f1),.int .i64 0,.int .i64 0]) ?_ 2 _ rfl;(with_reducible repeat (first | refine blk_drewN ?_ _ | refine blk_drew ?_ | refine blk_alloc ?_ _));refine blk_put (cs:=#[.int .i64 ((rd_T47 l1 x10_1).f0),.bool false,.int .i64 0,.int .i64 0]) ?_ 1 _ rfl;(with_reducible repeat (first | refine blk_drewN ?_ _ | refine blk_drew ?_ | refine blk_alloc ?_ _));refine blk_put (cs:=#[.int .i64 0,.bool false,.int .i64 0,.int .i64 0]) ?_ 0 _ rfl;(with_reducible repeat (first | refine blk_drewN ?_ _ | refine blk_drew ?_ | refine blk_alloc ?_ _));exact BK4.out⟩,⟨hb_⟩⟩
       ·replace c12:=Bool.eq_false_iff.mpr c12
        subst c12
        have H1 : (impl_partsOk.j1 k1 l1 x10_1 l1 (l1.length : Int) x10_1 true l0_0 ((rd_T47 l1 x10_1).f0) ((rd_T47 l1 x10_1).f1) ((rd_T47 l1 x10_1).f2) ((rd_T47 l1 x10_1).f3)) = some r:=by rw [if_neg (show ¬ (false = true) by decide)] at H;exact H
        clear H
        have H:=H1
        clear H1
        have H':=a0_ H
        clear H
        have hnb19:=NB4_1.out
        have hnc19:=NB1_4.out
        have hcz20_0 : w8.cell? ⟨gb4,0,none⟩ = some (.int .i64 0):=(blk_cell BK4.out 0).trans rfl
        have hcz20_1 : w8.cell? ⟨gb4,1,none⟩ = some (.bool false):=(blk_cell BK4.out 1).trans rfl
        have hcz20_2 : w8.cell? ⟨gb4,2,none⟩ = some (.int .i64 0):=(blk_cell BK4.out 2).trans rfl
        have hcz20_3 : w8.cell? ⟨gb4,3,none⟩ = some (.int .i64 0):=(blk_cell BK4.out 3).trans rfl
        have hfz20_0:=blk_frozen BK4.out 0
        have hfz20_1:=blk_frozen BK4.out 1
        have hfz20_2:=blk_frozen BK4.out 2
        have hfz20_3:=blk_frozen BK4.out 3
        go_wp2_with (first | (go_at_call 71;(with_reducible refine (impl_codeOk.calls ((rd_T47 l1 x10_1).f3) false _ A11.out).mono ?_);rintro e w' ⟨rfl,⟨nd,rfl⟩⟩;(try first | exact ⟨rfl,_,World.drewN_drewN _ _ _⟩ | exact ⟨rfl,_,Eq.trans (World.drewN_drewN _ _ _) (congrArg (World.drewN _) (Nat.add_assoc _ _ _))⟩)))
        repeat (go_quiet (first | (go_at_call 71;(with_reducible refine (impl_codeOk.calls ((rd_T47 l1 x10_1).f3) false _ A11.out).mono ?_);rintro e w' ⟨rfl,⟨nd,rfl⟩⟩;(try first | exact ⟨rfl,_,World.drewN_drewN _ _ _⟩ | exact ⟨rfl,_,Eq.trans (World.drewN_drewN _ _ _) (congrArg (World.drewN _) (Nat.add_assoc _ _ _))⟩)));try go_wp2_with (first | (go_at_call 71;(with_reducible refine (impl_codeOk.calls ((rd_T47 l1 x10_1).f3) false _ A11.out).mono ?_);rintro e w' ⟨rfl,⟨nd,rfl⟩⟩;(try first | exact ⟨rfl,_,World.drewN_drewN _ _ _⟩ | exact ⟨rfl,_,Eq.trans (World.drewN_drewN _ _ _) (congrArg (World.drewN _) (Nat.add_assoc _ _ _))⟩))))
        go_meet
        case rel=>exact ⟨_,(true),(by first | rfl | (simp;done) | (simp [*];done)),H',⟨by have:=HK1.out;first | omega | exact Nat.le_refl _⟩,⟨by (with_reducible repeat (first | refine blk_drewN ?_ _ | refine blk_drew ?_ | refine blk_alloc ?_ _));refine blk_far ?_ NB1_4.out _;(with_reducible repeat (first | refine blk_drewN ?_ _ | refine blk_drew ?_ | refine blk_alloc ?_ _));refine blk_far ?_ NB1_4.out _;(with_reducible repeat (first | refine blk_drewN ?_ _ | refine blk_drew ?_ | refine blk_alloc ?_ _));refine blk_far ?_ NB1_4.out _;(with_reducible repeat (first | refine blk_drewN ?_ _ | refine blk_drew ?_ | refine blk_alloc ?_ _));refine blk_far ?_ NB1_4.out _;(with_reducible repeat (first | refine blk_drewN ?_ _ | refine blk_drew ?_ | refine blk_alloc ?_ _));exact BK1.out⟩,⟨by (with_reducible repeat (first | refine blk_drewN ?_ _ | refine blk_drew ?_ | refine blk_alloc ?_ _));refine blk_put (cs:=#[.int .i64 ((rd_T47 l1 x10_1).f0),.bool ((rd_T47 l1 x10_1).f1),.int .i64 ((rd_T47 l1 x10_1).f2),.int .i64 0]) ?_ 3 _ rfl;(with_reducible repeat (first | refine blk_drewN ?_ _ | refine blk_drew ?_ | refine blk_alloc ?_ _));refine blk_put (cs:=#[.int .i64 ((rd_T47 l1 x10_1).f0),.bool ((rd_T47 l1 x10_1).f1),.int .i64 0,.int .i64 0]) ?_ 2 _ rfl;(with_reducible repeat (first | refine blk_drewN ?_ _ | refine blk_drew ?_ | refine blk_alloc ?_ _));refine blk_put (cs:=#[.int .i64 ((rd_T47 l1 x10_1).f0),.bool false,.int .i64 0,.int .i64 0]) ?_ 1 _ rfl;(with_reducible repeat (first | refine blk_drewN ?_ _ | refine blk_drew ?_ | refine blk_alloc ?_ _));refine blk_put (cs:=#[.int .i64 0,.bool false,.int .i64 0,.int .i64 0]) ?_ 0 _ rfl;(with_reducible repeat (first | refine blk_drewN ?_ _ | refine blk_drew ?_ | refine blk_alloc ?_ _));exact BK4.out⟩,⟨hb_⟩⟩
      case rest =>
       clear HC7
       try clear c1
       try clear p2
       try clear p3
       try clear q3
       try clear hx3
       try clear c4
       try clear c4b0
       try clear c5
       try clear c5b0
       try clear c6
       try clear c6b0
       try clear c9
       try clear c12
       try clear c14
       try clear c15
       try clear c17
       try clear c19
       try clear hcz10_0
       try clear hcz10_1
       try clear hcz10_2
       try clear hcz10_3
       try clear hcz16_0
       try clear hcz16_1
       try clear hcz16_2
       try clear hcz16_3
       try clear hcz18_0
       try clear hcz18_1
       try clear hcz18_2
       try clear hcz18_3
       try clear hcz20_0
       try clear hcz20_1
       try clear hcz20_2
       try clear hcz20_3
       try clear hfz10_0
       try clear hfz10_1
       try clear hfz10_2
       try clear hfz10_3
       try clear hfz16_0
       try clear hfz16_1
       try clear hfz16_2
       try clear hfz16_3
       try clear hfz18_0
       try clear hfz18_1
       try clear hfz18_2
       try clear hfz18_3
       try clear hfz20_0
       try clear hfz20_1
       try clear hfz20_2
       try clear hfz20_3
       try clear hx3_0
       try clear hx3_1
       try clear hx3_2
       try clear hx3_3
       try clear p2
       try clear p3
       try clear q3
       obtain ⟨kq,x32_6,rfl,HA,HJ6,BK1,BK4,HB⟩:=hcut
       cases kq with
       | zero=>exact absurd HA.out (by simp [impl_partsOk.j1])
       | succ kj6 =>
        have H:=HA.out
        clear HA
        simp only [impl_partsOk.j1] at H
        by_cases c21 : x32_6 = true
        ·subst c21
         have H1 : (some false) = some r:=by rw [if_pos rfl] at H;exact H
         clear H
         have H:=H1
         clear H1
         obtain rfl:=Option.some.inj H
         go_wp2
         repeat (go_quiet (fail);try go_wp2)
         go_ret
         exact ⟨by first | rfl | (simp [errW_none,errW_some] <;> rfl) | (simp [*,errW_none,errW_some] <;> rfl),hb_⟩
        ·replace c21:=Bool.eq_false_iff.mpr c21
         subst c21
         have H1 : (if x10_1 > 0 then (if 0 ≤ (wrap64 (x10_1 - 1)) then (if (wrap64 (x10_1 - 1)) < (l1.length : Int) then (if ((rd_T47 l1 x10_1).f0) > ((rd_T47 l1 (wrap64 (x10_1 - 1))).f0) then (if (rd_T47 l1 (wrap64 (x10_1 - 1))).f1 = true then (impl_partsOk.j2 kj6 l1 x10_1 l1 (l1.length : Int) x10_1 (!(((rd_T47 l1 x10_1).f0) == (wrap64 (((rd_T47 l1 (wrap64 (x10_1 - 1))).f0) + 1)))) l0_0 ((rd_T47 l1 x10_1).f0) ((rd_T47 l1 x10_1).f1) ((rd_T47 l1 x10_1).f2) ((rd_T47 l1 x10_1).f3)) else (impl_partsOk.j2 kj6 l1 x10_1 l1 (l1.length : Int) x10_1 (!false) l0_0 ((rd_T47 l1 x10_1).f0) ((rd_T47 l1 x10_1).f1) ((rd_T47 l1 x10_1).f2) ((rd_T47 l1 x10_1).f3))) else (impl_partsOk.j2 kj6 l1 x10_1 l1 (l1.length : Int) x10_1 false l0_0 ((rd_T47 l1 x10_1).f0) ((rd_T47 l1 x10_1).f1) ((rd_T47 l1 x10_1).f2) ((rd_T47 l1 x10_1).f3))) else (none)) else (none)) else (impl_partsOk.j2 kj6 l1 x10_1 l1 (l1.length : Int) x10_1 false l0_0 ((rd_T47 l1 x10_1).f0) ((rd_T47 l1 x10_1).f1) ((rd_T47 l1 x10_1).f2) ((rd_T47 l1 x10_1).f3))) = some r:=by rw [if_neg (show ¬ (false = true) by decide)] at H;exact H
         clear H
         have H:=H1
         clear H1
         have HC22:=a0_ H
         clear H
         go_upto_region 6 with (fail)
         repeat (go_quiet (fail);go_upto_region 6 with (fail))
         go_cut [66] (fun v66 wc=>∃ (kq : Nat) (x66_21 : Bool),v66 = .bool x66_21 ∧ Aside0 (impl_partsOk.j2 kq l1 x10_1 l1 (l1.length : Int) x10_1 x66_21 l0_0 ((rd_T47 l1 x10_1).f0) ((rd_T47 l1 x10_1).f1) ((rd_T47 l1 x10_1).f2) ((rd_T47 l1 x10_1).f3) = some r) ∧ Aside0 (kq ≤ kj6) ∧ Aside0 (wc.heap[gb1]? = some (.cells #[(.slice A0_0 l0_0.length c0_0)] 25 (0,0))) ∧ Aside0 (wc.heap[gb4]? = some (.cells #[.int .i64 ((rd_T47 l1 x10_1).f0),.bool ((rd_T47 l1 x10_1).f1),.int .i64 ((rd_T47 l1 x10_1).f2),.int .i64 ((rd_T47 l1 x10_1).f3)] 47 (0,0))) ∧ Aside0 (Below w.heap.size w wc))
         case first =>
          have H:=HC22.out
          clear HC22
          by_cases c23 : x10_1 > 0
          ·rw [if_pos c23] at H
           have c23b0 : decide (0 < x10_1) = true:=decide_eq_true c23
           clear c23
           (first | rw [c23b0] | (simp only [i64_w,i32_w];rw [c23b0]) | skip)
           obtain ⟨ji24,hji24⟩ : ∃ j_ : Int,(wrap64 (x10_1 - 1)) = j_:=⟨_,rfl⟩
           replace H : (if 0 ≤ (ji24) then (if (ji24) < (l1.length : Int) then (if ((rd_T47 l1 x10_1).f0) > ((rd_T47 l1 (ji24)).f0) then (if (rd_T47 l1 (ji24)).f1 = true then (impl_partsOk.j2 kj6 l1 x10_1 l1 (l1.length : Int) x10_1 (!(((rd_T47 l1 x10_1).f0) == (wrap64 (((rd_T47 l1 (ji24)).f0) + 1)))) l0_0 ((rd_T47 l1 x10_1).f0) ((rd_T47 l1 x10_1).f1) ((rd_T47 l1 x10_1).f2) ((rd_T47 l1 x10_1).f3)) else (impl_partsOk.j2 kj6 l1 x10_1 l1 (l1.length : Int) x10_1 (!false) l0_0 ((rd_T47 l1 x10_1).f0) ((rd_T47 l1 x10_1).f1) ((rd_T47 l1 x10_1).f2) ((rd_T47 l1 x10_1).f3))) else (impl_partsOk.j2 kj6 l1 x10_1 l1 (l1.length : Int) x10_1 false l0_0 ((rd_T47 l1 x10_1).f0) ((rd_T47 l1 x10_1).f1) ((rd_T47 l1 x10_1).f2) ((rd_T47 l1 x10_1).f3))) else (none)) else (none)) = some r:=by first | (rw [hji24] at H;exact H) | (simp only [hji24] at H ⊢;exact H)
           have hji24w : (IntKind.i64.wrap (x10_1 - 1)) = ji24:=(i64_w _).trans hji24
           by_cases c25 : 0 ≤ (ji24)
           ·rw [if_pos c25] at H
            have c25b0 : decide (0 ≤ (ji24)) = true:=decide_eq_true c25
            clear c25
            by_cases c26 : (ji24) < (l1.length : Int)
            ·rw [if_pos c26] at H
             have c26b0 : decide ((ji24) < (l1.length : Int)) = true:=decide_eq_true c26
             clear c26
             by_cases c27 : ((rd_T47 l1 x10_1).f0) > ((rd_T47 l1 (ji24)).f0)
             ·rw [if_pos c27] at H
              have c27b0 : decide (((rd_T47 l1 (ji24)).f0) < ((rd_T47 l1 x10_1).f0)) = true:=decide_eq_true c27
              clear c27
              obtain ⟨bq28,hbq28⟩ : ∃ b_ : Bool,b_ = ((rd_T47 l1 (ji24)).f1):=⟨_,rfl⟩
              replace H : (if bq28 = true then (impl_partsOk.j2 kj6 l1 x10_1 l1 (l1.length : Int) x10_1 (!(((rd_T47 l1 x10_1).f0) == (wrap64 (((rd_T47 l1 (ji24)).f0) + 1)))) l0_0 ((rd_T47 l1 x10_1).f0) ((rd_T47 l1 x10_1).f1) ((rd_T47 l1 x10_1).f2) ((rd_T47 l1 x10_1).f3)) else (impl_partsOk.j2 kj6 l1 x10_1 l1 (l1.length : Int) x10_1 (!false) l0_0 ((rd_T47 l1 x10_1).f0) ((rd_T47 l1 x10_1).f1) ((rd_T47 l1 x10_1).f2) ((rd_T47 l1 x10_1).f3))) = some r:=by rw [← hbq28] at H;exact H
              have Nbq28:=a0_ hbq28
              clear hbq28
              by_cases c29 : bq28 = true
              ·subst c29
               have H1 : (impl_partsOk.j2 kj6 l1 x10_1 l1 (l1.length : Int) x10_1 (!(((rd_T47 l1 x10_1).f0) == (wrap64 (((rd_T47 l1 (ji24)).f0) + 1)))) l0_0 ((rd_T47 l1 x10_1).f0) ((rd_T47 l1 x10_1).f1) ((rd_T47 l1 x10_1).f2) ((rd_T47 l1 x10_1).f3)) = some r:=by rw [if_pos rfl] at H;exact H
               clear H
               have H:=H1
               clear H1
               have H':=a0_ H
               clear H
               have hnb30:=NB4_1.out
               have hnc30:=NB1_4.out
               have hcz31_0 : wc.cell? ⟨gb4,0,none⟩ = some (.int .i64 ((rd_T47 l1 x10_1).f0)):=(blk_cell BK4.out 0).trans rfl
               have hcz31_1 : wc.cell? ⟨gb4,1,none⟩ = some (.bool ((rd_T47 l1 x10_1).f1)):=(blk_cell BK4.out 1).trans rfl
               have hcz31_2 : wc.cell? ⟨gb4,2,none⟩ = some (.int .i64 ((rd_T47 l1 x10_1).f2)):=(blk_cell BK4.out 2).trans rfl
               have hcz31_3 : wc.cell? ⟨gb4,3,none⟩ = some (.int .i64 ((rd_T47 l1 x10_1).f3)):=(blk_cell BK4.out 3).trans rfl
               have hfz31_0:=blk_frozen BK4.out 0
               have hfz31_1:=blk_frozen BK4.out 1
               have hfz31_2:=blk_frozen BK4.out 2
               have hfz31_3:=blk_frozen BK4.out 3
               have p7 : 0 ≤ ((ji24) : Int):=of_decide_eq_true (by first | (with_reducible assumption) | assumption)
               have q7 : (ji24) < (l1.length : Int):=of_decide_eq_true (by first | (with_reducible assumption) | assumption)
               obtain ⟨ad7,e7,hx7_0,hx7_1,hx7_2,hx7_3⟩:=at_T47 HR1.out (ji24) p7 q7
               (try rw [← Nbq28.out] at hx7_1)
               obtain rfl : ad3 = ad7:=(by injection e7)
               replace hx7_0:=(HB.out.cell (World.block_lt_of_cell? w _ hx7_0)).trans hx7_0
               replace hx7_1:=(HB.out.cell (World.block_lt_of_cell? w _ hx7_1)).trans hx7_1
               replace hx7_2:=(HB.out.cell (World.block_lt_of_cell? w _ hx7_2)).trans hx7_2
               replace hx7_3:=(HB.out.cell (World.block_lt_of_cell? w _ hx7_3)).trans hx7_3
               replace p7:=eq_true p7
               replace q7:=eq_true q7
               have p8 : 0 ≤ ((ji24) : Int):=of_decide_eq_true (by first | (with_reducible assumption) | assumption)
               have q8 : (ji24) < (l1.length : Int):=of_decide_eq_true (by first | (with_reducible assumption) | assumption)
               obtain ⟨ad8,e8,hx8_0,hx8_1,hx8_2,hx8_3⟩:=at_T47 HR1.out (ji24) p8 q8
               (try rw [← Nbq28.out] at hx8_1)
               obtain rfl : ad3 = ad8:=(by injection e8)
               replace hx8_0:=(HB.out.cell (World.block_lt_of_cell? w _ hx8_0)).trans hx8_0
               replace hx8_1:=(HB.out.cell (World.block_lt_of_cell? w _ hx8_1)).trans hx8_1
               replace hx8_2:=(HB.out.cell (World.block_lt_of_cell? w _ hx8_2)).trans hx8_2
               replace hx8_3:=(HB.out.cell (World.block_lt_of_cell? w _ hx8_3)).trans hx8_3
               replace p8:=eq_true p8
               replace q8:=eq_true q8
               have p9 : 0 ≤ ((ji24) : Int):=of_decide_eq_true (by first | (with_reducible assumption) | assumption)
               have q9 : (ji24) < (l1.length : Int):=of_decide_eq_true (by first | (with_reducible assumption) | assumption)
               obtain ⟨ad9,e9,hx9_0,hx9_1,hx9_2,hx9_3⟩:=at_T47 HR1.out (ji24) p9 q9
               (try rw [← Nbq28.out] at hx9_1)
               obtain rfl : ad3 = ad9:=(by injection e9)
               replace hx9_0:=(HB.out.cell (World.block_lt_of_cell? w _ hx9_0)).trans hx9_0
               replace hx9_1:=(HB.out.cell (World.block_lt_of_cell? w _ hx9_1)).trans hx9_1
               replace hx9_2:=(HB.out.cell (World.block_lt_of_cell? w _ hx9_2)).trans hx9_2
               replace hx9_3:=(HB.out.cell (World.block_lt_of_cell? w _ hx9_3)).trans hx9_3
               replace p9:=eq_true p9
               replace q9:=eq_true q9
               go_wp2
               repeat (go_quiet (fail);try go_wp2)
               go_meet
               case rel=>exact ⟨_,(!(((rd_T47 l1 x10_1).f0) == (wrap64 (((rd_T47 l1 (ji24)).f0) + 1)))),(by first | rfl | (simp;done) | (simp only [← hji24] <;> (first | rfl | simp)) | (simp [*];done)),H',⟨by have:=HK1.out;have:=HJ6.out;first | omega | exact Nat.le_refl _⟩,⟨by (with_reducible repeat (first | refine blk_drewN ?_ _ | refine blk_drew ?_ | refine blk_alloc ?_ _));exact BK1.out⟩,⟨by (with_reducible repeat (first | refine blk_drewN ?_ _ | refine blk_drew ?_ | refine blk_alloc ?_ _));exact BK4.out⟩,⟨hb_⟩⟩
              ·replace c29:=Bool.eq_false_iff.mpr c29
               subst c29
               have H1 : (impl_partsOk.j2 kj6 l1 x10_1 l1 (l1.length : Int) x10_1 (!false) l0_0 ((rd_T47 l1 x10_1).f0) ((rd_T47 l1 x10_1).f1) ((rd_T47 l1 x10_1).f2) ((rd_T47 l1 x10_1).f3)) = some r:=by rw [if_neg (show ¬ (false = true) by decide)] at H;exact H
               clear H
               have H:=H1
               clear H1
               have H':=a0_ H
               clear H
               have hnb32:=NB4_1.out
               have hnc32:=NB1_4.out
               have hcz33_0 : wc.cell? ⟨gb4,0,none⟩ = some (.int .i64 ((rd_T47 l1 x10_1).f0)):=(blk_cell BK4.out 0).trans rfl
               have hcz33_1 : wc.cell? ⟨gb4,1,none⟩ = some (.bool ((rd_T47 l1 x10_1).f1)):=(blk_cell BK4.out 1).trans rfl
               have hcz33_2 : wc.cell? ⟨gb4,2,none⟩ = some (.int .i64 ((rd_T47 l1 x10_1).f2)):=(blk_cell BK4.out 2).trans rfl
               have hcz33_3 : wc.cell? ⟨gb4,3,none⟩ = some (.int .i64 ((rd_T47 l1 x10_1).f3)):=(blk_cell BK4.out 3).trans rfl
               have hfz33_0:=blk_frozen BK4.out 0
               have hfz33_1:=blk_frozen BK4.out 1
               have hfz33_2:=blk_frozen BK4.out 2
               have hfz33_3:=blk_frozen BK4.out 3
               have p7 : 0 ≤ ((ji24) : Int):=of_decide_eq_true (by first | (with_reducible assumption) | assumption)
               have q7 : (ji24) < (l1.length : Int):=of_decide_eq_true (by first | (with_reducible assumption) | assumption)
               obtain ⟨ad7,e7,hx7_0,hx7_1,hx7_2,hx7_3⟩:=at_T47 HR1.out (ji24) p7 q7
               (try rw [← Nbq28.out] at hx7_1)
               obtain rfl : ad3 = ad7:=(by injection e7)
               replace hx7_0:=(HB.out.cell (World.block_lt_of_cell? w _ hx7_0)).trans hx7_0
               replace hx7_1:=(HB.out.cell (World.block_lt_of_cell? w _ hx7_1)).trans hx7_1
               replace hx7_2:=(HB.out.cell (World.block_lt_of_cell? w _ hx7_2)).trans hx7_2
               replace hx7_3:=(HB.out.cell (World.block_lt_of_cell? w _ hx7_3)).trans hx7_3
               replace p7:=eq_true p7
               replace q7:=eq_true q7
               have p8 : 0 ≤ ((ji24) : Int):=of_decide_eq_true (by first | (with_reducible assumption) | assumption)
               have q8 : (ji24) < (l1.length : Int):=of_decide_eq_true (by first | (with_reducible assumption) | assumption)
               obtain ⟨ad8,e8,hx8_0,hx8_1,hx8_2,hx8_3⟩:=at_T47 HR1.out (ji24) p8 q8
               (try rw [← Nbq28.out] at hx8_1)
               obtain rfl : ad3 = ad8:=(by injection e8)
               replace hx8_0:=(HB.out.cell (World.block_lt_of_cell? w _ hx8_0)).trans hx8_0
               replace hx8_1:=(HB.out.cell (World.block_lt_of_cell? w _ hx8_1)).trans hx8_1
               replace hx8_2:=(HB.out.cell (World.block_lt_of_cell? w _ hx8_2)).trans hx8_2
               replace hx8_3:=(HB.out.cell (World.block_lt_of_cell? w _ hx8_3)).trans hx8_3
               replace p8:=eq_true p8
               replace q8:=eq_true q8
               go_wp2
               repeat (go_quiet (fail);try go_wp2)
               go_meet
               case rel=>exact ⟨_,(!false),(by first | rfl | (simp;done) | (simp [*];done)),H',⟨by have:=HK1.out;have:=HJ6.out;first | omega | exact Nat.le_refl _⟩,⟨by (with_reducible repeat (first | refine blk_drewN ?_ _ | refine blk_drew ?_ | refine blk_alloc ?_ _));exact BK1.out⟩,⟨by (with_reducible repeat (first | refine blk_drewN ?_ _ | refine blk_drew ?_ | refine blk_alloc ?_ _));exact BK4.out⟩,⟨hb_⟩⟩
             ·rw [if_neg c27] at H
              have c27b0 : decide (((rd_T47 l1 (ji24)).f0) < ((rd_T47 l1 x10_1).f0)) = false:=decide_eq_false c27
              clear c27
              have H':=a0_ H
              clear H
              have hnb34:=NB4_1.out
              have hnc34:=NB1_4.out
              have hcz35_0 : wc.cell? ⟨gb4,0,none⟩ = some (.int .i64 ((rd_T47 l1 x10_1).f0)):=(blk_cell BK4.out 0).trans rfl
              have hcz35_1 : wc.cell? ⟨gb4,1,none⟩ = some (.bool ((rd_T47 l1 x10_1).f1)):=(blk_cell BK4.out 1).trans rfl
              have hcz35_2 : wc.cell? ⟨gb4,2,none⟩ = some (.int .i64 ((rd_T47 l1 x10_1).f2)):=(blk_cell BK4.out 2).trans rfl
              have hcz35_3 : wc.cell? ⟨gb4,3,none⟩ = some (.int .i64 ((rd_T47 l1 x10_1).f3)):=(blk_cell BK4.out 3).trans rfl
              have hfz35_0:=blk_frozen BK4.out 0
              have hfz35_1:=blk_frozen BK4.out 1
              have hfz35_2:=blk_frozen BK4.out 2
              have hfz35_3:=blk_frozen BK4.out 3
              have p7 : 0 ≤ ((ji24) : Int):=of_decide_eq_true (by first | (with_reducible assumption) | assumption)
              have q7 : (ji24) < (l1.length : Int):=of_decide_eq_true (by first | (with_reducible assumption) | assumption)
              obtain ⟨ad7,e7,hx7_0,hx7_1,hx7_2,hx7_3⟩:=at_T47 HR1.out (ji24) p7 q7
              obtain rfl : ad3 = ad7:=(by injection e7)
              replace hx7_0:=(HB.out.cell (World.block_lt_of_cell? w _ hx7_0)).trans hx7_0
              replace hx7_1:=(HB.out.cell (World.block_lt_of_cell? w _ hx7_1)).trans hx7_1
              replace hx7_2:=(HB.out.cell (World.block_lt_of_cell? w _ hx7_2)).trans hx7_2
              replace hx7_3:=(HB.out.cell (World.block_lt_of_cell? w _ hx7_3)).trans hx7_3
              replace p7:=eq_true p7
              replace q7:=eq_true q7
              go_wp2
              repeat (go_quiet (fail);try go_wp2)
              go_meet
              case rel=>exact ⟨_,(false),(by first | rfl | (simp;done) | (simp [*];done)),H',⟨by have:=HK1.out;have:=HJ6.out;first | omega | exact Nat.le_refl _⟩,⟨by (with_reducible repeat (first | refine blk_drewN ?_ _ | refine blk_drew ?_ | refine blk_alloc ?_ _));exact BK1.out⟩,⟨by (with_reducible repeat (first | refine blk_drewN ?_ _ | refine blk_drew ?_ | refine blk_alloc ?_ _));exact BK4.out⟩,⟨hb_⟩⟩
            ·rw [if_neg c26] at H
             exact absurd H (by simp)
           ·rw [if_neg c25] at H
            exact absurd H (by simp)
          ·rw [if_neg c23] at H
           have c23b0 : decide (0 < x10_1) = false:=decide_eq_false c23
           clear c23
           (first | rw [c23b0] | (simp only [i64_w,i32_w];rw [c23b0]) | skip)
           have H':=a0_ H
           clear H
           go_wp2
           repeat (go_quiet (fail);try go_wp2)
           go_meet
           case rel=>exact ⟨_,(false),(by first | rfl | (simp;done) | (simp [*];done)),H',⟨by have:=HK1.out;have:=HJ6.out;first | omega | exact Nat.le_refl _⟩,⟨by (with_reducible repeat (first | refine blk_drewN ?_ _ | refine blk_drew ?_ | refine blk_alloc ?_ _));exact BK1.out⟩,⟨by (with_reducible repeat (first | refine blk_drewN ?_ _ | refine blk_drew ?_ | refine blk_alloc ?_ _));exact BK4.out⟩,⟨hb_⟩⟩
         case rest =>
          clear HC22
          try clear c1
          try clear c2
          try clear p2
          try clear q2
          try clear c3
          try clear p3
          try clear q3
          try clear hx3
          try clear c4
          try clear c4b0
          try clear c5
          try clear c5b0
          try clear c6
          try clear c6b0
          try clear p6
          try clear p7
          try clear q7
          try clear hx7
          try clear p8
          try clear q8
          try clear hx8
          try clear c9
          try clear p9
          try clear q9
          try clear hx9
          try clear c12
          try clear c14
          try clear c15
          try clear c17
          try clear c19
          try clear c21
          try clear c23
          try clear c23b0
          try clear c25
          try clear c25b0
          try clear c26
          try clear c26b0
          try clear c27
          try clear c27b0
          try clear q28
          try clear c29
          try clear c30
          try clear c32
          try clear c34
          try clear hcz10_0
          try clear hcz10_1
          try clear hcz10_2
          try clear hcz10_3
          try clear hcz16_0
          try clear hcz16_1
          try clear hcz16_2
          try clear hcz16_3
          try clear hcz18_0
          try clear hcz18_1
          try clear hcz18_2
          try clear hcz18_3
          try clear hcz20_0
          try clear hcz20_1
          try clear hcz20_2
          try clear hcz20_3
          try clear hcz31_0
          try clear hcz31_1
          try clear hcz31_2
          try clear hcz31_3
          try clear hcz33_0
          try clear hcz33_1
          try clear hcz33_2
          try clear hcz33_3
          try clear hcz35_0
          try clear hcz35_1
          try clear hcz35_2
          try clear hcz35_3
          try clear hfz10_0
          try clear hfz10_1
          try clear hfz10_2
          try clear hfz10_3
          try clear hfz16_0
          try clear hfz16_1
          try clear hfz16_2
          try clear hfz16_3
          try clear hfz18_0
          try clear hfz18_1
          try clear hfz18_2
          try clear hfz18_3
          try clear hfz20_0
          try clear hfz20_1
          try clear hfz20_2
          try clear hfz20_3
          try clear hfz31_0
          try clear hfz31_1
          try clear hfz31_2
          try clear hfz31_3
          try clear hfz33_0
          try clear hfz33_1
          try clear hfz33_2
          try clear hfz33_3
          try clear hfz35_0
          try clear hfz35_1
          try clear hfz35_2
          try clear hfz35_3
          try clear hx3_0
          try clear hx3_1
          try clear hx3_2
          try clear hx3_3
          try clear hx7_0
          try clear hx7_1
          try clear hx7_2
          try clear hx7_3
          try clear hx8_0
          try clear hx8_1
          try clear hx8_2
          try clear hx8_3
          try clear hx9_0
          try clear hx9_1
          try clear hx9_2
          try clear hx9_3
          try clear p2
          try clear p3
          try clear p7
          try clear p8
          try clear p9
          try clear q3
          try clear q7
          try clear q8
          try clear q9
          obtain ⟨kq,x66_21,rfl,HA,HJ21,BK1,BK4,HB⟩:=hcut
          cases kq with
          | zero=>exact absurd HA.out (by simp [impl_partsOk.j2])
          | succ kj21 =>
           have H:=HA.out
           clear HA
           simp only [impl_partsOk.j2] at H
           by_cases c36 : x66_21 = true
           ·subst c36
            have H1 : (some false) = some r:=by rw [if_pos rfl] at H;exact H
            clear H
            have H:=H1
            clear H1
            obtain rfl:=Option.some.inj H
            go_wp2
            repeat (go_quiet (fail);try go_wp2)
            go_ret
            exact ⟨by first | rfl | (simp [errW_none,errW_some] <;> rfl) | (simp [*,errW_none,errW_some] <;> rfl),hb_⟩
           ·replace c36:=Bool.eq_false_iff.mpr c36
            subst c36
            have H1 : (if (wrap64 (x10_1 + 1)) < (l1.length : Int) then (if 0 ≤ (wrap64 (x10_1 + 1)) then (if ((rd_T47 l1 x10_1).f1) = true then (if ((rd_T47 l1 x10_1).f2) = 0 then (if (((rd_T47 l1 (wrap64 (x10_1 + 1))).f0) > ((rd_T47 l1 x10_1).f0)) then (impl_partsOk.l0 kj21 l1 l1 (l1.length : Int) (wrap64 (x10_1 + 1)) l0_0) else (some false)) else (some false)) else ((impl_Tree_has.f l0_0 ((rd_T47 l1 x10_1).f2)).bind fun t11=>(if t11 = true then (impl_partsOk.l0 kj21 l1 l1 (l1.length : Int) (wrap64 (x10_1 + 1)) l0_0) else (some false)))) else (none)) else (if ((rd_T47 l1 x10_1).f1) = true then (if ((rd_T47 l1 x10_1).f2) = 0 then (some false) else (some false)) else ((impl_Tree_has.f l0_0 ((rd_T47 l1 x10_1).f2)).bind fun t12=>(if t12 = true then (impl_partsOk.l0 kj21 l1 l1 (l1.length : Int) (wrap64 (x10_1 + 1)) l0_0) else (some false))))) = some r:=by rw [if_neg (show ¬ (false = true) by decide)] at H;exact H
            clear H
            have H:=H1
            clear H1
            by_cases c37 : (wrap64 (x10_1 + 1)) < (l1.length : Int)
            ·rw [if_pos c37] at H
             have c37b0 : decide ((wrap64 (x10_1 + 1)) < (l1.length : Int)) = true:=decide_eq_true c37
             clear c37
             obtain ⟨ji38,hji38⟩ : ∃ j_ : Int,(wrap64 (x10_1 + 1)) = j_:=⟨_,rfl⟩
             replace H : (if 0 ≤ (ji38) then (if ((rd_T47 l1 x10_1).f1) = true then (if ((rd_T47 l1 x10_1).f2) = 0 then (if (((rd_T47 l1 (ji38)).f0) > ((rd_T47 l1 x10_1).f0)) then (impl_partsOk.l0 kj21 l1 l1 (l1.length : Int) ji38 l0_0) else (some false)) else (some false)) else ((impl_Tree_has.f l0_0 ((rd_T47 l1 x10_1).f2)).bind fun t11=>(if t11 = true then (impl_partsOk.l0 kj21 l1 l1 (l1.length : Int) ji38 l0_0) else (some false)))) else (none)) = some r:=by first | (rw [hji38] at H;exact H) | (simp only [hji38] at H ⊢;exact H)
             (try rw [hji38] at c37b0)
             have hji38w : (IntKind.i64.wrap (x10_1 + 1)) = ji38:=(i64_w _).trans hji38
             by_cases c39 : 0 ≤ (ji38)
             ·rw [if_pos c39] at H
              have c39b0 : decide (0 ≤ (ji38)) = true:=decide_eq_true c39
              clear c39
              by_cases c40 : ((rd_T47 l1 x10_1).f1) = true
              ·rw [if_pos c40] at H
               have c40b0 : ((rd_T47 l1 x10_1).f1) = true:=c40
               clear c40
               by_cases c41 : ((rd_T47 l1 x10_1).f2) = 0
               ·rw [if_pos c41] at H
                have c41b0 : (((rd_T47 l1 x10_1).f2) == 0) = true:=beq_iff_eq.mpr c41
                have c41b1 : (((rd_T47 l1 x10_1).f2) != 0) = false:=bne_eq_false_iff_eq.mpr c41
                clear c41
                by_cases c42 : (((rd_T47 l1 (ji38)).f0) > ((rd_T47 l1 x10_1).f0))
                ·rw [if_pos c42] at H
                 have c42b0 : decide (((rd_T47 l1 x10_1).f0) < ((rd_T47 l1 (ji38)).f0)) = true:=decide_eq_true c42
                 clear c42
                 have H':=a0_ H
                 clear H
                 have p10 : 0 ≤ ((ji38) : Int):=of_decide_eq_true (by first | (with_reducible assumption) | assumption)
                 have q10 : (ji38) < (l1.length : Int):=of_decide_eq_true (by first | (with_reducible assumption) | assumption)
                 obtain ⟨ad10,e10,hx10_0,hx10_1,hx10_2,hx10_3⟩:=at_T47 HR1.out (ji38) p10 q10
                 obtain rfl : ad3 = ad10:=(by injection e10)
                 replace hx10_0:=(HB.out.cell (World.block_lt_of_cell? w _ hx10_0)).trans hx10_0
                 replace hx10_1:=(HB.out.cell (World.block_lt_of_cell? w _ hx10_1)).trans hx10_1
                 replace hx10_2:=(HB.out.cell (World.block_lt_of_cell? w _ hx10_2)).trans hx10_2
                 replace hx10_3:=(HB.out.cell (World.block_lt_of_cell? w _ hx10_3)).trans hx10_3
                 replace p10:=eq_true p10
                 replace q10:=eq_true q10
                 have hnb43:=NB4_1.out
                 have hnc43:=NB1_4.out
                 have hcz44_0 : wc.cell? ⟨gb4,0,none⟩ = some (.int .i64 ((rd_T47 l1 x10_1).f0)):=(blk_cell BK4.out 0).trans rfl
                 have hcz44_1 : wc.cell? ⟨gb4,1,none⟩ = some (.bool ((rd_T47 l1 x10_1).f1)):=(blk_cell BK4.out 1).trans rfl
                 have hcz44_2 : wc.cell? ⟨gb4,2,none⟩ = some (.int .i64 ((rd_T47 l1 x10_1).f2)):=(blk_cell BK4.out 2).trans rfl
                 have hcz44_3 : wc.cell? ⟨gb4,3,none⟩ = some (.int .i64 ((rd_T47 l1 x10_1).f3)):=(blk_cell BK4.out 3).trans rfl
                 have hfz44_0:=blk_frozen BK4.out 0
                 have hfz44_1:=blk_frozen BK4.out 1
                 have hfz44_2:=blk_frozen BK4.out 2
                 have hfz44_3:=blk_frozen BK4.out 3
                 go_wp2
                 repeat (go_quiet (fail);try go_wp2)
                 go_roundg kj21
                 case measure=>have:=HK1.out;have:=HJ6.out;have:=HJ21.out;omega
                 case rel=>exact ⟨(ji38),(by first | rfl | (simp;done) | (simp only [← hji38] <;> (first | rfl | simp)) | (simp [*];done)),H',⟨by have:=HK1.out;have:=HJ6.out;have:=HJ21.out;omega⟩,⟨by (with_reducible repeat (first | refine blk_drewN ?_ _ | refine blk_drew ?_ | refine blk_alloc ?_ _));exact BK1.out⟩,⟨hb_⟩⟩
                ·rw [if_neg c42] at H
                 have c42b0 : decide (((rd_T47 l1 x10_1).f0) < ((rd_T47 l1 (ji38)).f0)) = false:=decide_eq_false c42
                 clear c42
                 obtain rfl:=Option.some.inj H
                 have p10 : 0 ≤ ((ji38) : Int):=of_decide_eq_true (by first | (with_reducible assumption) | assumption)
                 have q10 : (ji38) < (l1.length : Int):=of_decide_eq_true (by first | (with_reducible assumption) | assumption)
                 obtain ⟨ad10,e10,hx10_0,hx10_1,hx10_2,hx10_3⟩:=at_T47 HR1.out (ji38) p10 q10
                 obtain rfl : ad3 = ad10:=(by injection e10)
                 replace hx10_0:=(HB.out.cell (World.block_lt_of_cell? w _ hx10_0)).trans hx10_0
                 replace hx10_1:=(HB.out.cell (World.block_lt_of_cell? w _ hx10_1)).trans hx10_1
                 replace hx10_2:=(HB.out.cell (World.block_lt_of_cell? w _ hx10_2)).trans hx10_2
                 replace hx10_3:=(HB.out.cell (World.block_lt_of_cell? w _ hx10_3)).trans hx10_3
                 replace p10:=eq_true p10
                 replace q10:=eq_true q10
                 have hnb45:=NB4_1.out
                 have hnc45:=NB1_4.out
                 have hcz46_0 : wc.cell? ⟨gb4,0,none⟩ = some (.int .i64 ((rd_T47 l1 x10_1).f0)):=(blk_cell BK4.out 0).trans rfl
                 have hcz46_1 : wc.cell? ⟨gb4,1,none⟩ = some (.bool ((rd_T47 l1 x10_1).f1)):=(blk_cell BK4.out 1).trans rfl
                 have hcz46_2 : wc.cell? ⟨gb4,2,none⟩ = some (.int .i64 ((rd_T47 l1 x10_1).f2)):=(blk_cell BK4.out 2).trans rfl
                 have hcz46_3 : wc.cell? ⟨gb4,3,none⟩ = some (.int .i64 ((rd_T47 l1 x10_1).f3)):=(blk_cell BK4.out 3).trans rfl
                 have hfz46_0:=blk_frozen BK4.out 0
                 have hfz46_1:=blk_frozen BK4.out 1
                 have hfz46_2:=blk_frozen BK4.out 2
                 have hfz46_3:=blk_frozen BK4.out 3
                 go_wp2
                 repeat (go_quiet (fail);try go_wp2)
                 go_ret
                 exact ⟨by first | rfl | (simp [errW_none,errW_some] <;> rfl) | (simp only [← hji38];first | rfl | (simp [errW_none,errW_some] <;> rfl)) | (simp [*,errW_none,errW_some] <;> rfl),hb_⟩
               ·rw [if_neg c41] at H
                have c41b0 : (((rd_T47 l1 x10_1).f2) == 0) = false:=beq_eq_false_iff_ne.mpr c41
                have c41b1 : (((rd_T47 l1 x10_1).f2) != 0) = true:=bne_iff_ne.mpr c41
                obtain rfl:=Option.some.inj H
                have p10 : 0 ≤ ((ji38) : Int):=of_decide_eq_true (by first | (with_reducible assumption) | assumption)
                have q10 : (ji38) < (l1.length : Int):=of_decide_eq_true (by first | (with_reducible assumption) | assumption)
                obtain ⟨ad10,e10,hx10_0,hx10_1,hx10_2,hx10_3⟩:=at_T47 HR1.out (ji38) p10 q10
                obtain rfl : ad3 = ad10:=(by injection e10)
                replace hx10_0:=(HB.out.cell (World.block_lt_of_cell? w _ hx10_0)).trans hx10_0
                replace hx10_1:=(HB.out.cell (World.block_lt_of_cell? w _ hx10_1)).trans hx10_1
                replace hx10_2:=(HB.out.cell (World.block_lt_of_cell? w _ hx10_2)).trans hx10_2
                replace hx10_3:=(HB.out.cell (World.block_lt_of_cell? w _ hx10_3)).trans hx10_3
                replace p10:=eq_true p10
                replace q10:=eq_true q10
                have hnb47:=NB4_1.out
                have hnc47:=NB1_4.out
                have hcz48_0 : wc.cell? ⟨gb4,0,none⟩ = some (.int .i64 ((rd_T47 l1 x10_1).f0)):=(blk_cell BK4.out 0).trans rfl
                have hcz48_1 : wc.cell? ⟨gb4,1,none⟩ = some (.bool ((rd_T47 l1 x10_1).f1)):=(blk_cell BK4.out 1).trans rfl
                have hcz48_2 : wc.cell? ⟨gb4,2,none⟩ = some (.int .i64 ((rd_T47 l1 x10_1).f2)):=(blk_cell BK4.out 2).trans rfl
                have hcz48_3 : wc.cell? ⟨gb4,3,none⟩ = some (.int .i64 ((rd_T47 l1 x10_1).f3)):=(blk_cell BK4.out 3).trans rfl
                have hfz48_0:=blk_frozen BK4.out 0
                have hfz48_1:=blk_frozen BK4.out 1
                have hfz48_2:=blk_frozen BK4.out 2
                have hfz48_3:=blk_frozen BK4.out 3
                go_wp2
                repeat (go_quiet (fail);try go_wp2)
                go_ret
                exact ⟨by first | rfl | (simp [errW_none,errW_some] <;> rfl) | (simp only [← hji38];first | rfl | (simp [errW_none,errW_some] <;> rfl)) | (simp [*,errW_none,errW_some] <;> rfl),hb_⟩
              ·rw [if_neg c40] at H
               have c40b0 : ((rd_T47 l1 x10_1).f1) = false:=by simpa using c40
               clear c40
               replace H:=Option.bind_eq_some_iff.mp H
               obtain ⟨t11,A490,H⟩:=H
               try dsimp only at H
               have A49:=a0_ A490
               clear A490
               by_cases c50 : t11 = true
               ·subst c50
                have H1 : (impl_partsOk.l0 kj21 l1 l1 (l1.length : Int) ji38 l0_0) = some r:=by rw [if_pos rfl] at H;exact H
                clear H
                have H:=H1
                clear H1
                have H':=a0_ H
                clear H
                have p10 : 0 ≤ ((ji38) : Int):=of_decide_eq_true (by first | (with_reducible assumption) | assumption)
                have q10 : (ji38) < (l1.length : Int):=of_decide_eq_true (by first | (with_reducible assumption) | assumption)
                obtain ⟨ad10,e10,hx10_0,hx10_1,hx10_2,hx10_3⟩:=at_T47 HR1.out (ji38) p10 q10
                obtain rfl : ad3 = ad10:=(by injection e10)
                replace hx10_0:=(HB.out.cell (World.block_lt_of_cell? w _ hx10_0)).trans hx10_0
                replace hx10_1:=(HB.out.cell (World.block_lt_of_cell? w _ hx10_1)).trans hx10_1
                replace hx10_2:=(HB.out.cell (World.block_lt_of_cell? w _ hx10_2)).trans hx10_2
                replace hx10_3:=(HB.out.cell (World.block_lt_of_cell? w _ hx10_3)).trans hx10_3
                replace p10:=eq_true p10
                replace q10:=eq_true q10
                have hnb51:=NB4_1.out
                have hnc51:=NB1_4.out
                have hcz52_0 : wc.cell? ⟨gb4,0,none⟩ = some (.int .i64 ((rd_T47 l1 x10_1).f0)):=(blk_cell BK4.out 0).trans rfl
                have hcz52_1 : wc.cell? ⟨gb4,1,none⟩ = some (.bool ((rd_T47 l1 x10_1).f1)):=(blk_cell BK4.out 1).trans rfl
                have hcz52_2 : wc.cell? ⟨gb4,2,none⟩ = some (.int .i64 ((rd_T47 l1 x10_1).f2)):=(blk_cell BK4.out 2).trans rfl
                have hcz52_3 : wc.cell? ⟨gb4,3,none⟩ = some (.int .i64 ((rd_T47 l1 x10_1).f3)):=(blk_cell BK4.out 3).trans rfl
                have hfz52_0:=blk_frozen BK4.out 0
                have hfz52_1:=blk_frozen BK4.out 1
                have hfz52_2:=blk_frozen BK4.out 2
                have hfz52_3:=blk_frozen BK4.out 3
                have hcz53_0 : wc.cell? ⟨gb1,0,none⟩ = some (.slice A0_0 l0_0.length c0_0):=(blk_cell BK1.out 0).trans rfl
                have hfz53_0:=blk_frozen BK1.out 0
                go_wp2_with (first | (go_at_call 44;(with_reducible refine (impl_Tree_has.calls _ _ l0_0 ((rd_T47 l1 x10_1).f2) true _ ?side1 ?side2 A49.out).mono ?_);(case side1=>exact cc_ (Kd.C_below HR0_0.out HB.out));(case side2=>exact HC0_0.out);rintro e w54 ⟨rfl,hb⟩;replace BK1:=kb_ BK1 hb;replace BK4:=kb_ BK4 hb;replace HB:=a0_ (below_step hb_ hb);(try clear hb);(try clear hb2);(try clear hk);(try clear hi)))
                repeat (go_quiet (first | (go_at_call 44;(with_reducible refine (impl_Tree_has.calls _ _ l0_0 ((rd_T47 l1 x10_1).f2) true _ ?side1 ?side2 A49.out).mono ?_);(case side1=>exact cc_ (Kd.C_below HR0_0.out HB.out));(case side2=>exact HC0_0.out);rintro e w54 ⟨rfl,hb⟩;replace BK1:=kb_ BK1 hb;replace BK4:=kb_ BK4 hb;replace HB:=a0_ (below_step hb_ hb);(try clear hb);(try clear hb2);(try clear hk);(try clear hi)));try go_wp2_with (first | (go_at_call 44;(with_reducible refine (impl_Tree_has.calls _ _ l0_0 ((rd_T47 l1 x10_1).f2) true _ ?side1 ?side2 A49.out).mono ?_);(case side1=>exact cc_ (Kd.C_below HR0_0.out HB.out));(case side2=>exact HC0_0.out);rintro e w54 ⟨rfl,hb⟩;replace BK1:=kb_ BK1 hb;replace BK4:=kb_ BK4 hb;replace HB:=a0_ (below_step hb_ hb);(try clear hb);(try clear hb2);(try clear hk);(try clear hi))))
                go_roundg kj21
                case measure=>have:=HK1.out;have:=HJ6.out;have:=HJ21.out;omega
                case rel=>exact ⟨(ji38),(by first | rfl | (simp;done) | (simp only [← hji38] <;> (first | rfl | simp)) | (simp [*];done)),H',⟨by have:=HK1.out;have:=HJ6.out;have:=HJ21.out;omega⟩,⟨by (with_reducible repeat (first | refine blk_drewN ?_ _ | refine blk_drew ?_ | refine blk_alloc ?_ _));exact BK1.out⟩,⟨hb_⟩⟩
               ·replace c50:=Bool.eq_false_iff.mpr c50
                subst c50
                have H1 : (some false) = some r:=by rw [if_neg (show ¬ (false = true) by decide)] at H;exact H
                clear H
                have H:=H1
                clear H1
                obtain rfl:=Option.some.inj H
                have p10 : 0 ≤ ((ji38) : Int):=of_decide_eq_true (by first | (with_reducible assumption) | assumption)
                have q10 : (ji38) < (l1.length : Int):=of_decide_eq_true (by first | (with_reducible assumption) | assumption)
                obtain ⟨ad10,e10,hx10_0,hx10_1,hx10_2,hx10_3⟩:=at_T47 HR1.out (ji38) p10 q10
                obtain rfl : ad3 = ad10:=(by injection e10)
                replace hx10_0:=(HB.out.cell (World.block_lt_of_cell? w _ hx10_0)).trans hx10_0
                replace hx10_1:=(HB.out.cell (World.block_lt_of_cell? w _ hx10_1)).trans hx10_1
                replace hx10_2:=(HB.out.cell (World.block_lt_of_cell? w _ hx10_2)).trans hx10_2
                replace hx10_3:=(HB.out.cell (World.block_lt_of_cell? w _ hx10_3)).trans hx10_3
                replace p10:=eq_true p10
                replace q10:=eq_true q10
                have hnb55:=NB4_1.out
                have hnc55:=NB1_4.out
                have hcz56_0 : wc.cell? ⟨gb4,0,none⟩ = some (.int .i64 ((rd_T47 l1 x10_1).f0)):=(blk_cell BK4.out 0).trans rfl
                have hcz56_1 : wc.cell? ⟨gb4,1,none⟩ = some (.bool ((rd_T47 l1 x10_1).f1)):=(blk_cell BK4.out 1).trans rfl
                have hcz56_2 : wc.cell? ⟨gb4,2,none⟩ = some (.int .i64 ((rd_T47 l1 x10_1).f2)):=(blk_cell BK4.out 2).trans rfl
                have hcz56_3 : wc.cell? ⟨gb4,3,none⟩ = some (.int .i64 ((rd_T47 l1 x10_1).f3)):=(blk_cell BK4.out 3).trans rfl
                have hfz56_0:=blk_frozen BK4.out 0
                have hfz56_1:=blk_frozen BK4.out 1
                have hfz56_2:=blk_frozen BK4.out 2
                have hfz56_3:=blk_frozen BK4.out 3
                have hcz57_0 : wc.cell? ⟨gb1,0,none⟩ = some (.slice A0_0 l0_0.length c0_0):=(blk_cell BK1.out 0).trans rfl
                have hfz57_0:=blk_frozen BK1.out 0
                go_wp2_with (first | (go_at_call 44;(with_reducible refine (impl_Tree_has.calls _ _ l0_0 ((rd_T47 l1 x10_1).f2) false _ ?side1 ?side2 A49.out).mono ?_);(case side1=>exact cc_ (Kd.C_below HR0_0.out HB.out));(case side2=>exact HC0_0.out);rintro e w58 ⟨rfl,hb⟩;replace BK1:=kb_ BK1 hb;replace BK4:=kb_ BK4 hb;replace HB:=a0_ (below_step hb_ hb);(try clear hb);(try clear hb2);(try clear hk);(try clear hi)))
                repeat (go_quiet (first | (go_at_call 44;(with_reducible refine (impl_Tree_has.calls _ _ l0_0 ((rd_T47 l1 x10_1).f2) false _ ?side1 ?side2 A49.out).mono ?_);(case side1=>exact cc_ (Kd.C_below HR0_0.out HB.out));(case side2=>exact HC0_0.out);rintro e w58 ⟨rfl,hb⟩;replace BK1:=kb_ BK1 hb;replace BK4:=kb_ BK4 hb;replace HB:=a0_ (below_step hb_ hb);(try clear hb);(try clear hb2);(try clear hk);(try clear hi)));try go_wp2_with (first | (go_at_call 44;(with_reducible refine (impl_Tree_has.calls _ _ l0_0 ((rd_T47 l1 x10_1).f2) false _ ?side1 ?side2 A49.out).mono ?_);(case side1=>exact cc_ (Kd.C_below HR0_0.out HB.out));(case side2=>exact HC0_0.out);rintro e w58 ⟨rfl,hb⟩;replace BK1:=kb_ BK1 hb;replace BK4:=kb_ BK4 hb;replace HB:=a0_ (below_step hb_ hb);(try clear hb);(try clear hb2);(try clear hk);(try clear hi))))
                go_ret
                exact ⟨by first | rfl | (simp [errW_none,errW_some] <;> rfl) | (simp only [← hji38];first | rfl | (simp [errW_none,errW_some] <;> rfl)) | (simp [*,errW_none,errW_some] <;> rfl),hb_⟩
             ·rw [if_neg c39] at H
              exact absurd H (by simp)
            ·rw [if_neg c37] at H
             have c37b0 : decide ((wrap64 (x10_1 + 1)) < (l1.length : Int)) = false:=decide_eq_false c37
             clear c37
             by_cases c59 : ((rd_T47 l1 x10_1).f1) = true
             ·rw [if_pos c59] at H
              have c59b0 : ((rd_T47 l1 x10_1).f1) = true:=c59
              clear c59
              by_cases c60 : ((rd_T47 l1 x10_1).f2) = 0
              ·rw [if_pos c60] at H
               have c60b0 : (((rd_T47 l1 x10_1).f2) == 0) = true:=beq_iff_eq.mpr c60
               have c60b1 : (((rd_T47 l1 x10_1).f2) != 0) = false:=bne_eq_false_iff_eq.mpr c60
               clear c60
               obtain rfl:=Option.some.inj H
               have hnb61:=NB4_1.out
               have hnc61:=NB1_4.out
               have hcz62_0 : wc.cell? ⟨gb4,0,none⟩ = some (.int .i64 ((rd_T47 l1 x10_1).f0)):=(blk_cell BK4.out 0).trans rfl
               have hcz62_1 : wc.cell? ⟨gb4,1,none⟩ = some (.bool ((rd_T47 l1 x10_1).f1)):=(blk_cell BK4.out 1).trans rfl
               have hcz62_2 : wc.cell? ⟨gb4,2,none⟩ = some (.int .i64 ((rd_T47 l1 x10_1).f2)):=(blk_cell BK4.out 2).trans rfl
               have hcz62_3 : wc.cell? ⟨gb4,3,none⟩ = some (.int .i64 ((rd_T47 l1 x10_1).f3)):=(blk_cell BK4.out 3).trans rfl
               have hfz62_0:=blk_frozen BK4.out 0
               have hfz62_1:=blk_frozen BK4.out 1
               have hfz62_2:=blk_frozen BK4.out 2
               have hfz62_3:=blk_frozen BK4.out 3
               go_wp2
               repeat (go_quiet (fail);try go_wp2)
               go_ret
               exact ⟨by first | rfl | (simp [errW_none,errW_some] <;> rfl) | (simp [*,errW_none,errW_some] <;> rfl),hb_⟩
              ·rw [if_neg c60] at H
               have c60b0 : (((rd_T47 l1 x10_1).f2) == 0) = false:=beq_eq_false_iff_ne.mpr c60
               have c60b1 : (((rd_T47 l1 x10_1).f2) != 0) = true:=bne_iff_ne.mpr c60
               obtain rfl:=Option.some.inj H
               have hnb63:=NB4_1.out
               have hnc63:=NB1_4.out
               have hcz64_0 : wc.cell? ⟨gb4,0,none⟩ = some (.int .i64 ((rd_T47 l1 x10_1).f0)):=(blk_cell BK4.out 0).trans rfl
               have hcz64_1 : wc.cell? ⟨gb4,1,none⟩ = some (.bool ((rd_T47 l1 x10_1).f1)):=(blk_cell BK4.out 1).trans rfl
               have hcz64_2 : wc.cell? ⟨gb4,2,none⟩ = some (.int .i64 ((rd_T47 l1 x10_1).f2)):=(blk_cell BK4.out 2).trans rfl
               have hcz64_3 : wc.cell? ⟨gb4,3,none⟩ = some (.int .i64 ((rd_T47 l1 x10_1).f3)):=(blk_cell BK4.out 3).trans rfl
               have hfz64_0:=blk_frozen BK4.out 0
               have hfz64_1:=blk_frozen BK4.out 1
               have hfz64_2:=blk_frozen BK4.out 2
               have hfz64_3:=blk_frozen BK4.out 3
               go_wp2
               repeat (go_quiet (fail);try go_wp2)
               go_ret
               exact ⟨by first | rfl | (simp [errW_none,errW_some] <;> rfl) | (simp [*,errW_none,errW_some] <;> rfl),hb_⟩
             ·rw [if_neg c59] at H
              have c59b0 : ((rd_T47 l1 x10_1).f1) = false:=by simpa using c59
              clear c59
              replace H:=Option.bind_eq_some_iff.mp H
              obtain ⟨t12,A650,H⟩:=H
              try dsimp only at H
              have A65:=a0_ A650
              clear A650
              by_cases c66 : t12 = true
              ·subst c66
               have H1 : (impl_partsOk.l0 kj21 l1 l1 (l1.length : Int) (wrap64 (x10_1 + 1)) l0_0) = some r:=by rw [if_pos rfl] at H;exact H
               clear H
               have H:=H1
               clear H1
               have H':=a0_ H
               clear H
               have hnb67:=NB4_1.out
               have hnc67:=NB1_4.out
               have hcz68_0 : wc.cell? ⟨gb4,0,none⟩ = some (.int .i64 ((rd_T47 l1 x10_1).f0)):=(blk_cell BK4.out 0).trans rfl
               have hcz68_1 : wc.cell? ⟨gb4,1,none⟩ = some (.bool ((rd_T47 l1 x10_1).f1)):=(blk_cell BK4.out 1).trans rfl
               have hcz68_2 : wc.cell? ⟨gb4,2,none⟩ = some (.int .i64 ((rd_T47 l1 x10_1).f2)):=(blk_cell BK4.out 2).trans rfl
               have hcz68_3 : wc.cell? ⟨gb4,3,none⟩ = some (.int .i64 ((rd_T47 l1 x10_1).f3)):=(blk_cell BK4.out 3).trans rfl
               have hfz68_0:=blk_frozen BK4.out 0
               have hfz68_1:=blk_frozen BK4.out 1
               have hfz68_2:=blk_frozen BK4.out 2
               have hfz68_3:=blk_frozen BK4.out 3
               have hcz69_0 : wc.cell? ⟨gb1,0,none⟩ = some (.slice A0_0 l0_0.length c0_0):=(blk_cell BK1.out 0).trans rfl
               have hfz69_0:=blk_frozen BK1.out 0
               go_wp2_with (first | (go_at_call 44;(with_reducible refine (impl_Tree_has.calls _ _ l0_0 ((rd_T47 l1 x10_1).f2) true _ ?side1 ?side2 A65.out).mono ?_);(case side1=>exact cc_ (Kd.C_below HR0_0.out HB.out));(case side2=>exact HC0_0.out);rintro e w70 ⟨rfl,hb⟩;replace BK1:=kb_ BK1 hb;replace BK4:=kb_ BK4 hb;replace HB:=a0_ (below_step hb_ hb);(try clear hb);(try clear hb2);(try clear hk);(try clear hi)))
               repeat (go_quiet (first | (go_at_call 44;(with_reducible refine (impl_Tree_has.calls _ _ l0_0 ((rd_T47 l1 x10_1).f2) true _ ?side1 ?side2 A65.out).mono ?_);(case side1=>exact cc_ (Kd.C_below HR0_0.out HB.out));(case side2=>exact HC0_0.out);rintro e w70 ⟨rfl,hb⟩;replace BK1:=kb_ BK1 hb;replace BK4:=kb_ BK4 hb;replace HB:=a0_ (below_step hb_ hb);(try clear hb);(try clear hb2);(try clear hk);(try clear hi)));try go_wp2_with (first | (go_at_call 44;(with_reducible refine (impl_Tree_has.calls _ _ l0_0 ((rd_T47 l1 x10_1).f2) true _ ?side1 ?side2 A65.out).mono ?_);(case side1=>exact cc_ (Kd.C_below HR0_0.out HB.out));(case side2=>exact HC0_0.out);rintro e w70 ⟨rfl,hb⟩;replace BK1:=kb_ BK1 hb;replace BK4:=kb_ BK4 hb;replace HB:=a0_ (below_step hb_ hb);(try clear hb);(try clear hb2);(try clear hk);(try clear hi))))
               go_roundg kj21
               case measure=>have:=HK1.out;have:=HJ6.out;have:=HJ21.out;omega
               case rel=>exact ⟨(wrap64 (x10_1 + 1)),(by first | rfl | (simp;done) | (simp [*];done)),H',⟨by have:=HK1.out;have:=HJ6.out;have:=HJ21.out;omega⟩,⟨by (with_reducible repeat (first | refine blk_drewN ?_ _ | refine blk_drew ?_ | refine blk_alloc ?_ _));exact BK1.out⟩,⟨hb_⟩⟩
              ·replace c66:=Bool.eq_false_iff.mpr c66
               subst c66
               have H1 : (some false) = some r:=by rw [if_neg (show ¬ (false = true) by decide)] at H;exact H
               clear H
               have H:=H1
               clear H1
               obtain rfl:=Option.some.inj H
               have hnb71:=NB4_1.out
               have hnc71:=NB1_4.out
               have hcz72_0 : wc.cell? ⟨gb4,0,none⟩ = some (.int .i64 ((rd_T47 l1 x10_1).f0)):=(blk_cell BK4.out 0).trans rfl
               have hcz72_1 : wc.cell? ⟨gb4,1,none⟩ = some (.bool ((rd_T47 l1 x10_1).f1)):=(blk_cell BK4.out 1).trans rfl
               have hcz72_2 : wc.cell? ⟨gb4,2,none⟩ = some (.int .i64 ((rd_T47 l1 x10_1).f2)):=(blk_cell BK4.out 2).trans rfl
               have hcz72_3 : wc.cell? ⟨gb4,3,none⟩ = some (.int .i64 ((rd_T47 l1 x10_1).f3)):=(blk_cell BK4.out 3).trans rfl
               have hfz72_0:=blk_frozen BK4.out 0
               have hfz72_1:=blk_frozen BK4.out 1
               have hfz72_2:=blk_frozen BK4.out 2
               have hfz72_3:=blk_frozen BK4.out 3
               have hcz73_0 : wc.cell? ⟨gb1,0,none⟩ = some (.slice A0_0 l0_0.length c0_0):=(blk_cell BK1.out 0).trans rfl
               have hfz73_0:=blk_frozen BK1.out 0
               go_wp2_with (first | (go_at_call 44;(with_reducible refine (impl_Tree_has.calls _ _ l0_0 ((rd_T47 l1 x10_1).f2) false _ ?side1 ?side2 A65.out).mono ?_);(case side1=>exact cc_ (Kd.C_below HR0_0.out HB.out));(case side2=>exact HC0_0.out);rintro e w74 ⟨rfl,hb⟩;replace BK1:=kb_ BK1 hb;replace BK4:=kb_ BK4 hb;replace HB:=a0_ (below_step hb_ hb);(try clear hb);(try clear hb2);(try clear hk);(try clear hi)))
               repeat (go_quiet (first | (go_at_call 44;(with_reducible refine (impl_Tree_has.calls _ _ l0_0 ((rd_T47 l1 x10_1).f2) false _ ?side1 ?side2 A65.out).mono ?_);(case side1=>exact cc_ (Kd.C_below HR0_0.out HB.out));(case side2=>exact HC0_0.out);rintro e w74 ⟨rfl,hb⟩;replace BK1:=kb_ BK1 hb;replace BK4:=kb_ BK4 hb;replace HB:=a0_ (below_step hb_ hb);(try clear hb);(try clear hb2);(try clear hk);(try clear hi)));try go_wp2_with (first | (go_at_call 44;(with_reducible refine (impl_Tree_has.calls _ _ l0_0 ((rd_T47 l1 x10_1).f2) false _ ?side1 ?side2 A65.out).mono ?_);(case side1=>exact cc_ (Kd.C_below HR0_0.out HB.out));(case side2=>exact HC0_0.out);rintro e w74 ⟨rfl,hb⟩;replace BK1:=kb_ BK1 hb;replace BK4:=kb_ BK4 hb;replace HB:=a0_ (below_step hb_ hb);(try clear hb);(try clear hb2);(try clear hk);(try clear hi))))
               go_ret
               exact ⟨by first | rfl | (simp [errW_none,errW_some] <;> rfl) | (simp [*,errW_none,errW_some] <;> rfl),hb_⟩
     ·rw [if_neg c6] at H
      exact absurd H (by simp)
    ·rw [if_neg c5] at H
     exact absurd H (by simp)
   ·rw [if_neg c4] at H
    have c4b0 : decide (x10_1 < (l1.length : Int)) = false:=decide_eq_false c4
    clear c4
    replace H:=Option.bind_eq_some_iff.mp H
    obtain ⟨t2,A750,H⟩:=H
    replace H : (some t2) = some r:=H
    have A75:=a0_ A750
    clear A750
    obtain rfl:=Option.some.inj H
    go_wp2_with (first | (go_at_call 70;(with_reducible refine (impl_within.calls (l1.length : Int) 1 16 t2 _ A75.out).mono ?_);rintro e w' ⟨rfl,⟨nd,rfl⟩⟩;(try first | exact ⟨rfl,_,World.drewN_drewN _ _ _⟩ | exact ⟨rfl,_,Eq.trans (World.drewN_drewN _ _ _) (congrArg (World.drewN _) (Nat.add_assoc _ _ _))⟩)))
    repeat (go_quiet (first | (go_at_call 70;(with_reducible refine (impl_within.calls (l1.length : Int) 1 16 t2 _ A75.out).mono ?_);rintro e w' ⟨rfl,⟨nd,rfl⟩⟩;(try first | exact ⟨rfl,_,World.drewN_drewN _ _ _⟩ | exact ⟨rfl,_,Eq.trans (World.drewN_drewN _ _ _) (congrArg (World.drewN _) (Nat.add_assoc _ _ _))⟩)));try go_wp2_with (first | (go_at_call 70;(with_reducible refine (impl_within.calls (l1.length : Int) 1 16 t2 _ A75.out).mono ?_);rintro e w' ⟨rfl,⟨nd,rfl⟩⟩;(try first | exact ⟨rfl,_,World.drewN_drewN _ _ _⟩ | exact ⟨rfl,_,Eq.trans (World.drewN_drewN _ _ _) (congrArg (World.drewN _) (Nat.add_assoc _ _ _))⟩))))
    go_ret
    exact ⟨by first | rfl | (simp [errW_none,errW_some] <;> rfl) | (simp [*,errW_none,errW_some] <;> rfl),hb_⟩
theorem impl_partsOk_j2 (t : List Cls) (g : List Prt) (ht : t.length ≤ 9223372036854775807) (hl : g.length ≤ 9223372036854775807) (i : Nat) (hi : i < g.length) (p : Prt) (hp : g.getD i z47 = p) (b R : Bool)
  (hn : b = false → okB t g i p = true → Ev (fun k=>impl_partsOk.l0 k g g (g.length : Int) ((i + 1 : Nat) : Int) t) R) : Ev (fun k=>impl_partsOk.j2 k g (i : Int) g (g.length : Int) (i : Int) b t p.f0 p.f1 p.f2 p.f3) (!b && (okB t g i p && R)):=by
 have hw : wrap64 ((i : Int) + 1) = ((i + 1 : Nat) : Int):=by rw [wrap_succ (i:=(i : Int)) (n:=g.length) (by omega) (by omega) (by omega)];rfl
 have hrd : rd_T47 g ((i + 1 : Nat) : Int) = g.getD (i + 1) z47:=by simp [rd_T47]
 refine Ev.succ ?_
 simp only [impl_partsOk.j2,hw,hrd]
 cases b with
 | true=>exact Ev.pos rfl (Ev.const rfl)
 | false =>
  refine Ev.neg (by simp) ?_
  rw [Bool.not_false,Bool.true_and]
  replace hn:=hn rfl
  unfold okB at hn ⊢
  by_cases hlt : ((i + 1 : Nat) : Int) < (g.length : Int)
  ·refine Ev.pos hlt (Ev.pos (by omega) ?_)
   cases h1 : p.f1 with
   | true =>
    refine Ev.pos rfl ?_
    rw [h1,if_pos rfl] at hn
    rw [if_pos rfl]
    by_cases h2 : p.f2 = 0
    ·refine Ev.pos h2 ?_
     rw [beq_iff_eq.2 h2,Bool.true_and] at hn ⊢
     unfold belowB at hn ⊢
     rw [hp,decide_eq_true (show i + 1 < g.length by omega),Bool.true_and] at hn ⊢
     by_cases h3 : (g.getD (i + 1) z47).f0 > p.f0
     ·rw [decide_eq_true (show p.f0 < (g.getD (i + 1) z47).f0 from h3)] at hn ⊢
      rw [Bool.true_and]
      exact Ev.pos h3 (hn rfl)
     ·rw [decide_eq_false (show ¬ p.f0 < (g.getD (i + 1) z47).f0 from h3),Bool.false_and]
      exact Ev.neg h3 (Ev.const rfl)
    ·refine Ev.neg h2 ?_
     rw [beq_eq_false_iff_ne.2 h2]
     exact Ev.const rfl
   | false =>
    refine Ev.neg (by simp) ?_
    rw [h1,if_neg (by simp)] at hn
    rw [if_neg (by simp)]
    refine Ev.bind (Ev.const (impl_Tree_has_ev t p.f2 ht)) ?_
    cases h4 : hasC t p.f2 with
    | true=>exact Ev.pos rfl (hn h4)
    | false=>exact Ev.neg (by simp) (Ev.const rfl)
  ·refine Ev.neg hlt ?_
   cases h1 : p.f1 with
   | true =>
    refine Ev.pos rfl ?_
    rw [if_pos rfl]
    unfold belowB
    rw [decide_eq_false (show ¬ i + 1 < g.length by omega),Bool.false_and,Bool.and_false,Bool.false_and]
    by_cases h2 : p.f2 = 0
    ·exact Ev.pos h2 (Ev.const rfl)
    ·exact Ev.neg h2 (Ev.const rfl)
   | false =>
    refine Ev.neg (by simp) ?_
    rw [h1,if_neg (by simp)] at hn
    rw [if_neg (by simp)]
    refine Ev.bind (Ev.const (impl_Tree_has_ev t p.f2 ht)) ?_
    cases h4 : hasC t p.f2 with
    | true=>exact Ev.pos rfl (hn h4)
    | false=>exact Ev.neg (by simp) (Ev.const rfl)
theorem impl_partsOk_j1 (t : List Cls) (g : List Prt) (ht : t.length ≤ 9223372036854775807) (hl : g.length ≤ 9223372036854775807) (i : Nat) (hi : i < g.length) (p : Prt) (hp : g.getD i z47 = p) (b R : Bool) (hq : 0 < i → 0 ≤ (g.getD (i - 1) z47).f0 ∧ (g.getD (i - 1) z47).f0 ≤ 5)
  (hn : b = false → okU g i p = true → okB t g i p = true → Ev (fun k=>impl_partsOk.l0 k g g (g.length : Int) ((i + 1 : Nat) : Int) t) R) : Ev (fun k=>impl_partsOk.j1 k g (i : Int) g (g.length : Int) (i : Int) b t p.f0 p.f1 p.f2 p.f3) (!b && (okU g i p && (okB t g i p && R))):=by
 refine Ev.succ ?_
 simp only [impl_partsOk.j1]
 cases b with
 | true=>exact Ev.pos rfl (Ev.const rfl)
 | false =>
  refine Ev.neg (by simp) ?_
  rw [Bool.not_false,Bool.true_and]
  replace hn:=hn rfl
  unfold okU at hn ⊢
  by_cases h0 : i = 0
  ·refine Ev.neg (by omega) ?_
   rw [if_pos h0] at hn
   rw [if_pos h0,Bool.true_and]
   simpa using impl_partsOk_j2 t g ht hl i hi p hp false R (fun _=>hn rfl)
  ·have hb:=hq (by omega)
   have hw : wrap64 ((i : Int) - 1) = ((i - 1 : Nat) : Int):=by rw [wrap_pred (by omega) (by omega)];omega
   have hrd : rd_T47 g ((i - 1 : Nat) : Int) = g.getD (i - 1) z47:=by simp [rd_T47]
   rw [if_neg h0] at hn ⊢
   simp only [hw,hrd]
   generalize g.getD (i - 1) z47 = q at hb hn ⊢
   rw [wrap_in (i:=q.f0 + 1) (by omega) (by omega)]
   refine Ev.pos (by omega) (Ev.pos (by omega) (Ev.pos (by omega) ?_))
   by_cases h1 : p.f0 > q.f0
   ·refine Ev.pos h1 ?_
    rw [decide_eq_true (show q.f0 < p.f0 from h1),Bool.true_and] at hn ⊢
    cases hq1 : q.f1 with
    | true =>
     refine Ev.pos rfl ?_
     rw [hq1] at hn
     have:=impl_partsOk_j2 t g ht hl i hi p hp (!(p.f0 == q.f0 + 1)) R (fun e=>hn (by rw [Bool.true_and,e];rfl))
     simpa using this
    | false =>
     refine Ev.neg (by simp) ?_
     have:=impl_partsOk_j2 t g ht hl i hi p hp (!false) R (fun e=>by cases e)
     simpa using this
   ·refine Ev.neg h1 ?_
    rw [decide_eq_false (show ¬ q.f0 < p.f0 from h1),Bool.false_and] at hn ⊢
    simpa using impl_partsOk_j2 t g ht hl i hi p hp false R (fun _=>hn rfl)
theorem impl_partsOk_l0 (t : List Cls) (g : List Prt) (ht : t.length ≤ 9223372036854775807) (hl : g.length ≤ 9223372036854775807) : ∀ d i,i + d = g.length → (0 < i → okP t g (i - 1) (g.getD (i - 1) z47) = true) →
  Ev (fun k=>impl_partsOk.l0 k g g (g.length : Int) (i : Int) t) ((List.range' i d).all (fun i=>okP t g i (g.getD i z47)) && (decide (1 ≤ g.length) && decide (g.length ≤ 16))):=by
 intro d
 induction d with
 | zero =>
  intro i hi _
  refine Ev.succ ?_
  simp only [impl_partsOk.l0]
  refine Ev.neg (by omega) (Ev.bind (Ev.const (impl_within_ev _ _ _)) ?_)
  refine Ev.const ?_
  simp
  congr 1 <;> exact decide_eq_decide.2 (by omega)
 | succ d ih =>
  intro i hi hA
  have hlt : i < g.length:=by omega
  have hrd : rd_T47 g (i : Int) = g.getD i z47:=by simp [rd_T47]
  rw [List.range'_succ,List.all_cons]
  by_cases hok : okP t g i (g.getD i z47) = true
  ·have hn:=ih (i + 1) (by omega) (fun _=>hok)
   have hj:=fun b=>impl_partsOk_j1 t g ht hl i hlt _ rfl b _ (fun h=>okP_depth (hA h)) (fun _ _ _=>hn)
   rw [hok,Bool.true_and]
   rw [okP_eq] at hok
   simp only [Bool.and_eq_true] at hok
   obtain ⟨h1,h2,h3,h4,h5⟩:=hok
   refine Ev.succ ?_
   simp only [impl_partsOk.l0,hrd,impl_codeOk_ev,impl_within_ev,Option.bind_some]
   refine Ev.pos (by omega) (Ev.pos (by omega) (Ev.pos (by omega) (Ev.pos (by simpa using h1) (Ev.pos (by simpa using h2) ?_))))
   have:=hj (((g.getD i z47).f0 == 0) != ((i : Int) == 0))
   rw [h3,h4,h5,Bool.true_and,Bool.true_and,Bool.true_and] at this
   exact this
  ·have hok' : okP t g i (g.getD i z47) = false:=by simpa using hok
   rw [hok',Bool.false_and,Bool.false_and]
   have hj:=fun b (hb : b = false → okU g i (g.getD i z47) = true → okB t g i (g.getD i z47) = true → False)=>impl_partsOk_j1 t g ht hl i hlt _ rfl b false (fun h=>okP_depth (hA h)) (fun h1 h2 h3=>(hb h1 h2 h3).elim)
   simp only [Bool.and_false] at hj
   refine Ev.succ ?_
   simp only [impl_partsOk.l0,hrd,impl_codeOk_ev,impl_within_ev,Option.bind_some]
   refine Ev.pos (by omega) (Ev.pos (by omega) (Ev.pos (by omega) ?_))
   rw [okP_eq] at hok'
   by_cases h1 : (decide (0 ≤ (g.getD i z47).f3) && decide ((g.getD i z47).f3 ≤ 99)) = true
   ·refine Ev.pos h1 ?_
    rw [h1,Bool.true_and] at hok'
    by_cases h2 : (decide (0 ≤ (g.getD i z47).f0) && decide ((g.getD i z47).f0 ≤ 5)) = true
    ·refine Ev.pos h2 (hj _ (fun h3 h4 h5=>?_))
     rw [h2,h3,h4,h5] at hok'
     cases hok'
    ·exact Ev.neg h2 (hj true (fun h=>by cases h))
   ·exact Ev.neg h1 (hj true (fun h=>by cases h))
end Go.Proofs.Ytfphcdbnnienhaa.P
namespace Go.Proofs.Ytfphcdbnnienhaa.P
open Go.RowKit Go.Proofs.YtfphcdbnnienhaaW.PrintWords Go.Proofs.YtfphcdbnnienhaaW.PrintLast Go.Proofs.YtfphcdbnnienhaaW.PrintMore
attribute [local go_sem] max2_int min2_int max_two min_two max_three min_three max_four min_four
set_option linter.unusedVariables false
set_option linter.unusedSimpArgs false
def impl_ValidGroup.f (k : Nat) (l0_0 : List (S85)) (l1 : List (S47)) : Option (Bool):=(impl_ValidTree.f l0_0).bind fun t2=>(if t2 = true then ((impl_partsOk.f k l0_0 l1).bind fun t3=>(some t3)) else (some false))
theorem impl_ValidGroup.mono : ∀ a0 a1 k,LeO (impl_ValidGroup.f k a0 a1) (impl_ValidGroup.f (k + 1) a0 a1):=by
 intro a0 a1 k
 unfold impl_ValidGroup.f
 repeat' first
   | (with_reducible exact impl_partsOk.mono _ _ _)
   | (with_reducible exact LeO.refl _)
   | (with_reducible exact LeO.none _)
   | (with_reducible refine LeO.ite ?_ ?_)
   | (with_reducible refine LeO.bind ?_ (fun _=>?_))
   | exact impl_partsOk.mono _ _ _
   | exact LeO.none _
   | refine LeO.ite ?_ ?_
   | refine LeO.bind ?_ (fun _=>?_)
set_option maxHeartbeats 8000000 in
set_option maxRecDepth 100000 in
theorem impl_ValidGroup.calls (k : Nat) (A0_0 : Option Addr) (c0_0 : Nat) (l0_0 : List (S85)) (A1 : Option Addr) (c1 : Nat) (l1 : List (S47)) (r : Bool) (w : World) (hr0_0 : Kd.C k85 w A0_0 l0_0.length l0_0) (hc0_0 : l0_0.length ≤ c0_0) (hr1 : Kd.C k47 w A1 l1.length l1) (hc1 : l1.length ≤ c1) (h : impl_ValidGroup.f k l0_0 l1 = some r) :
  Calls Try.prog 15 #[.agg #[.slice A0_0 l0_0.length c0_0],.slice A1 l1.length c1] w fun e w'=>e = .returned (.bool r) ∧ Below w.heap.size w w':=by
 have hu25:=Try.underlying25
 have HR0_0:=a0_ hr0_0
 have HC0_0:=a0_ hc0_0
 clear hr0_0 hc0_0
 have HR1:=a0_ hr1
 have HC1:=a0_ hc1
 clear hr1 hc1
 have HB:=a0_ (Below.refl w.heap.size w)
 have H : ((impl_ValidTree.f l0_0).bind fun t2=>(if t2 = true then ((impl_partsOk.f k l0_0 l1).bind fun t3=>(some t3)) else (some false))) = some r:=h
 clear h
 replace H:=Option.bind_eq_some_iff.mp H
 obtain ⟨t2,A30,H⟩:=H
 try dsimp only at H
 have A3:=a0_ A30
 clear A30
 by_cases c4 : t2 = true
 ·subst c4
  have H1 : ((impl_partsOk.f k l0_0 l1).bind fun t3=>(some t3)) = some r:=by rw [if_pos rfl] at H;exact H
  clear H
  have H:=H1
  clear H1
  replace H:=Option.bind_eq_some_iff.mp H
  obtain ⟨t3,A50,H⟩:=H
  replace H : (some t3) = some r:=H
  have A5:=a0_ A50
  clear A50
  obtain rfl:=Option.some.inj H
  go_enter Try.func15,Try.ntmps15
  go_wp2_with (first | ((with_reducible refine gate_dst (N:=2) rfl ?_);refine box_event ?hg (N:=2) ?hd (cs:=#[.slice A0_0 l0_0.length c0_0]) (t:=25) ?hr ?_;(case hd=>rfl);(case hg=>rfl);(case hr=>first | (go_simp;done) | (go_simp;rfl));intro gb1 hg w6 hbox hb;have BK1:=a0_ (hbox);have GW1:=a0_ ((by rw [hg];exact (below_size hb_) : w.heap.size ≤ gb1));have GE1:=a0_ ((by rw [hg];exact (below_size hb_) : w.heap.size ≤ gb1));replace HB:=a0_ (below_step hb_ hb);clear hb hbox hg;have hcz7_0 : w6.cell? ⟨gb1,0,none⟩ = some (.slice A0_0 l0_0.length c0_0):=(blk_cell BK1.out 0).trans rfl;have hfz7_0:=blk_frozen BK1.out 0) | ((with_reducible refine gate_callee (f:=41) rfl ?_);refine goesL_ (some 6) rfl rfl Try.func41 (by kernel_rfl) rfl #[.agg #[.slice A0_0 l0_0.length c0_0]] rfl lm_ ?_;(with_reducible refine (impl_ValidTree.calls _ _ l0_0 true _ ?side1 ?side2 A3.out).mono ?_);(case side1=>exact cc_ (Kd.C_below HR0_0.out HB.out));(case side2=>exact HC0_0.out);rintro e w8 ⟨rfl,hb⟩;refine ⟨_,rfl,?_⟩;replace BK1:=kb_ BK1 hb;replace HB:=a0_ (below_step hb_ hb);(try clear hb);have hcz9_0 : w8.cell? ⟨gb1,0,none⟩ = some (.slice A0_0 l0_0.length c0_0):=(blk_cell BK1.out 0).trans rfl;have hfz9_0:=blk_frozen BK1.out 0) | (go_at_call 42;(with_reducible refine (impl_partsOk.calls k _ _ l0_0 _ _ l1 t3 _ ?side1 ?side2 ?side3 ?side4 A5.out).mono ?_);(case side1=>exact cc_ (Kd.C_below HR0_0.out HB.out));(case side2=>exact HC0_0.out);(case side3=>exact cc_ (Kd.C_below HR1.out HB.out));(case side4=>exact HC1.out);rintro e w10 ⟨rfl,hb⟩;replace BK1:=kb_ BK1 hb;replace HB:=a0_ (below_step hb_ hb);(try clear hb);(try clear hb2);(try clear hk);(try clear hi)))
  go_ret
  exact ⟨by first | rfl | (simp [errW_none,errW_some] <;> rfl) | (simp [*,errW_none,errW_some] <;> rfl),hb_⟩
 ·replace c4:=Bool.eq_false_iff.mpr c4
  subst c4
  have H1 : (some false) = some r:=by rw [if_neg (show ¬ (false = true) by decide)] at H;exact H
  clear H
  have H:=H1
  clear H1
  obtain rfl:=Option.some.inj H
  go_enter Try.func15,Try.ntmps15
  go_wp2_with (first | ((with_reducible refine gate_dst (N:=2) rfl ?_);refine box_event ?hg (N:=2) ?hd (cs:=#[.slice A0_0 l0_0.length c0_0]) (t:=25) ?hr ?_;(case hd=>rfl);(case hg=>rfl);(case hr=>first | (go_simp;done) | (go_simp;rfl));intro gb1 hg w11 hbox hb;have BK1:=a0_ (hbox);have GW1:=a0_ ((by rw [hg];exact (below_size hb_) : w.heap.size ≤ gb1));have GE1:=a0_ ((by rw [hg];exact (below_size hb_) : w.heap.size ≤ gb1));replace HB:=a0_ (below_step hb_ hb);clear hb hbox hg;have hcz12_0 : w11.cell? ⟨gb1,0,none⟩ = some (.slice A0_0 l0_0.length c0_0):=(blk_cell BK1.out 0).trans rfl;have hfz12_0:=blk_frozen BK1.out 0) | ((with_reducible refine gate_callee (f:=41) rfl ?_);refine goesL_ (some 6) rfl rfl Try.func41 (by kernel_rfl) rfl #[.agg #[.slice A0_0 l0_0.length c0_0]] rfl lm_ ?_;(with_reducible refine (impl_ValidTree.calls _ _ l0_0 false _ ?side1 ?side2 A3.out).mono ?_);(case side1=>exact cc_ (Kd.C_below HR0_0.out HB.out));(case side2=>exact HC0_0.out);rintro e w13 ⟨rfl,hb⟩;refine ⟨_,rfl,?_⟩;replace BK1:=kb_ BK1 hb;replace HB:=a0_ (below_step hb_ hb);(try clear hb);(try clear hb2);(try clear hk);(try clear hi)))
  go_ret
  exact ⟨by first | rfl | (simp [errW_none,errW_some] <;> rfl) | (simp [*,errW_none,errW_some] <;> rfl),hb_⟩
theorem impl_ValidGroup_ev (t : List Cls) (g : List Prt) (ht : t.length ≤ 9223372036854775807) (hl : g.length ≤ 9223372036854775807) (hs : smT t = true) : Ev (fun k=>impl_ValidGroup.f k t g) (vG t g):=by
 refine Ev.bind (Ev.const (show impl_ValidTree.f t = some (vT t) by rw [impl_ValidTree.f,if_pos hs])) ?_
 unfold vG psG
 cases hv : vT t with
 | false =>
  refine Ev.neg (by simp) (Ev.const ?_)
  simp
 | true =>
  refine Ev.pos rfl (Ev.bind ?_ (Ev.const rfl))
  have:=impl_partsOk_l0 t g ht hl g.length 0 (by omega) (fun h=>absurd h (by omega))
  rw [List.range_eq_range',Bool.true_and]
  exact this
end Go.Proofs.Ytfphcdbnnienhaa.P
namespace Go.Proofs.Ytfphcdbnnienhaa.P
open Go.RowKit Go.Proofs.YtfphcdbnnienhaaW.PrintWords Go.Proofs.YtfphcdbnnienhaaW.PrintLast Go.Proofs.YtfphcdbnnienhaaW.PrintMore
attribute [local go_sem] max2_int min2_int max_two min_two max_three min_three max_four min_four
set_option linter.unusedVariables false
set_option linter.unusedSimpArgs false
def d1P (p : Prt) : Prt:=⟨1,p.f1,p.f2,p.f3⟩
def flt (l : List Prt) : List Prt:=(l.filter (fun p=>!p.f1)).map d1P
theorem flt_cons (p : Prt) (l : List Prt) : flt (p :: l) = (if p.f1 = true then [] else [d1P p]) ++ flt l:=by
 unfold flt
 rw [List.filter_cons]
 cases p.f1 <;> rfl
theorem flt_len (l : List Prt) : (flt l).length ≤ l.length:=by
 unfold flt
 rw [List.length_map]
 exact List.length_filter_le _ _
def flatP (t : List Cls) (g : List Prt) : List Prt:=if vG t g = true then g.take 1 ++ flt (g.drop 1) else []
theorem flatP_len (t : List Cls) (g : List Prt) : (flatP t g).length ≤ g.length:=by
 unfold flatP
 split
 ·have:=flt_len (g.drop 1)
  rw [List.length_append,List.length_take]
  rw [List.length_drop] at this
  omega
 ·simp
theorem vG_alone {t : List Cls} {g : List Prt} (h : vG t g = true) (h0 : (g.getD 0 z47).f1 = false) : g.length = 1:=by
 apply Classical.byContradiction
 intro hn
 have hl:=(vG_tree h).2.1
 unfold vG at h
 rw [Bool.and_eq_true] at h
 have h1:=psG_at h.1 1 (by omega)
 have h2:=psG_at h.1 0 (by omega)
 unfold okP okP1 at h1 h2
 simp only [Bool.and_eq_true] at h1 h2
 have hz:=h2.1.2.2.2.2
 have hy:=h1.1.2.2.2.2
 have hb:=h1.1.2.1.1
 have hu:=h1.2.1
 simp at hz hy hb hu
 unfold okUp at hu
 rw [← List.getD_eq_getElem?_getD,← List.getD_eq_getElem?_getD] at hu
 rw [← List.getD_eq_getElem?_getD] at hz hy hb
 rw [h0] at hu
 simp at hu
 rw [← List.getD_eq_getElem?_getD,← List.getD_eq_getElem?_getD] at hu
 omega
end Go.Proofs.Ytfphcdbnnienhaa.P
namespace Go.Proofs.Ytfphcdbnnienhaa.P
open Go.RowKit Go.Proofs.YtfphcdbnnienhaaW.PrintWords Go.Proofs.YtfphcdbnnienhaaW.PrintLast Go.Proofs.YtfphcdbnnienhaaW.PrintMore
attribute [local go_sem] max2_int min2_int max_two min_two max_three min_three max_four min_four
set_option linter.unusedVariables false
set_option linter.unusedSimpArgs false
theorem pw_eqlnil {P : Program} {t e : TypeId} (a : Option Addr) (h : P.underlying t = some (.slice e)) : ∀ n c w,(binOp .eql t (.slice a n c) (.slice none 0 0)).run P w = .ok (.bool a.isNone) w:=by
 intro n c w
 have h1 : ∀ d,(Op.equalIn (d + 1) t (.slice a n c) (.slice none 0 0)).run P w = .ok a.isNone w:=by
  intro d
  cases a <;> simp [Op.equalIn,run_underlying h]
 have h2 : (Op.equal t (.slice a n c) (.slice none 0 0)).run P w = .ok a.isNone w:=h1 9999
 simp [binOp,h2]
end Go.Proofs.Ytfphcdbnnienhaa.P
namespace Go.Proofs.Ytfphcdbnnienhaa.P
open Go.RowKit Go.Proofs.YtfphcdbnnienhaaW.PrintWords Go.Proofs.YtfphcdbnnienhaaW.PrintLast Go.Proofs.YtfphcdbnnienhaaW.PrintMore
attribute [local go_sem] max2_int min2_int max_two min_two max_three min_three max_four min_four
set_option linter.unusedVariables false
set_option linter.unusedSimpArgs false
def slices_Clone_Part.f (l0 : List (S47)) : Option (List (S47)):=if l0.length < 4398046511104 then some l0 else none
set_option maxHeartbeats 2000000 in
set_option maxRecDepth 100000 in
theorem slices_Clone_Part.calls (A0 : Option Addr) (c0 : Nat) (l0 : List (S47)) (r : List (S47)) (w : World) (hr0 : Kd.C k47 w A0 l0.length l0) (hc0 : l0.length ≤ c0) (h : slices_Clone_Part.f l0 = some r) :
  Calls Try.prog 38 #[.slice A0 l0.length c0] w fun e w'=>∃ v0_ : Value,e = .returned (v0_) ∧ Kd.R k47 47 w' w.heap.size (fun _=>True) v0_ r ∧ Below w.heap.size w w':=by
 have hlm : l0.length < 4398046511104:=by
  apply Classical.byContradiction
  intro hn
  rw [slices_Clone_Part.f,if_neg hn] at h
  cases h
 rw [slices_Clone_Part.f,if_pos hlm] at h
 obtain rfl:=Option.some.inj h
 clear h
 have HR0:=a0_ hr0
 have HC0:=a0_ hc0
 have LM:=a0_ hlm
 clear hlm hc0
 have HB:=a0_ (Below.refl w.heap.size w)
 obtain ⟨y1,hy1⟩ : ∃ y_ : List (S47),y_ = (([] : List (S47))):=⟨_,rfl⟩
 have Ny1:=a0_ hy1
 obtain ⟨y4,hy4⟩ : ∃ y_ : List (S47),y_ = y1 ++ l0:=⟨_,rfl⟩
 have Ny4:=a0_ hy4
 have Ny5:=a0_ (show y4 = l0 by rw [hy4,hy1,List.nil_append])
 have Ny6:=a0_ (show y1.length = 0 by rw [hy1];rfl)
 clear hy1 hy4
 cases A0 with
 | none =>
  have e0 : l0.length = 0:=by
   apply Classical.byContradiction
   intro hn
   obtain ⟨ad,e,_⟩:=hr0.2.2 (by omega)
   cases e
  clear hr0
  have e1 : l0 = []:=List.length_eq_zero_iff.1 e0
  have hnl:=pw_eqlnil (P:=Try.prog) none Try.underlying26
  simp only [Option.isNone_none] at hnl
  go_enter Try.func38,Try.ntmps38
  go_wp2
  go_ret
  exact ⟨_,rfl,by rw [e1];exact Kd.R_nil _ _ _ _ _,HB.out⟩
 | some a0 =>
  clear hr0
  have hnl:=pw_eqlnil (P:=Try.prog) (some a0) Try.underlying26
  simp only [Option.isNone_some] at hnl
  go_enter Try.func38,Try.ntmps38
  go_wp2_with (first | ((with_reducible refine gate_dst (N:=5) rfl ?_);refine Kd.R_lit k47 _ 47 ?hg (N:=5) ?hd (xs:=([] : List (S47))) (inner:=[]) (ok:=fun _=>True) (okp:=fun _=>True) ?hr ?hp (fun _ hk=>hk) trivial (Below.refl _ _) (Nat.le_refl _) (by simp) ?_;(case hd=>rfl);(case hg=>rfl);(case hr=>first | (go_simp;done) | (go_simp;rfl));(case hp=>exact (Reps.none _ _));intro v2 w4 ho5 hb hg_ hnew_;clear hg_ hnew_;(first | rw [← Ny1.out] at ho5 | (simp only [Int.reduceToNat] at ho5;rw [← Ny1.out] at ho5));have HO3:=a0_ (Kd.R_lower ho5 (below_size hb_));replace HB:=a0_ (below_step hb_ hb);clear hb ho5) | ((with_reducible refine gate_builtin (b:=.append) (xs:=#[.tmp 5,.tmp 6]) rfl ?_);at_builtin;refine Kd.R_append_rows k47 (w0:=w) w.heap.size rfl (.tmp 5) (.tmp 6) 26 47 (.agg #[(.int .i64 0),(.bool false),(.int .i64 0),(.int .i64 0)]) 32 rfl Try.underlying26 info47 rfl (by decide) (by omega) v2 y1 l0 _ _ _ (fun _=>True) (fun _=>False) rfl rfl ?aO ?aR (fun _ _ h=>h) (fun _ h=>h.elim) ?aF ?aB ?aS ?aL ?_;(case aR=>exact cc_ (Kd.C_below HR0.out HB.out));(case aB=>exact hb_);(case aF=>exact (fun _ _=>trivial));(case aO=>exact (rr_ HO3.out));(case aS=>exact (below_size hb_));(case aL=>have:=LM.out;have:=Ny6.out;omega);intro v5 w6 ho hb hg hat;rw [← Ny4.out] at ho;have HO6:=a0_ (ho);replace HB:=a0_ (hb);clear HO3;clear ho hb hg hat))
  go_ret
  exact ⟨_,rfl,by rw [← Ny5.out];exact HO6.out,HB.out⟩
end Go.Proofs.Ytfphcdbnnienhaa.P
namespace Go.Proofs.Ytfphcdbnnienhaa.P
open Go.RowKit Go.Proofs.YtfphcdbnnienhaaW.PrintWords Go.Proofs.YtfphcdbnnienhaaW.PrintLast Go.Proofs.YtfphcdbnnienhaaW.PrintMore
attribute [local go_sem] max2_int min2_int max_two min_two max_three min_three max_four min_four
set_option linter.unusedVariables false
set_option linter.unusedSimpArgs false
def slices_Clip_Part.f (l0 : List (S47)) : Option ((List (S47))):=if 0 ≤ (l0.length : Int) then (if (l0.length : Int) ≤ (l0.length : Int) then (some (l0.take ((l0.length : Int) : Int).toNat)) else (none)) else (none)
set_option maxHeartbeats 8000000 in
set_option maxRecDepth 100000 in
theorem slices_Clip_Part.calls (P0_ : Nat → Prop) (u9000_ : Value) (l0 : List (S47)) (r : List (S47)) (w0 w : World) (hB : Below w0.heap.size w0 w) (ho0 : Kd.R k47 47 w w0.heap.size P0_ u9000_ l0) (h : slices_Clip_Part.f l0 = some r) :
  Calls Try.prog 39 #[u9000_] w fun e w'=>∃ v0_ : Value,e = .returned (v0_) ∧ Kd.R k47 47 w' w0.heap.size (fun k_=>(P0_ k_ ∨ w.heap.size ≤ k_)) v0_ r ∧ Below w0.heap.size w0 w' ∧ Kept w w' (fun k_=>P0_ k_):=by
 have HO0:=a0_ (show Kd.R k47 47 w w0.heap.size (fun k_=>(P0_ k_ ∨ w.heap.size ≤ k_)) u9000_ l0 from Kd.R_mono ho0 (fun k_ hk=>(.inl hk)))
 have HK:=a0_ (Kept.refl w (fun k_=>P0_ k_))
 have HW0:=a0_ hB.size
 have HB:=a0_ hB
 clear hB
 have H : (if 0 ≤ (l0.length : Int) then (if (l0.length : Int) ≤ (l0.length : Int) then (some (l0.take ((l0.length : Int) : Int).toNat)) else (none)) else (none)) = some r:=h
 clear h
 by_cases c2 : 0 ≤ (l0.length : Int)
 ·rw [if_pos c2] at H
  have c2b0:=eq_true c2
  have c2b1 : decide (0 ≤ (l0.length : Int)) = true:=decide_eq_true c2
  clear c2
  by_cases c3 : (l0.length : Int) ≤ (l0.length : Int)
  ·rw [if_pos c3] at H
   have c3b0:=eq_true c3
   have c3b1 : decide ((l0.length : Int) ≤ (l0.length : Int)) = true:=decide_eq_true c3
   clear c3
   obtain ⟨y1,hy1⟩ : ∃ y_ : List (S47),y_ = (l0.take ((l0.length : Int) : Int).toNat):=⟨_,rfl⟩
   replace H : (some y1) = some r:=by first | (rw [hy1];with_reducible exact H) | (have H2_:=(Option.bind_some _ _).symm.trans H;rw [hy1];with_reducible exact H2_) | (have H2_:=(Option.bind_some _ _).symm.trans H;with_reducible exact H2_) | with_reducible exact H | (rw [hy1];exact H) | exact H
   have Ny1:=a0_ hy1
   clear hy1
   obtain rfl:=Option.some.inj H
   obtain ⟨Ao4,co4,eo4⟩:=Kd.R_slice HO0.out
   subst eo4
   have q5 : l0.length ≤ co4:=(Kd.R_reads' HO0.out).2.1
   have hr5:=Kd.R_clip2 HO0.out (((l0.length : Int) : Int).toNat) (by omega)
   rw [← Ny1.out] at hr5
   clear HO0
   have HO3:=a0_ hr5
   clear hr5
   go_enter Try.func39,Try.ntmps39
   go_wp2
   go_ret
   exact ⟨_,by first | rfl | (simp [errW_none,errW_some] <;> rfl) | (simp [*,errW_none,errW_some] <;> rfl),by (with_reducible repeat (first | apply Kd.R_alloc | apply Kd.R_drewN | apply Kd.R_drew));exact HO3.out,hb_,by repeat (first | (with_reducible first | exact HK.out | apply Kept.alloc | apply Kept.drewN | apply Kept.drew) | exact HK.out)⟩
  ·rw [if_neg c3] at H
   exact absurd H (by simp)
 ·rw [if_neg c2] at H
  exact absurd H (by simp)
theorem slices_Clip_Part_ev (l : List Prt) : slices_Clip_Part.f l = some l:=by
 unfold slices_Clip_Part.f
 rw [if_pos (by omega),if_pos (by omega)]
 simp
end Go.Proofs.Ytfphcdbnnienhaa.P
