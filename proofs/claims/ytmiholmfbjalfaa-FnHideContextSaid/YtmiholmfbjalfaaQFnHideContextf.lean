/- Texts under the proof of FnHideContext: helper words, the functions' contracts and the plain laws. No condition. -/
import Derived.Test.YtmiholmfbjalfaaQFnHideContexta
import Derived.Test.YtmiholmfbjalfaaQFnHideContextd
import Derived.Test.YtmiholmfbjalfaaQFnHideContexte
namespace Go.Proofs.Ytmiholmfbjalfaa.P
open Go.RowKit Go.Proofs.YtmiholmfbjalfaaW.PrintWords Go.Proofs.YtmiholmfbjalfaaW.PrintLast Go.Proofs.YtmiholmfbjalfaaW.PrintMore
attribute [local go_sem] max2_int min2_int max_two min_two max_three min_three max_four min_four
set_option linter.unusedVariables false
set_option linter.unusedSimpArgs false
def laws_FnHideContext.j0 : Nat → Int → Bool → Bool → Bool → Bool → List (S87) → List (S43) → List (S43) → List (S43) → Option (Bool)
 | 0,_,_,_,_,_,_,_,_,_=>none
 | k + 1,x5,x6,x8,x10,x53,x10000,x11000,x16000,x21000=>if x53 = true then ((laws_equalHeap.f k x16000 x21000).bind fun t22=>(if t22 = true then (some (x8 == x10)) else (some false))) else (if 0 ≤ x5 then (if x5 < (x11000.length : Int) then ((impl_HideContext.f x10000 x16000 x5 ((rd_T43 x11000 x5).f4)).bind fun bt24=>(if x5 < (x16000.length : Int) then ((impl_ShownNext.f x10000 x16000 x5).bind fun t31=>(if bt24.2 = true then ((laws_equalHeap.f k bt24.1 x11000).bind fun t32=>(if t32 = true then (if ((rd_T43 x16000 x5).f2) ≥ 0 then (if t31 = ((rd_T43 x16000 x5).f2) then (some true) else (if ((rd_T43 x16000 x5).f2) < 0 then (if x6 = true then (if t31 = (-1) then (some true) else (some false)) else (some (t31 == ((rd_T43 x16000 x5).f3)))) else (some false))) else (if ((rd_T43 x16000 x5).f2) < 0 then (if x6 = true then (if t31 = (-1) then (some true) else (some false)) else (some (t31 == ((rd_T43 x16000 x5).f3)))) else (some false))) else (some false))) else (some false))) else (none))) else (none)) else (none))
def laws_FnHideContext.f (k : Nat) (l0 : List Int) : Option (Bool):=if (l0.length : Int) > 1048576 then (some true) else ((spec_DrawHideContext.f k l0).bind fun bt1=>((impl_HideContext.f bt1.1 bt1.2.1 bt1.2.2.1 bt1.2.2.2).bind fun bt11=>((spec_HideContext.f k bt1.1 bt1.2.1 bt1.2.2.1 bt1.2.2.2).bind fun bt16=>((laws_equalHeap.f k bt11.1 bt16.1).bind fun t21=>(if t21 = true then (if (bt11.2 != bt16.2) = true then (laws_FnHideContext.j0 k bt1.2.2.1 bt1.2.2.2 bt11.2 bt16.2 true bt1.1 bt1.2.1 bt11.1 bt16.1) else (laws_FnHideContext.j0 k bt1.2.2.1 bt1.2.2.2 bt11.2 bt16.2 (!bt11.2) bt1.1 bt1.2.1 bt11.1 bt16.1)) else (laws_FnHideContext.j0 k bt1.2.2.1 bt1.2.2.2 bt11.2 bt16.2 true bt1.1 bt1.2.1 bt11.1 bt16.1))))))
theorem laws_FnHideContext.mono_l : ∀ k,(∀ y0 y1 y2 y3 y4 y5 y6 y7 y8,LeO (laws_FnHideContext.j0 k y0 y1 y2 y3 y4 y5 y6 y7 y8) (laws_FnHideContext.j0 (k + 1) y0 y1 y2 y3 y4 y5 y6 y7 y8))
 | 0=>fun _ _ _ _ _ _ _ _ _ r h=>by simp [laws_FnHideContext.j0] at h
 | k + 1=>by
  have ih0:=laws_FnHideContext.mono_l k
  ·intro y0 y1 y2 y3 y4 y5 y6 y7 y8
   unfold laws_FnHideContext.j0
   repeat' first
   | (with_reducible exact ih0 _ _ _ _ _ _ _ _ _)
   | (with_reducible exact laws_equalHeap.mono _ _ _)
   | (with_reducible exact spec_DrawHideContext.mono _ _)
   | (with_reducible exact spec_HideContext.mono _ _ _ _ _)
   | (with_reducible exact LeO.refl _)
   | (with_reducible exact LeO.none _)
   | (with_reducible refine LeO.ite ?_ ?_)
   | (with_reducible refine LeO.bind ?_ (fun _=>?_))
   | exact ih0 _ _ _ _ _ _ _ _ _
   | exact laws_equalHeap.mono _ _ _
   | exact spec_DrawHideContext.mono _ _
   | exact spec_HideContext.mono _ _ _ _ _
   | exact LeO.none _
   | refine LeO.ite ?_ ?_
   | refine LeO.bind ?_ (fun _=>?_)
theorem laws_FnHideContext.mono : ∀ a0 k,LeO (laws_FnHideContext.f k a0) (laws_FnHideContext.f (k + 1) a0):=by
 intro a0 k
 have ih0:=laws_FnHideContext.mono_l k
 unfold laws_FnHideContext.f
 repeat' first
   | (with_reducible exact ih0 _ _ _ _ _ _ _ _ _)
   | (with_reducible exact laws_equalHeap.mono _ _ _)
   | (with_reducible exact spec_DrawHideContext.mono _ _)
   | (with_reducible exact spec_HideContext.mono _ _ _ _ _)
   | (with_reducible exact LeO.refl _)
   | (with_reducible exact LeO.none _)
   | (with_reducible refine LeO.ite ?_ ?_)
   | (with_reducible refine LeO.bind ?_ (fun _=>?_))
   | exact ih0 _ _ _ _ _ _ _ _ _
   | exact laws_equalHeap.mono _ _ _
   | exact spec_DrawHideContext.mono _ _
   | exact spec_HideContext.mono _ _ _ _ _
   | exact LeO.none _
   | refine LeO.ite ?_ ?_
   | refine LeO.bind ?_ (fun _=>?_)
def laws_FnHideContext.T8 : Bool × List (List Nat × List Nat):=(true,[([],[]),([],[]),([],[]),([],[]),([3],[3]),([],[]),([4,5],[4,5]),([6],[6]),([7],[7]),([0,1,2,8],[0,1,2,8]),([9],[9]),([10],[10]),([10],[10]),([],[]),([13,11,9,0,1,2,3,4,5,6,7,8,9,10,11,13],[11,13]),([12,14,0,1,2,3,4,5,6,7,8,9,10,11,12,13,14],[12])])
def laws_FnHideContext.B8 : List Nat:=[0,0,0,0,8,0,56,120,248,511,1023,2047,2047,0,12287,32767]
theorem laws_FnHideContext.tab8 : rtab .any (opsOf Try.f5 8) = laws_FnHideContext.T8:=by kernel_rfl
theorem laws_FnHideContext.bits8 : waitsOk laws_FnHideContext.T8.2 laws_FnHideContext.B8 = true:=by kernel_rfl
set_option maxHeartbeats 8000000 in
set_option maxRecDepth 100000 in
theorem laws_FnHideContext.calls (k : Nat) (A0 : Option Addr) (c0 : Nat) (l0 : List Int) (r : Bool) (w : World) (hr0 : Kd.C (Kd.int .u8) w A0 l0.length l0) (hc0 : l0.length ≤ c0) (h : laws_FnHideContext.f k l0 = some r) (hrt : r = true) :
  Calls Try.prog 5 #[.slice A0 l0.length c0] w fun e w'=>e = .returned (.bool r) ∧ Below w.heap.size w w':=by
 have hu25:=Try.underlying25
 have hu28:=Try.underlying28
 have hu43:=Try.underlying43
 have HR0:=a0_ hr0
 have HC0:=a0_ hc0
 clear hr0 hc0
 have HB:=a0_ (Below.refl w.heap.size w)
 have H : (if (l0.length : Int) > 1048576 then (some true) else ((spec_DrawHideContext.f k l0).bind fun bt1=>((impl_HideContext.f bt1.1 bt1.2.1 bt1.2.2.1 bt1.2.2.2).bind fun bt11=>((spec_HideContext.f k bt1.1 bt1.2.1 bt1.2.2.1 bt1.2.2.2).bind fun bt16=>((laws_equalHeap.f k bt11.1 bt16.1).bind fun t21=>(if t21 = true then (if (bt11.2 != bt16.2) = true then (laws_FnHideContext.j0 k bt1.2.2.1 bt1.2.2.2 bt11.2 bt16.2 true bt1.1 bt1.2.1 bt11.1 bt16.1) else (laws_FnHideContext.j0 k bt1.2.2.1 bt1.2.2.2 bt11.2 bt16.2 (!bt11.2) bt1.1 bt1.2.1 bt11.1 bt16.1)) else (laws_FnHideContext.j0 k bt1.2.2.1 bt1.2.2.2 bt11.2 bt16.2 true bt1.1 bt1.2.1 bt11.1 bt16.1))))))) = some r:=h
 clear h
 by_cases c2 : (l0.length : Int) > 1048576
 ·rw [if_pos c2] at H
  have c2b0 : decide (1048576 < (l0.length : Int)) = true:=decide_eq_true c2
  have c2b1 : decide (1048576 < l0.length) = true:=decide_eq_true (by omega)
  clear c2
  obtain rfl:=Option.some.inj H
  go_enter Try.func5,Try.ntmps5
  go_wp2
  go_ret
  exact ⟨by first | rfl | (simp [errW_none,errW_some] <;> rfl) | (simp [*,errW_none,errW_some] <;> rfl),hb_⟩
 ·rw [if_neg c2] at H
  have c2b0 : decide (1048576 < (l0.length : Int)) = false:=decide_eq_false c2
  have c2b1 : decide (1048576 < l0.length) = false:=decide_eq_false (by omega)
  clear c2
  replace H:=Option.bind_eq_some_iff.mp H
  obtain ⟨⟨t1,t4,t7,t8⟩,A30,H⟩:=H
  try dsimp only at H
  have A3:=a0_ A30
  clear A30
  replace H:=Option.bind_eq_some_iff.mp H
  obtain ⟨⟨t11,t14⟩,A40,H⟩:=H
  try dsimp only at H
  have A4:=a0_ A40
  clear A40
  replace H:=Option.bind_eq_some_iff.mp H
  obtain ⟨⟨t16,t19⟩,A50,H⟩:=H
  try dsimp only at H
  have A5:=a0_ A50
  clear A50
  have HC6:=a0_ H
  clear H
  go_enter Try.func5,Try.ntmps5
  go_upto_region 6 with (first | ((with_reducible refine gate_callee (f:=20) rfl ?_);refine goesL_ (some 20) rfl rfl Try.func20 (by kernel_rfl) rfl #[.slice A0 l0.length c0] rfl lm_ ?_;(with_reducible refine (spec_DrawHideContext.calls k _ _ l0 t1 t4 t7 t8 _ ?side1 ?side2 A3.out).mono ?_);(case side1=>repeat (first | exact HR0.out | (with_reducible refine Kd.C_alloc ?_ _) | (with_reducible refine Kd.C_drewN ?_ _) | (with_reducible refine Kd.C_drew ?_)));(case side2=>exact HC0.out);rintro e w7 ⟨v2,v5,rfl,ho0,ho1,hb⟩;refine ⟨_,rfl,?_⟩;have HO3:=a0_ (Kd.R_lower ho0 (below_size hb_));have HO6:=a0_ (Kd.R_lower ho1 (below_size hb_));replace HB:=a0_ (below_step hb_ hb);(try clear hb);(try clear ho0);(try clear ho1)) | ((with_reducible refine gate_dst (N:=3) rfl ?_);refine box_event ?hg (N:=3) ?hd (cs:=#[.slice none 0 0]) (t:=25) ?hr ?_;(case hd=>rfl);(case hg=>rfl);(case hr=>first | (go_simp;done) | (go_simp;rfl));intro gb9 hg w8 hbox hb;replace HO3:=rb_ HO3 hb;replace HO6:=rb_ HO6 hb;have BK9:=a0_ (hbox);have GW9:=a0_ ((by rw [hg];exact (below_size hb_) : w.heap.size ≤ gb9));have GE9:=a0_ ((by rw [hg];exact (below_size hb_) : w.heap.size ≤ gb9));replace HB:=a0_ (below_step hb_ hb);clear hb hbox hg) | ((with_reducible refine gate_dst (N:=4) rfl ?_);refine box_event ?hg (N:=4) ?hd (cs:=#[.slice none 0 0]) (t:=28) ?hr ?_;(case hd=>rfl);(case hg=>rfl);(case hr=>first | (go_simp;done) | (go_simp;rfl));intro gb10 hg w9 hbox hb;have n0_:=rb_ HO3 hb;have n1_:=rb_ HO6 hb;have n2_:=kb_ BK9 hb;have n3_:=a0_ (below_step hb_ hb);have n4_:=a0_ (hbox);have n5_:=a0_ ((by rw [hg];exact (below_size hb_) : w.heap.size ≤ gb10));have n6_:=a0_ ((by rw [hg];exact (below_size hb_) : w.heap.size ≤ gb10));have n7_:=a0_ ((by rw [hg];exact Nat.ne_of_lt (blk_lt (bb_ BK9.out)) : gb9 ≠ gb10));have n8_:=a0_ ((by rw [hg];exact Nat.ne_of_gt (blk_lt (bb_ BK9.out)) : gb10 ≠ gb9));clear HO3 HO6;clear BK9 HB;have HO3:=n0_;have HO6:=n1_;have BK9:=n2_;have HB:=n3_;have BK10:=n4_;have GW10:=n5_;have GE10:=n6_;have NB9_10:=n7_;have NB10_9:=n8_;clear n0_ n1_ n2_ n3_ n4_ n5_ n6_ n7_ n8_;clear hb hbox hg;obtain ⟨Ao10,co10,eo10⟩:=Kd.R_slice HO3.out;subst eo10;have hnb11:=NB9_10.out;have hnc11:=NB10_9.out;have hcz12_0 : w9.cell? ⟨gb9,0,none⟩ = some (.slice none 0 0):=(blk_cell BK9.out 0).trans rfl;have hfz12_0:=blk_frozen BK9.out 0;obtain ⟨Ao13,co13,eo13⟩:=Kd.R_slice HO6.out;subst eo13;have hcz14_0 : w9.cell? ⟨gb10,0,none⟩ = some (.slice none 0 0):=(blk_cell BK10.out 0).trans rfl;have hfz14_0:=blk_frozen BK10.out 0) | ((with_reducible refine gate_callee (f:=21) rfl ?_);refine goesL_ (some 30) rfl rfl Try.func21 (by kernel_rfl) rfl #[.agg #[.slice Ao10 t1.length co10],.agg #[.slice Ao13 t4.length co13],.int .i64 t7,.bool t8] rfl lm_ ?_;(with_reducible refine (impl_HideContext.calls _ _ t1 _ _ t4 t7 t8 t11 t14 _ ?side1 ?side2 ?side3 ?side4 A4.out).mono ?_);(case side1=>refine (Kd.R_reads' (e:=87) (base:=w.heap.size) (ok:=fun k_=>True) (n:=t1.length) (c:=co10) ?_).2.2;exact (by (with_reducible repeat (first | apply Kd.R_alloc | apply Kd.R_drewN | apply Kd.R_drew));exact (Kd.R_mono (Kd.R_mono (Kd.R_far (p:=⟨gb10,0,none⟩) (Kd.R_far (p:=⟨gb9,0,none⟩) (Kd.R_types (Kd.R_types HO3.out BK9.out (by decide)) BK10.out (by decide)) (fun _ hk=>hk.1.2) (.slice Ao10 t1.length co10)) (fun _ hk=>hk.2) (.slice Ao13 t4.length co13)) (fun _ h_=>h_.1)) (fun _ h_=>h_.1))));(case side2=>exact (Kd.R_reads' HO3.out).2.1);(case side3=>refine (Kd.R_reads' (e:=43) (base:=w.heap.size) (ok:=fun k_=>True) (n:=t4.length) (c:=co13) ?_).2.2;exact (by (with_reducible repeat (first | apply Kd.R_alloc | apply Kd.R_drewN | apply Kd.R_drew));exact (Kd.R_mono (Kd.R_mono (Kd.R_far (p:=⟨gb10,0,none⟩) (Kd.R_far (p:=⟨gb9,0,none⟩) (Kd.R_types (Kd.R_types HO6.out BK9.out (by decide)) BK10.out (by decide)) (fun _ hk=>hk.1.2) (.slice Ao10 t1.length co10)) (fun _ hk=>hk.2) (.slice Ao13 t4.length co13)) (fun _ h_=>h_.1)) (fun _ h_=>h_.1))));(case side4=>exact (Kd.R_reads' HO6.out).2.1);rintro e w15 ⟨v12,rfl,ho0,hb⟩;refine ⟨_,rfl,?_⟩;have n0_:=a0_ (Kd.R_below (by (with_reducible repeat (first | apply Kd.R_alloc | apply Kd.R_drewN | apply Kd.R_drew));exact (Kd.R_mono (Kd.R_mono (Kd.R_far (p:=⟨gb10,0,none⟩) (Kd.R_far (p:=⟨gb9,0,none⟩) (Kd.R_types (Kd.R_types HO3.out BK9.out (by decide)) BK10.out (by decide)) (fun _ hk=>hk.1.2) (.slice Ao10 t1.length co10)) (fun _ hk=>hk.2) (.slice Ao13 t4.length co13)) (fun _ h_=>h_.1)) (fun _ h_=>h_.1))) hb);have n1_:=a0_ (Kd.R_elder' (by (with_reducible repeat (first | apply Kd.R_alloc | apply Kd.R_drewN | apply Kd.R_drew));exact (Kd.R_mono (Kd.R_mono (Kd.R_far (p:=⟨gb10,0,none⟩) (Kd.R_far (p:=⟨gb9,0,none⟩) (Kd.R_types (Kd.R_types HO6.out BK9.out (by decide)) BK10.out (by decide)) (fun _ hk=>hk.1.2) (.slice Ao10 t1.length co10)) (fun _ hk=>hk.2) (.slice Ao13 t4.length co13)) (fun _ h_=>h_.1)) (fun _ h_=>h_.1))) (Kd.R_base ho0) hb);have n2_:=a0_ (Kd.R_lower (Kd.R_new' ho0 (Kd.R_lt (by (with_reducible repeat (first | apply Kd.R_alloc | apply Kd.R_drewN | apply Kd.R_drew));exact (Kd.R_mono (Kd.R_mono (Kd.R_far (p:=⟨gb10,0,none⟩) (Kd.R_far (p:=⟨gb9,0,none⟩) (Kd.R_types (Kd.R_types HO6.out BK9.out (by decide)) BK10.out (by decide)) (fun _ hk=>hk.1.2) (.slice Ao10 t1.length co10)) (fun _ hk=>hk.2) (.slice Ao13 t4.length co13)) (fun _ h_=>h_.1)) (fun _ h_=>h_.1))))) (below_size hb_));have n3_:=a0_ (blk_below (g:=gb9) (o:=.cells #[.slice Ao10 t1.length co10] 25 (0,0)) (by (with_reducible repeat (first | refine blk_drewN ?_ _ | refine blk_drew ?_ | refine blk_alloc ?_ _));refine blk_far ?_ NB9_10.out _;(with_reducible repeat (first | refine blk_drewN ?_ _ | refine blk_drew ?_ | refine blk_alloc ?_ _));refine blk_put (cs:=#[.slice none 0 0]) ?_ 0 _ rfl;(with_reducible repeat (first | refine blk_drewN ?_ _ | refine blk_drew ?_ | refine blk_alloc ?_ _));exact BK9.out) hb);have n4_:=a0_ (blk_below (g:=gb10) (o:=.cells #[.slice Ao13 t4.length co13] 28 (0,0)) (by (with_reducible repeat (first | refine blk_drewN ?_ _ | refine blk_drew ?_ | refine blk_alloc ?_ _));refine blk_put (cs:=#[.slice none 0 0]) ?_ 0 _ rfl;(with_reducible repeat (first | refine blk_drewN ?_ _ | refine blk_drew ?_ | refine blk_alloc ?_ _));refine blk_far ?_ NB10_9.out _;(with_reducible repeat (first | refine blk_drewN ?_ _ | refine blk_drew ?_ | refine blk_alloc ?_ _));exact BK10.out) hb);have n5_:=a0_ (below_step hb_ hb);clear HO3 HO6;clear BK9 BK10 HB;have HO3:=n0_;have HO6:=n1_;have HO13:=n2_;have BK9:=n3_;have BK10:=n4_;have HB:=n5_;clear n0_ n1_ n2_ n3_ n4_ n5_;(try clear hb);(try clear ho0)) | ((with_reducible refine gate_dst (N:=7) rfl ?_);refine box_event ?hg (N:=7) ?hd (cs:=#[.slice none 0 0]) (t:=28) ?hr ?_;(case hd=>rfl);(case hg=>rfl);(case hr=>first | (go_simp;done) | (go_simp;rfl));intro gb15 hg w16 hbox hb;have n0_:=rb_ HO3 hb;have n1_:=rb_ HO6 hb;have n2_:=rb_ HO13 hb;have n3_:=kb_ BK9 hb;have n4_:=kb_ BK10 hb;have n5_:=a0_ (below_step hb_ hb);have n6_:=a0_ (hbox);have n7_:=a0_ ((by rw [hg];exact (below_size hb_) : w.heap.size ≤ gb15));have n8_:=a0_ ((by rw [hg];exact (below_size hb_) : w.heap.size ≤ gb15));have n9_:=a0_ ((by rw [hg];exact Nat.ne_of_lt (blk_lt (bb_ BK9.out)) : gb9 ≠ gb15));have n10_:=a0_ ((by rw [hg];exact Nat.ne_of_gt (blk_lt (bb_ BK9.out)) : gb15 ≠ gb9));have n11_:=a0_ ((by rw [hg];exact Nat.ne_of_lt (blk_lt (bb_ BK10.out)) : gb10 ≠ gb15));have n12_:=a0_ ((by rw [hg];exact Nat.ne_of_gt (blk_lt (bb_ BK10.out)) : gb15 ≠ gb10));clear HO3 HO6;clear HO13 BK9;clear BK10 HB;have HO3:=n0_;have HO6:=n1_;have HO13:=n2_;have BK9:=n3_;have BK10:=n4_;have HB:=n5_;have BK15:=n6_;have GW15:=n7_;have GE15:=n8_;have NB9_15:=n9_;have NB15_9:=n10_;have NB10_15:=n11_;have NB15_10:=n12_;clear n0_ n1_ n2_ n3_ n4_ n5_ n6_ n7_ n8_ n9_ n10_ n11_ n12_;clear hb hbox hg;obtain ⟨Ao17,co17,eo17⟩:=Kd.R_slice HO13.out;subst eo17;have hnb18:=NB15_9.out;have hnc18:=NB9_15.out;have hnb19:=NB15_10.out;have hnc19:=NB10_15.out;have hcz20_0 : w16.cell? ⟨gb15,0,none⟩ = some (.slice none 0 0):=(blk_cell BK15.out 0).trans rfl;have hfz20_0:=blk_frozen BK15.out 0;have hcz21_0 : w16.cell? ⟨gb9,0,none⟩ = some (.slice Ao10 t1.length co10):=(blk_cell BK9.out 0).trans rfl;have hfz21_0:=blk_frozen BK9.out 0;have hcz22_0 : w16.cell? ⟨gb10,0,none⟩ = some (.slice Ao13 t4.length co13):=(blk_cell BK10.out 0).trans rfl;have hfz22_0:=blk_frozen BK10.out 0) | ((with_reducible refine gate_callee (f:=22) rfl ?_);refine goesL_ (some 38) rfl rfl Try.func22 (by kernel_rfl) rfl #[.agg #[.slice Ao10 t1.length co10],.agg #[.slice Ao13 t4.length co13],.int .i64 t7,.bool t8] rfl lm_ ?_;(with_reducible refine (spec_HideContext.calls k _ _ t1 _ _ t4 t7 t8 t16 t19 _ ?side1 ?side2 ?side3 ?side4 A5.out).mono ?_);(case side1=>refine (Kd.R_reads' (e:=87) (base:=w.heap.size) (ok:=fun k_=>True) (n:=t1.length) (c:=co10) ?_).2.2;exact (by (with_reducible repeat (first | apply Kd.R_alloc | apply Kd.R_drewN | apply Kd.R_drew));exact (Kd.R_mono (Kd.R_far (p:=⟨gb15,0,none⟩) (Kd.R_types HO3.out BK15.out (by decide)) (fun _ hk=>hk.2) (.slice Ao17 t11.length co17)) (fun _ h_=>h_.1))));(case side2=>exact (Kd.R_reads' HO3.out).2.1);(case side3=>refine (Kd.R_reads' (e:=43) (base:=w.heap.size) (ok:=fun k_=>(True ∧ some k_ ≠ (.slice Ao17 t11.length co17 : Value).ownBlock)) (n:=t4.length) (c:=co13) ?_).2.2;exact (by (with_reducible repeat (first | apply Kd.R_alloc | apply Kd.R_drewN | apply Kd.R_drew));exact (Kd.R_mono (Kd.R_far (p:=⟨gb15,0,none⟩) (Kd.R_types HO6.out BK15.out (by decide)) (fun _ hk=>hk.2) (.slice Ao17 t11.length co17)) (fun _ h_=>h_.1))));(case side4=>exact (Kd.R_reads' HO6.out).2.1);rintro e w23 ⟨v17,rfl,ho0,hb⟩;refine ⟨_,rfl,?_⟩;have n0_:=a0_ (Kd.R_below (by (with_reducible repeat (first | apply Kd.R_alloc | apply Kd.R_drewN | apply Kd.R_drew));exact (Kd.R_mono (Kd.R_far (p:=⟨gb15,0,none⟩) (Kd.R_types HO3.out BK15.out (by decide)) (fun _ hk=>hk.2) (.slice Ao17 t11.length co17)) (fun _ h_=>h_.1))) hb);have n1_:=a0_ (Kd.R_elder' (by (with_reducible repeat (first | apply Kd.R_alloc | apply Kd.R_drewN | apply Kd.R_drew));exact (Kd.R_mono (Kd.R_far (p:=⟨gb15,0,none⟩) (Kd.R_types HO6.out BK15.out (by decide)) (fun _ hk=>hk.2) (.slice Ao17 t11.length co17)) (fun _ h_=>h_.1))) (Kd.R_base ho0) hb);have n2_:=a0_ (Kd.R_elder' (by (with_reducible repeat (first | apply Kd.R_alloc | apply Kd.R_drewN | apply Kd.R_drew));exact (Kd.R_mono (Kd.R_far (p:=⟨gb15,0,none⟩) (Kd.R_types HO13.out BK15.out (by decide)) (fun _ hk=>hk.2) (.slice Ao17 t11.length co17)) (fun _ h_=>h_.1))) (Kd.R_base ho0) hb);have n3_:=a0_ (Kd.R_lower (Kd.R_new' (Kd.R_new' ho0 (Kd.R_lt (by (with_reducible repeat (first | apply Kd.R_alloc | apply Kd.R_drewN | apply Kd.R_drew));exact (Kd.R_mono (Kd.R_far (p:=⟨gb15,0,none⟩) (Kd.R_types HO6.out BK15.out (by decide)) (fun _ hk=>hk.2) (.slice Ao17 t11.length co17)) (fun _ h_=>h_.1))))) (Kd.R_lt (by (with_reducible repeat (first | apply Kd.R_alloc | apply Kd.R_drewN | apply Kd.R_drew));exact (Kd.R_mono (Kd.R_far (p:=⟨gb15,0,none⟩) (Kd.R_types HO13.out BK15.out (by decide)) (fun _ hk=>hk.2) (.slice Ao17 t11.length co17)) (fun _ h_=>h_.1))))) (below_size hb_));have n4_:=kf_ BK9 NB9_15 hb;have n5_:=kf_ BK10 NB10_15 hb;have n6_:=a0_ (blk_below (g:=gb15) (o:=.cells #[.slice Ao17 t11.length co17] 28 (0,0)) (by (with_reducible repeat (first | refine blk_drewN ?_ _ | refine blk_drew ?_ | refine blk_alloc ?_ _));refine blk_put (cs:=#[.slice none 0 0]) ?_ 0 _ rfl;(with_reducible repeat (first | refine blk_drewN ?_ _ | refine blk_drew ?_ | refine blk_alloc ?_ _));exact BK15.out) hb);have n7_:=a0_ (below_step hb_ hb);clear HO3 HO6;clear HO13 BK9;clear BK10 BK15 HB;have HO3:=n0_;have HO6:=n1_;have HO13:=n2_;have HO18:=n3_;have BK9:=n4_;have BK10:=n5_;have BK15:=n6_;have HB:=n7_;clear n0_ n1_ n2_ n3_ n4_ n5_ n6_ n7_;(try clear hb);(try clear ho0)) | ((with_reducible refine gate_dst (N:=9) rfl ?_);refine box_event ?hg (N:=9) ?hd (cs:=#[.slice none 0 0]) (t:=28) ?hr ?_;(case hd=>rfl);(case hg=>rfl);(case hr=>first | (go_simp;done) | (go_simp;rfl));intro gb20 hg w24 hbox hb;have n0_:=rb_ HO3 hb;have n1_:=rb_ HO6 hb;have n2_:=rb_ HO13 hb;have n3_:=rb_ HO18 hb;have n4_:=kb_ BK9 hb;have n5_:=kb_ BK10 hb;have n6_:=kb_ BK15 hb;have n7_:=a0_ (below_step hb_ hb);have n8_:=a0_ (hbox);have n9_:=a0_ ((by rw [hg];exact (below_size hb_) : w.heap.size ≤ gb20));have n10_:=a0_ ((by rw [hg];exact (below_size hb_) : w.heap.size ≤ gb20));have n11_:=a0_ ((by rw [hg];exact Nat.ne_of_lt (blk_lt (bb_ BK9.out)) : gb9 ≠ gb20));have n12_:=a0_ ((by rw [hg];exact Nat.ne_of_gt (blk_lt (bb_ BK9.out)) : gb20 ≠ gb9));have n13_:=a0_ ((by rw [hg];exact Nat.ne_of_lt (blk_lt (bb_ BK10.out)) : gb10 ≠ gb20));have n14_:=a0_ ((by rw [hg];exact Nat.ne_of_gt (blk_lt (bb_ BK10.out)) : gb20 ≠ gb10));have n15_:=a0_ ((by rw [hg];exact Nat.ne_of_lt (blk_lt (bb_ BK15.out)) : gb15 ≠ gb20));have n16_:=a0_ ((by rw [hg];exact Nat.ne_of_gt (blk_lt (bb_ BK15.out)) : gb20 ≠ gb15));clear HO3 HO6;clear HO13 HO18;clear BK9 BK10;clear BK15 HB;have HO3:=n0_;have HO6:=n1_;have HO13:=n2_;have HO18:=n3_;have BK9:=n4_;have BK10:=n5_;have BK15:=n6_;have HB:=n7_;have BK20:=n8_;have GW20:=n9_;have GE20:=n10_;have NB9_20:=n11_;have NB20_9:=n12_;have NB10_20:=n13_;have NB20_10:=n14_;have NB15_20:=n15_;have NB20_15:=n16_;clear n0_ n1_ n2_ n3_ n4_ n5_ n6_ n7_ n8_ n9_ n10_ n11_ n12_ n13_ n14_ n15_ n16_;clear hb hbox hg;obtain ⟨Ao25,co25,eo25⟩:=Kd.R_slice HO18.out;subst eo25;have hnb26:=NB20_9.out;have hnc26:=NB9_20.out;have hnb27:=NB20_10.out;have hnc27:=NB10_20.out;have hnb28:=NB20_15.out;have hnc28:=NB15_20.out;have hcz29_0 : w24.cell? ⟨gb20,0,none⟩ = some (.slice none 0 0):=(blk_cell BK20.out 0).trans rfl;have hfz29_0:=blk_frozen BK20.out 0))
  (try simp only [Act.put,s1_,s2_,s3_])
  go_cut [53] (fun v53 wc=>∃ (kq : Nat) (x53_5 : Bool),v53 = .bool x53_5 ∧ Aside0 (laws_FnHideContext.j0 kq t7 t8 t14 t19 x53_5 t1 t4 t11 t16 = some r) ∧ Aside0 (kq ≤ k) ∧ Aside0 (Kd.R k87 87 wc w.heap.size (fun _=>True) (.slice Ao10 t1.length co10) t1) ∧ Aside0 (Kd.R k43 43 wc w.heap.size (fun k_=>some k_ ≠ ((.slice Ao17 t11.length co17) : Value).ownBlock ∧ some k_ ≠ ((.slice Ao25 t16.length co25) : Value).ownBlock) (.slice Ao13 t4.length co13) t4) ∧ Aside0 (Kd.R k43 43 wc w.heap.size (fun k_=>some k_ ≠ ((.slice Ao13 t4.length co13) : Value).ownBlock ∧ some k_ ≠ ((.slice Ao25 t16.length co25) : Value).ownBlock) (.slice Ao17 t11.length co17) t11) ∧ Aside0 (Kd.R k43 43 wc w.heap.size (fun k_=>some k_ ≠ ((.slice Ao13 t4.length co13) : Value).ownBlock ∧ some k_ ≠ ((.slice Ao17 t11.length co17) : Value).ownBlock) (.slice Ao25 t16.length co25) t16) ∧ Aside0 (wc.heap[gb9]? = some (.cells #[(.slice Ao10 t1.length co10)] 25 (0,0))) ∧ Aside0 (wc.heap[gb10]? = some (.cells #[(.slice Ao13 t4.length co13)] 28 (0,0))) ∧ Aside0 (wc.heap[gb15]? = some (.cells #[(.slice Ao17 t11.length co17)] 28 (0,0))) ∧ Aside0 (wc.heap[gb20]? = some (.cells #[(.slice Ao25 t16.length co25)] 28 (0,0))) ∧ Aside0 (Below w.heap.size w wc))
  case first =>
   have H:=HC6.out
   clear HC6
   replace H:=Option.bind_eq_some_iff.mp H
   obtain ⟨t21,A300,H⟩:=H
   try dsimp only at H
   have A30:=a0_ A300
   clear A300
   by_cases c31 : t21 = true
   ·subst c31
    have H1 : (if (t14 != t19) = true then (laws_FnHideContext.j0 k t7 t8 t14 t19 true t1 t4 t11 t16) else (laws_FnHideContext.j0 k t7 t8 t14 t19 (!t14) t1 t4 t11 t16)) = some r:=by rw [if_pos rfl] at H;exact H
    clear H
    have H:=H1
    clear H1
    by_cases c32 : (t14 != t19) = true
    ·rw [if_pos c32] at H
     have c32b0 : (t14 != t19) = true:=c32
     (try (have c32b1 : decide (t14 = t19) = false:=by simpa using c32))
     (try (have c32b2 : (t14 == t19) = false:=by simpa using c32))
     (try (have c32b3 : ¬ (t14 = t19):=by simpa using c32))
     clear c32
     (first | rw [c32b0] | (simp only [i64_w,i32_w];rw [c32b0]) | skip)
     have H':=a0_ H
     clear H
     have hnb33:=NB15_9.out
     have hnc33:=NB9_15.out
     have hnb34:=NB15_10.out
     have hnc34:=NB10_15.out
     have hnb35:=NB15_20.out
     have hnc35:=NB20_15.out
     have hcz36_0 : w24.cell? ⟨gb15,0,none⟩ = some (.slice Ao17 t11.length co17):=(blk_cell BK15.out 0).trans rfl
     have hfz36_0:=blk_frozen BK15.out 0
     have hnb37:=NB20_9.out
     have hnc37:=NB9_20.out
     have hnb38:=NB20_10.out
     have hnc38:=NB10_20.out
     have hcz39_0 : w24.cell? ⟨gb20,0,none⟩ = some (.slice none 0 0):=(blk_cell BK20.out 0).trans rfl
     have hfz39_0:=blk_frozen BK20.out 0
     go_wp2_with (first | ((with_reducible refine gate_callee (f:=19) rfl ?_);refine goesL_ (some 43) rfl rfl Try.func19 (by kernel_rfl) rfl #[.agg #[.slice Ao17 t11.length co17],.agg #[.slice Ao25 t16.length co25]] rfl lm_ ?_;(with_reducible refine (laws_equalHeap.calls k _ _ t11 _ _ t16 true _ ?side1 ?side2 ?side3 ?side4 A30.out).mono ?_);(case side1=>refine (Kd.R_reads' (e:=43) (base:=w.heap.size) (ok:=fun k_=>((True ∧ some k_ ≠ (.slice Ao13 t4.length co13 : Value).ownBlock) ∧ some k_ ≠ (.slice Ao25 t16.length co25 : Value).ownBlock)) (n:=t11.length) (c:=co17) ?_).2.2;exact (by (with_reducible repeat (first | apply Kd.R_alloc | apply Kd.R_drewN | apply Kd.R_drew));exact (Kd.R_mono (Kd.R_far (p:=⟨gb20,0,none⟩) (Kd.R_types HO13.out BK20.out (by decide)) (fun _ hk=>hk.2) (.slice Ao25 t16.length co25)) (fun _ h_=>h_.1))));(case side2=>exact (Kd.R_reads' HO13.out).2.1);(case side3=>refine (Kd.R_reads' (e:=43) (base:=w.heap.size) (ok:=fun k_=>((True ∧ some k_ ≠ (.slice Ao13 t4.length co13 : Value).ownBlock) ∧ some k_ ≠ (.slice Ao17 t11.length co17 : Value).ownBlock)) (n:=t16.length) (c:=co25) ?_).2.2;exact (by (with_reducible repeat (first | apply Kd.R_alloc | apply Kd.R_drewN | apply Kd.R_drew));exact (Kd.R_mono (Kd.R_far (p:=⟨gb20,0,none⟩) (Kd.R_types HO18.out BK20.out (by decide)) (fun _ hk=>hk.2) (.slice Ao25 t16.length co25)) (fun _ h_=>h_.1))));(case side4=>exact (Kd.R_reads' HO18.out).2.1);rintro e w40 ⟨rfl,hb⟩;refine ⟨_,rfl,?_⟩;replace HO3:=a0_ (Kd.R_below (by (with_reducible repeat (first | apply Kd.R_alloc | apply Kd.R_drewN | apply Kd.R_drew));exact (Kd.R_mono (Kd.R_far (p:=⟨gb20,0,none⟩) (Kd.R_types HO3.out BK20.out (by decide)) (fun _ hk=>hk.2) (.slice Ao25 t16.length co25)) (fun _ h_=>h_.1))) hb);replace HO6:=a0_ (Kd.R_below (by (with_reducible repeat (first | apply Kd.R_alloc | apply Kd.R_drewN | apply Kd.R_drew));exact (Kd.R_mono (Kd.R_far (p:=⟨gb20,0,none⟩) (Kd.R_types HO6.out BK20.out (by decide)) (fun _ hk=>hk.2) (.slice Ao25 t16.length co25)) (fun _ h_=>h_.1))) hb);replace HO13:=a0_ (Kd.R_below (by (with_reducible repeat (first | apply Kd.R_alloc | apply Kd.R_drewN | apply Kd.R_drew));exact (Kd.R_mono (Kd.R_far (p:=⟨gb20,0,none⟩) (Kd.R_types HO13.out BK20.out (by decide)) (fun _ hk=>hk.2) (.slice Ao25 t16.length co25)) (fun _ h_=>h_.1))) hb);replace HO18:=a0_ (Kd.R_below (by (with_reducible repeat (first | apply Kd.R_alloc | apply Kd.R_drewN | apply Kd.R_drew));exact (Kd.R_mono (Kd.R_far (p:=⟨gb20,0,none⟩) (Kd.R_types HO18.out BK20.out (by decide)) (fun _ hk=>hk.2) (.slice Ao25 t16.length co25)) (fun _ h_=>h_.1))) hb);replace BK9:=kf_ BK9 NB9_20 hb;replace BK10:=kf_ BK10 NB10_20 hb;replace BK15:=kf_ BK15 NB15_20 hb;replace BK20:=a0_ (blk_below (g:=gb20) (o:=.cells #[.slice Ao25 t16.length co25] 28 (0,0)) (by (with_reducible repeat (first | refine blk_drewN ?_ _ | refine blk_drew ?_ | refine blk_alloc ?_ _));refine blk_put (cs:=#[.slice none 0 0]) ?_ 0 _ rfl;(with_reducible repeat (first | refine blk_drewN ?_ _ | refine blk_drew ?_ | refine blk_alloc ?_ _));exact BK20.out) hb);replace HB:=a0_ (below_step hb_ hb);(try clear hb);(try clear hb2);(try clear hk);(try clear hi)))
     go_meet
     case rel=>exact ⟨_,(true),(by first | rfl | (simp;done) | (simp [*];done)),H',⟨by first | omega | exact Nat.le_refl _⟩,⟨by (with_reducible repeat (first | apply Kd.R_alloc | apply Kd.R_drewN | apply Kd.R_drew));exact HO3.out⟩,⟨by (with_reducible repeat (first | apply Kd.R_alloc | apply Kd.R_drewN | apply Kd.R_drew));exact Kd.R_mono HO6.out (fun _ hk=>⟨hk.1.2,hk.2⟩)⟩,⟨by (with_reducible repeat (first | apply Kd.R_alloc | apply Kd.R_drewN | apply Kd.R_drew));exact Kd.R_mono HO13.out (fun _ hk=>⟨hk.1.2,hk.2⟩)⟩,⟨by (with_reducible repeat (first | apply Kd.R_alloc | apply Kd.R_drewN | apply Kd.R_drew));exact Kd.R_mono HO18.out (fun _ hk=>⟨hk.1.2,hk.2⟩)⟩,⟨by (with_reducible repeat (first | refine blk_drewN ?_ _ | refine blk_drew ?_ | refine blk_alloc ?_ _));exact BK9.out⟩,⟨by (with_reducible repeat (first | refine blk_drewN ?_ _ | refine blk_drew ?_ | refine blk_alloc ?_ _));exact BK10.out⟩,⟨by (with_reducible repeat (first | refine blk_drewN ?_ _ | refine blk_drew ?_ | refine blk_alloc ?_ _));exact BK15.out⟩,⟨by (with_reducible repeat (first | refine blk_drewN ?_ _ | refine blk_drew ?_ | refine blk_alloc ?_ _));exact BK20.out⟩,⟨hb_⟩⟩
    ·rw [if_neg c32] at H
     have c32b0 : (t14 != t19) = false:=by simpa using c32
     (try (have c32b1 : decide (t14 = t19) = true:=by simpa using c32))
     (try (have c32b2 : (t14 == t19) = true:=by simpa using c32))
     clear c32
     (first | rw [c32b0] | (simp only [i64_w,i32_w];rw [c32b0]) | skip)
     have H':=a0_ H
     clear H
     have hnb41:=NB15_9.out
     have hnc41:=NB9_15.out
     have hnb42:=NB15_10.out
     have hnc42:=NB10_15.out
     have hnb43:=NB15_20.out
     have hnc43:=NB20_15.out
     have hcz44_0 : w24.cell? ⟨gb15,0,none⟩ = some (.slice Ao17 t11.length co17):=(blk_cell BK15.out 0).trans rfl
     have hfz44_0:=blk_frozen BK15.out 0
     have hnb45:=NB20_9.out
     have hnc45:=NB9_20.out
     have hnb46:=NB20_10.out
     have hnc46:=NB10_20.out
     have hcz47_0 : w24.cell? ⟨gb20,0,none⟩ = some (.slice none 0 0):=(blk_cell BK20.out 0).trans rfl
     have hfz47_0:=blk_frozen BK20.out 0
     go_wp2_with (first | ((with_reducible refine gate_callee (f:=19) rfl ?_);refine goesL_ (some 43) rfl rfl Try.func19 (by kernel_rfl) rfl #[.agg #[.slice Ao17 t11.length co17],.agg #[.slice Ao25 t16.length co25]] rfl lm_ ?_;(with_reducible refine (laws_equalHeap.calls k _ _ t11 _ _ t16 true _ ?side1 ?side2 ?side3 ?side4 A30.out).mono ?_);(case side1=>refine (Kd.R_reads' (e:=43) (base:=w.heap.size) (ok:=fun k_=>((True ∧ some k_ ≠ (.slice Ao13 t4.length co13 : Value).ownBlock) ∧ some k_ ≠ (.slice Ao25 t16.length co25 : Value).ownBlock)) (n:=t11.length) (c:=co17) ?_).2.2;exact (by (with_reducible repeat (first | apply Kd.R_alloc | apply Kd.R_drewN | apply Kd.R_drew));exact (Kd.R_mono (Kd.R_far (p:=⟨gb20,0,none⟩) (Kd.R_types HO13.out BK20.out (by decide)) (fun _ hk=>hk.2) (.slice Ao25 t16.length co25)) (fun _ h_=>h_.1))));(case side2=>exact (Kd.R_reads' HO13.out).2.1);(case side3=>refine (Kd.R_reads' (e:=43) (base:=w.heap.size) (ok:=fun k_=>((True ∧ some k_ ≠ (.slice Ao13 t4.length co13 : Value).ownBlock) ∧ some k_ ≠ (.slice Ao17 t11.length co17 : Value).ownBlock)) (n:=t16.length) (c:=co25) ?_).2.2;exact (by (with_reducible repeat (first | apply Kd.R_alloc | apply Kd.R_drewN | apply Kd.R_drew));exact (Kd.R_mono (Kd.R_far (p:=⟨gb20,0,none⟩) (Kd.R_types HO18.out BK20.out (by decide)) (fun _ hk=>hk.2) (.slice Ao25 t16.length co25)) (fun _ h_=>h_.1))));(case side4=>exact (Kd.R_reads' HO18.out).2.1);rintro e w48 ⟨rfl,hb⟩;refine ⟨_,rfl,?_⟩;replace HO3:=a0_ (Kd.R_below (by (with_reducible repeat (first | apply Kd.R_alloc | apply Kd.R_drewN | apply Kd.R_drew));exact (Kd.R_mono (Kd.R_far (p:=⟨gb20,0,none⟩) (Kd.R_types HO3.out BK20.out (by decide)) (fun _ hk=>hk.2) (.slice Ao25 t16.length co25)) (fun _ h_=>h_.1))) hb);replace HO6:=a0_ (Kd.R_below (by (with_reducible repeat (first | apply Kd.R_alloc | apply Kd.R_drewN | apply Kd.R_drew));exact (Kd.R_mono (Kd.R_far (p:=⟨gb20,0,none⟩) (Kd.R_types HO6.out BK20.out (by decide)) (fun _ hk=>hk.2) (.slice Ao25 t16.length co25)) (fun _ h_=>h_.1))) hb);replace HO13:=a0_ (Kd.R_below (by (with_reducible repeat (first | apply Kd.R_alloc | apply Kd.R_drewN | apply Kd.R_drew));exact (Kd.R_mono (Kd.R_far (p:=⟨gb20,0,none⟩) (Kd.R_types HO13.out BK20.out (by decide)) (fun _ hk=>hk.2) (.slice Ao25 t16.length co25)) (fun _ h_=>h_.1))) hb);replace HO18:=a0_ (Kd.R_below (by (with_reducible repeat (first | apply Kd.R_alloc | apply Kd.R_drewN | apply Kd.R_drew));exact (Kd.R_mono (Kd.R_far (p:=⟨gb20,0,none⟩) (Kd.R_types HO18.out BK20.out (by decide)) (fun _ hk=>hk.2) (.slice Ao25 t16.length co25)) (fun _ h_=>h_.1))) hb);replace BK9:=kf_ BK9 NB9_20 hb;replace BK10:=kf_ BK10 NB10_20 hb;replace BK15:=kf_ BK15 NB15_20 hb;replace BK20:=a0_ (blk_below (g:=gb20) (o:=.cells #[.slice Ao25 t16.length co25] 28 (0,0)) (by (with_reducible repeat (first | refine blk_drewN ?_ _ | refine blk_drew ?_ | refine blk_alloc ?_ _));refine blk_put (cs:=#[.slice none 0 0]) ?_ 0 _ rfl;(with_reducible repeat (first | refine blk_drewN ?_ _ | refine blk_drew ?_ | refine blk_alloc ?_ _));exact BK20.out) hb);replace HB:=a0_ (below_step hb_ hb);(try clear hb);(try clear hb2);(try clear hk);(try clear hi)))
     go_meet
     case rel=>exact ⟨_,(!t14),(by first | rfl | (simp;done) | (simp [*];done)),H',⟨by first | omega | exact Nat.le_refl _⟩,⟨by (with_reducible repeat (first | apply Kd.R_alloc | apply Kd.R_drewN | apply Kd.R_drew));exact HO3.out⟩,⟨by (with_reducible repeat (first | apply Kd.R_alloc | apply Kd.R_drewN | apply Kd.R_drew));exact Kd.R_mono HO6.out (fun _ hk=>⟨hk.1.2,hk.2⟩)⟩,⟨by (with_reducible repeat (first | apply Kd.R_alloc | apply Kd.R_drewN | apply Kd.R_drew));exact Kd.R_mono HO13.out (fun _ hk=>⟨hk.1.2,hk.2⟩)⟩,⟨by (with_reducible repeat (first | apply Kd.R_alloc | apply Kd.R_drewN | apply Kd.R_drew));exact Kd.R_mono HO18.out (fun _ hk=>⟨hk.1.2,hk.2⟩)⟩,⟨by (with_reducible repeat (first | refine blk_drewN ?_ _ | refine blk_drew ?_ | refine blk_alloc ?_ _));exact BK9.out⟩,⟨by (with_reducible repeat (first | refine blk_drewN ?_ _ | refine blk_drew ?_ | refine blk_alloc ?_ _));exact BK10.out⟩,⟨by (with_reducible repeat (first | refine blk_drewN ?_ _ | refine blk_drew ?_ | refine blk_alloc ?_ _));exact BK15.out⟩,⟨by (with_reducible repeat (first | refine blk_drewN ?_ _ | refine blk_drew ?_ | refine blk_alloc ?_ _));exact BK20.out⟩,⟨hb_⟩⟩
   ·replace c31:=Bool.eq_false_iff.mpr c31
    subst c31
    have H1 : (laws_FnHideContext.j0 k t7 t8 t14 t19 true t1 t4 t11 t16) = some r:=by rw [if_neg (show ¬ (false = true) by decide)] at H;exact H
    clear H
    have H:=H1
    clear H1
    have H':=a0_ H
    clear H
    have hnb49:=NB15_9.out
    have hnc49:=NB9_15.out
    have hnb50:=NB15_10.out
    have hnc50:=NB10_15.out
    have hnb51:=NB15_20.out
    have hnc51:=NB20_15.out
    have hcz52_0 : w24.cell? ⟨gb15,0,none⟩ = some (.slice Ao17 t11.length co17):=(blk_cell BK15.out 0).trans rfl
    have hfz52_0:=blk_frozen BK15.out 0
    have hnb53:=NB20_9.out
    have hnc53:=NB9_20.out
    have hnb54:=NB20_10.out
    have hnc54:=NB10_20.out
    have hcz55_0 : w24.cell? ⟨gb20,0,none⟩ = some (.slice none 0 0):=(blk_cell BK20.out 0).trans rfl
    have hfz55_0:=blk_frozen BK20.out 0
    go_wp2_with (first | ((with_reducible refine gate_callee (f:=19) rfl ?_);refine goesL_ (some 43) rfl rfl Try.func19 (by kernel_rfl) rfl #[.agg #[.slice Ao17 t11.length co17],.agg #[.slice Ao25 t16.length co25]] rfl lm_ ?_;(with_reducible refine (laws_equalHeap.calls k _ _ t11 _ _ t16 false _ ?side1 ?side2 ?side3 ?side4 A30.out).mono ?_);(case side1=>refine (Kd.R_reads' (e:=43) (base:=w.heap.size) (ok:=fun k_=>((True ∧ some k_ ≠ (.slice Ao13 t4.length co13 : Value).ownBlock) ∧ some k_ ≠ (.slice Ao25 t16.length co25 : Value).ownBlock)) (n:=t11.length) (c:=co17) ?_).2.2;exact (by (with_reducible repeat (first | apply Kd.R_alloc | apply Kd.R_drewN | apply Kd.R_drew));exact (Kd.R_mono (Kd.R_far (p:=⟨gb20,0,none⟩) (Kd.R_types HO13.out BK20.out (by decide)) (fun _ hk=>hk.2) (.slice Ao25 t16.length co25)) (fun _ h_=>h_.1))));(case side2=>exact (Kd.R_reads' HO13.out).2.1);(case side3=>refine (Kd.R_reads' (e:=43) (base:=w.heap.size) (ok:=fun k_=>((True ∧ some k_ ≠ (.slice Ao13 t4.length co13 : Value).ownBlock) ∧ some k_ ≠ (.slice Ao17 t11.length co17 : Value).ownBlock)) (n:=t16.length) (c:=co25) ?_).2.2;exact (by (with_reducible repeat (first | apply Kd.R_alloc | apply Kd.R_drewN | apply Kd.R_drew));exact (Kd.R_mono (Kd.R_far (p:=⟨gb20,0,none⟩) (Kd.R_types HO18.out BK20.out (by decide)) (fun _ hk=>hk.2) (.slice Ao25 t16.length co25)) (fun _ h_=>h_.1))));(case side4=>exact (Kd.R_reads' HO18.out).2.1);rintro e w56 ⟨rfl,hb⟩;refine ⟨_,rfl,?_⟩;replace HO3:=a0_ (Kd.R_below (by (with_reducible repeat (first | apply Kd.R_alloc | apply Kd.R_drewN | apply Kd.R_drew));exact (Kd.R_mono (Kd.R_far (p:=⟨gb20,0,none⟩) (Kd.R_types HO3.out BK20.out (by decide)) (fun _ hk=>hk.2) (.slice Ao25 t16.length co25)) (fun _ h_=>h_.1))) hb);replace HO6:=a0_ (Kd.R_below (by (with_reducible repeat (first | apply Kd.R_alloc | apply Kd.R_drewN | apply Kd.R_drew));exact (Kd.R_mono (Kd.R_far (p:=⟨gb20,0,none⟩) (Kd.R_types HO6.out BK20.out (by decide)) (fun _ hk=>hk.2) (.slice Ao25 t16.length co25)) (fun _ h_=>h_.1))) hb);replace HO13:=a0_ (Kd.R_below (by (with_reducible repeat (first | apply Kd.R_alloc | apply Kd.R_drewN | apply Kd.R_drew));exact (Kd.R_mono (Kd.R_far (p:=⟨gb20,0,none⟩) (Kd.R_types HO13.out BK20.out (by decide)) (fun _ hk=>hk.2) (.slice Ao25 t16.length co25)) (fun _ h_=>h_.1))) hb);replace HO18:=a0_ (Kd.R_below (by (with_reducible repeat (first | apply Kd.R_alloc | apply Kd.R_drewN | apply Kd.R_drew));exact (Kd.R_mono (Kd.R_far (p:=⟨gb20,0,none⟩) (Kd.R_types HO18.out BK20.out (by decide)) (fun _ hk=>hk.2) (.slice Ao25 t16.length co25)) (fun _ h_=>h_.1))) hb);replace BK9:=kf_ BK9 NB9_20 hb;replace BK10:=kf_ BK10 NB10_20 hb;replace BK15:=kf_ BK15 NB15_20 hb;replace BK20:=a0_ (blk_below (g:=gb20) (o:=.cells #[.slice Ao25 t16.length co25] 28 (0,0)) (by (with_reducible repeat (first | refine blk_drewN ?_ _ | refine blk_drew ?_ | refine blk_alloc ?_ _));refine blk_put (cs:=#[.slice none 0 0]) ?_ 0 _ rfl;(with_reducible repeat (first | refine blk_drewN ?_ _ | refine blk_drew ?_ | refine blk_alloc ?_ _));exact BK20.out) hb);replace HB:=a0_ (below_step hb_ hb);(try clear hb);(try clear hb2);(try clear hk);(try clear hi)))
    go_meet
    case rel=>exact ⟨_,(true),(by first | rfl | (simp;done) | (simp [*];done)),H',⟨by first | omega | exact Nat.le_refl _⟩,⟨by (with_reducible repeat (first | apply Kd.R_alloc | apply Kd.R_drewN | apply Kd.R_drew));exact HO3.out⟩,⟨by (with_reducible repeat (first | apply Kd.R_alloc | apply Kd.R_drewN | apply Kd.R_drew));exact Kd.R_mono HO6.out (fun _ hk=>⟨hk.1.2,hk.2⟩)⟩,⟨by (with_reducible repeat (first | apply Kd.R_alloc | apply Kd.R_drewN | apply Kd.R_drew));exact Kd.R_mono HO13.out (fun _ hk=>⟨hk.1.2,hk.2⟩)⟩,⟨by (with_reducible repeat (first | apply Kd.R_alloc | apply Kd.R_drewN | apply Kd.R_drew));exact Kd.R_mono HO18.out (fun _ hk=>⟨hk.1.2,hk.2⟩)⟩,⟨by (with_reducible repeat (first | refine blk_drewN ?_ _ | refine blk_drew ?_ | refine blk_alloc ?_ _));exact BK9.out⟩,⟨by (with_reducible repeat (first | refine blk_drewN ?_ _ | refine blk_drew ?_ | refine blk_alloc ?_ _));exact BK10.out⟩,⟨by (with_reducible repeat (first | refine blk_drewN ?_ _ | refine blk_drew ?_ | refine blk_alloc ?_ _));exact BK15.out⟩,⟨by (with_reducible repeat (first | refine blk_drewN ?_ _ | refine blk_drew ?_ | refine blk_alloc ?_ _));exact BK20.out⟩,⟨hb_⟩⟩
  case rest =>
   clear HC6
   try clear c1
   try clear c2
   try clear c2b0
   try clear c2b1
   try clear p2
   try clear c3
   try clear c4
   try clear c5
   try clear c11
   try clear c18
   try clear c19
   try clear c20
   try clear c21
   try clear c22
   try clear c26
   try clear c27
   try clear c28
   try clear c31
   try clear c32
   try clear c32b0
   try clear c32b1
   try clear c32b2
   try clear c33
   try clear c34
   try clear c35
   try clear c37
   try clear c38
   try clear c41
   try clear c42
   try clear c43
   try clear c45
   try clear c46
   try clear c49
   try clear c50
   try clear c51
   try clear c53
   try clear c54
   try clear hcz12_0
   try clear hcz14_0
   try clear hcz20_0
   try clear hcz21_0
   try clear hcz22_0
   try clear hcz29_0
   try clear hcz36_0
   try clear hcz39_0
   try clear hcz44_0
   try clear hcz47_0
   try clear hcz52_0
   try clear hcz55_0
   try clear hfz12_0
   try clear hfz14_0
   try clear hfz20_0
   try clear hfz21_0
   try clear hfz22_0
   try clear hfz29_0
   try clear hfz36_0
   try clear hfz39_0
   try clear hfz44_0
   try clear hfz47_0
   try clear hfz52_0
   try clear hfz55_0
   obtain ⟨kq,x53_5,rfl,HA,HJ5,Z10,Z11,Z16,Z21,BK9,BK10,BK15,BK20,HB⟩:=hcut
   cases kq with
   | zero=>exact absurd HA.out (by simp [laws_FnHideContext.j0])
   | succ kj5 =>
    have H:=HA.out
    clear HA
    simp only [laws_FnHideContext.j0] at H
    by_cases c57 : x53_5 = true
    ·subst c57
     have H1 : ((laws_equalHeap.f kj5 t11 t16).bind fun t22=>(if t22 = true then (some (t14 == t19)) else (some false))) = some r:=by rw [if_pos rfl] at H;exact H
     clear H
     have H:=H1
     clear H1
     replace H:=Option.bind_eq_some_iff.mp H
     obtain ⟨t22,A580,H⟩:=H
     try dsimp only at H
     have A58:=a0_ A580
     clear A580
     by_cases c59 : t22 = true
     ·subst c59
      have H1 : (some (t14 == t19)) = some r:=by rw [if_pos rfl] at H;exact H
      clear H
      have H:=H1
      clear H1
      obtain rfl:=Option.some.inj H
      have hnb60:=NB15_9.out
      have hnc60:=NB9_15.out
      have hnb61:=NB15_10.out
      have hnc61:=NB10_15.out
      have hnb62:=NB15_20.out
      have hnc62:=NB20_15.out
      have hcz63_0 : wc.cell? ⟨gb15,0,none⟩ = some (.slice Ao17 t11.length co17):=(blk_cell BK15.out 0).trans rfl
      have hfz63_0:=blk_frozen BK15.out 0
      have hnb64:=NB20_9.out
      have hnc64:=NB9_20.out
      have hnb65:=NB20_10.out
      have hnc65:=NB10_20.out
      have hcz66_0 : wc.cell? ⟨gb20,0,none⟩ = some (.slice Ao25 t16.length co25):=(blk_cell BK20.out 0).trans rfl
      have hfz66_0:=blk_frozen BK20.out 0
      go_wp2_with (first | ((with_reducible refine gate_callee (f:=19) rfl ?_);refine goesL_ (some 56) rfl rfl Try.func19 (by kernel_rfl) rfl #[.agg #[.slice Ao17 t11.length co17],.agg #[.slice Ao25 t16.length co25]] rfl lm_ ?_;(with_reducible refine (laws_equalHeap.calls kj5 _ _ t11 _ _ t16 true _ ?side1 ?side2 ?side3 ?side4 A58.out).mono ?_);(case side1=>exact cc_ (Kd.R_reads' Z16.out).2.2);(case side2=>exact (Kd.R_reads' Z16.out).2.1);(case side3=>exact cc_ (Kd.R_reads' Z21.out).2.2);(case side4=>exact (Kd.R_reads' Z21.out).2.1);rintro e w67 ⟨rfl,hb⟩;refine ⟨_,rfl,?_⟩;replace Z10:=rb_ Z10 hb;replace Z11:=rb_ Z11 hb;replace Z16:=rb_ Z16 hb;replace Z21:=rb_ Z21 hb;replace BK9:=kb_ BK9 hb;replace BK10:=kb_ BK10 hb;replace BK15:=kb_ BK15 hb;replace BK20:=kb_ BK20 hb;replace HB:=a0_ (below_step hb_ hb);(try clear hb);(try clear hb2);(try clear hk);(try clear hi)))
      go_ret
      exact ⟨by first | rfl | (simp [errW_none,errW_some] <;> rfl) | (simp [*,errW_none,errW_some] <;> rfl),hb_⟩
     ·replace c59:=Bool.eq_false_iff.mpr c59
      subst c59
      have H1 : (some false) = some r:=by rw [if_neg (show ¬ (false = true) by decide)] at H;exact H
      clear H
      have H:=H1
      clear H1
      obtain rfl:=Option.some.inj H
      have hnb68:=NB15_9.out
      have hnc68:=NB9_15.out
      have hnb69:=NB15_10.out
      have hnc69:=NB10_15.out
      have hnb70:=NB15_20.out
      have hnc70:=NB20_15.out
      have hcz71_0 : wc.cell? ⟨gb15,0,none⟩ = some (.slice Ao17 t11.length co17):=(blk_cell BK15.out 0).trans rfl
      have hfz71_0:=blk_frozen BK15.out 0
      have hnb72:=NB20_9.out
      have hnc72:=NB9_20.out
      have hnb73:=NB20_10.out
      have hnc73:=NB10_20.out
      have hcz74_0 : wc.cell? ⟨gb20,0,none⟩ = some (.slice Ao25 t16.length co25):=(blk_cell BK20.out 0).trans rfl
      have hfz74_0:=blk_frozen BK20.out 0
      go_wp2_with (first | ((with_reducible refine gate_callee (f:=19) rfl ?_);refine goesL_ (some 56) rfl rfl Try.func19 (by kernel_rfl) rfl #[.agg #[.slice Ao17 t11.length co17],.agg #[.slice Ao25 t16.length co25]] rfl lm_ ?_;(with_reducible refine (laws_equalHeap.calls kj5 _ _ t11 _ _ t16 false _ ?side1 ?side2 ?side3 ?side4 A58.out).mono ?_);(case side1=>exact cc_ (Kd.R_reads' Z16.out).2.2);(case side2=>exact (Kd.R_reads' Z16.out).2.1);(case side3=>exact cc_ (Kd.R_reads' Z21.out).2.2);(case side4=>exact (Kd.R_reads' Z21.out).2.1);rintro e w75 ⟨rfl,hb⟩;refine ⟨_,rfl,?_⟩;replace Z10:=rb_ Z10 hb;replace Z11:=rb_ Z11 hb;replace Z16:=rb_ Z16 hb;replace Z21:=rb_ Z21 hb;replace BK9:=kb_ BK9 hb;replace BK10:=kb_ BK10 hb;replace BK15:=kb_ BK15 hb;replace BK20:=kb_ BK20 hb;replace HB:=a0_ (below_step hb_ hb);(try clear hb);(try clear hb2);(try clear hk);(try clear hi)))
      go_ret
      exact ⟨by first | rfl | (simp [errW_none,errW_some] <;> rfl) | (simp [*,errW_none,errW_some] <;> rfl),hb_⟩
    ·replace c57:=Bool.eq_false_iff.mpr c57
     subst c57
     have H1 : (if 0 ≤ t7 then (if t7 < (t4.length : Int) then ((impl_HideContext.f t1 t11 t7 ((rd_T43 t4 t7).f4)).bind fun bt24=>(if t7 < (t11.length : Int) then ((impl_ShownNext.f t1 t11 t7).bind fun t31=>(if bt24.2 = true then ((laws_equalHeap.f kj5 bt24.1 t4).bind fun t32=>(if t32 = true then (if ((rd_T43 t11 t7).f2) ≥ 0 then (if t31 = ((rd_T43 t11 t7).f2) then (some true) else (if ((rd_T43 t11 t7).f2) < 0 then (if t8 = true then (if t31 = (-1) then (some true) else (some false)) else (some (t31 == ((rd_T43 t11 t7).f3)))) else (some false))) else (if ((rd_T43 t11 t7).f2) < 0 then (if t8 = true then (if t31 = (-1) then (some true) else (some false)) else (some (t31 == ((rd_T43 t11 t7).f3)))) else (some false))) else (some false))) else (some false))) else (none))) else (none)) else (none)) = some r:=by rw [if_neg (show ¬ (false = true) by decide)] at H;exact H
     clear H
     have H:=H1
     clear H1
     by_cases c76 : 0 ≤ t7
     ·rw [if_pos c76] at H
      have c76b0 : decide (0 ≤ t7) = true:=decide_eq_true c76
      clear c76
      by_cases c77 : t7 < (t4.length : Int)
      ·rw [if_pos c77] at H
       have c77b0 : decide (t7 < (t4.length : Int)) = true:=decide_eq_true c77
       clear c77
       replace H:=Option.bind_eq_some_iff.mp H
       obtain ⟨⟨t24,t27⟩,A780,H⟩:=H
       try dsimp only at H
       have A78:=a0_ A780
       clear A780
       by_cases c79 : t7 < (t11.length : Int)
       ·rw [if_pos c79] at H
        have c79b0 : decide (t7 < (t11.length : Int)) = true:=decide_eq_true c79
        clear c79
        replace H:=Option.bind_eq_some_iff.mp H
        obtain ⟨t31,A800,H⟩:=H
        try dsimp only at H
        have A80:=a0_ A800
        clear A800
        by_cases c81 : t27 = true
        ·subst c81
         have H1 : ((laws_equalHeap.f kj5 t24 t4).bind fun t32=>(if t32 = true then (if ((rd_T43 t11 t7).f2) ≥ 0 then (if t31 = ((rd_T43 t11 t7).f2) then (some true) else (if ((rd_T43 t11 t7).f2) < 0 then (if t8 = true then (if t31 = (-1) then (some true) else (some false)) else (some (t31 == ((rd_T43 t11 t7).f3)))) else (some false))) else (if ((rd_T43 t11 t7).f2) < 0 then (if t8 = true then (if t31 = (-1) then (some true) else (some false)) else (some (t31 == ((rd_T43 t11 t7).f3)))) else (some false))) else (some false))) = some r:=by rw [if_pos rfl] at H;exact H
         clear H
         have H:=H1
         clear H1
         replace H:=Option.bind_eq_some_iff.mp H
         obtain ⟨t32,A820,H⟩:=H
         try dsimp only at H
         have A82:=a0_ A820
         clear A820
         by_cases c83 : t32 = true
         ·subst c83
          have H1 : (if ((rd_T43 t11 t7).f2) ≥ 0 then (if t31 = ((rd_T43 t11 t7).f2) then (some true) else (if ((rd_T43 t11 t7).f2) < 0 then (if t8 = true then (if t31 = (-1) then (some true) else (some false)) else (some (t31 == ((rd_T43 t11 t7).f3)))) else (some false))) else (if ((rd_T43 t11 t7).f2) < 0 then (if t8 = true then (if t31 = (-1) then (some true) else (some false)) else (some (t31 == ((rd_T43 t11 t7).f3)))) else (some false))) = some r:=by rw [if_pos rfl] at H;exact H
          clear H
          have H:=H1
          clear H1
          by_cases c84 : ((rd_T43 t11 t7).f2) ≥ 0
          ·rw [if_pos c84] at H
           have c84b0 : decide (0 ≤ ((rd_T43 t11 t7).f2)) = true:=decide_eq_true c84
           clear c84
           by_cases c85 : t31 = ((rd_T43 t11 t7).f2)
           ·rw [if_pos c85] at H
            have c85b0 : (t31 == ((rd_T43 t11 t7).f2)) = true:=beq_iff_eq.mpr c85
            have c85b1 : (t31 != ((rd_T43 t11 t7).f2)) = false:=bne_eq_false_iff_eq.mpr c85
            clear c85
            obtain rfl:=Option.some.inj H
            try go_wp2
            have n0_:=a0_ (Kd.R_drew Z10.out)
            have n1_:=a0_ (Kd.R_drew Z11.out)
            have n2_:=a0_ (Kd.R_drew Z16.out)
            have n3_:=a0_ (Kd.R_drew Z21.out)
            have n4_:=a0_ (blk_drew BK9.out)
            have n5_:=a0_ (blk_drew BK10.out)
            have n6_:=a0_ (blk_drew BK15.out)
            have n7_:=a0_ (blk_drew BK20.out)
            have n8_:=a0_ (below_drew1 HB.out)
            clear Z10
            clear Z11
            clear Z16
            clear Z21
            clear BK9
            clear BK10
            clear BK15
            clear BK20
            clear HB
            have Z10:=n0_
            have Z11:=n1_
            have Z16:=n2_
            have Z21:=n3_
            have BK9:=n4_
            have BK10:=n5_
            have BK15:=n6_
            have BK20:=n7_
            have HB:=n8_
            clear n0_ n1_ n2_ n3_ n4_ n5_ n6_ n7_ n8_
            have p23 : 0 ≤ (t7 : Int):=of_decide_eq_true (by first | (with_reducible assumption) | assumption)
            have q23 : t7 < (t4.length : Int):=of_decide_eq_true (by first | (with_reducible assumption) | assumption)
            obtain ⟨ad23,e23,hx23_0,hx23_1,hx23_2,hx23_3,hx23_4⟩:=at_T43 (Kd.R_reads' Z11.out).2.2 t7 p23 q23
            cases e23
            replace p23:=eq_true p23
            replace q23:=eq_true q23
            refine start_ (n:=16) (S:=fun w'=>w'.cell? ⟨gb9,0,none⟩ = some (.slice Ao10 t1.length co10) ∧ w'.cell? ⟨gb15,0,none⟩ = some (.slice Ao17 t11.length co17) ∧ w'.cell? ⟨gb10,0,none⟩ = some (.slice (some ad23) t4.length co13) ∧ w'.cell? (ad23.add ((t7).toNat * 5)) = some (.int .i64 ((rd_T43 t4 t7).f0)) ∧ w'.cell? ⟨(ad23.add ((t7).toNat * 5)).block,(ad23.add ((t7).toNat * 5)).off + 1,none⟩ = some (.int .i64 ((rd_T43 t4 t7).f1)) ∧ w'.cell? ⟨(ad23.add ((t7).toNat * 5)).block,(ad23.add ((t7).toNat * 5)).off + 2,none⟩ = some (.int .i64 ((rd_T43 t4 t7).f2)) ∧ w'.cell? ⟨(ad23.add ((t7).toNat * 5)).block,(ad23.add ((t7).toNat * 5)).off + 3,none⟩ = some (.int .i64 ((rd_T43 t4 t7).f3)) ∧ w'.cell? ⟨(ad23.add ((t7).toNat * 5)).block,(ad23.add ((t7).toNat * 5)).off + 4,none⟩ = some (.bool ((rd_T43 t4 t7).f4))) (ds:=[]) #[false,false,false,false,false,false,false,false,false,false,false,false,false,false,false,false] (by kernel_rfl) rfl rfl ⟨(blk_cell BK9.out 0).trans rfl,(blk_cell BK15.out 0).trans rfl,(blk_cell BK10.out 0).trans rfl,hx23_0,hx23_1,hx23_2,hx23_3,hx23_4⟩ (fun hHeld=>?_);refine with_tabW laws_FnHideContext.tab8 laws_FnHideContext.bits8 (fun HT_ HW_=>?_)
            generalize wc.drew = w86 at Z10 Z11 Z16 Z21 BK9 BK10 BK15 BK20 HB hx23_0 hx23_1 hx23_2 hx23_3 hx23_4 hHeld ⊢
            refine pure_ (i:=2) (N:=some 65) (v:=?_) (a':=?_) #[false,false,true,false,false,false,false,false,false,false,false,false,false,false,false,false] rfl rfl (any_of HT_.out (by kernel_rfl)) (fun _ _ _ h=>h) (Or.inl ⟨by rfl,?_⟩) ?_ ?_
            rotate_left
            ·intro w'
             go_simp
             with_reducible rfl
            rotate_left
            ·simp only [Act.put,s1_,s2_,s3_,i64_w,i32_w]
             rfl
            refine pure_ (i:=3) (N:=some 66) (v:=?_) (a':=?_) #[false,false,true,true,false,false,false,false,false,false,false,false,false,false,false,false] rfl rfl (any_of HT_.out (by kernel_rfl)) (fun _ _ _ h=>h) (Or.inl ⟨by rfl,?_⟩) ?_ ?_
            rotate_left
            ·intro w'
             go_simp
             with_reducible rfl
            rotate_left
            ·simp only [Act.put,s1_,s2_,s3_,i64_w,i32_w]
             rfl
            refine pure_ (i:=5) (N:=some 68) (v:=?_) (a':=?_) #[false,false,true,true,false,true,false,false,false,false,false,false,false,false,false,false] rfl rfl (any_of HT_.out (by kernel_rfl)) (fun _ _ _ h=>h) (Or.inl ⟨by rfl,?_⟩) ?_ ?_
            rotate_left
            ·intro w'
             go_simp
             with_reducible rfl
            rotate_left
            ·simp only [Act.put,s1_,s2_,s3_,i64_w,i32_w]
             rfl
            refine take_ (i:=0) (N:=some 63) (v:=?_) (a':=?_) #[true,false,true,true,false,true,false,false,false,false,false,false,false,false,false,false] rfl rfl (take_ofW HT_.out HW_.out (by kernel_rfl)) (fun _ _ _ h=>h) (Or.inl ⟨by rfl,?_⟩) hHeld ?_ ?_
            rotate_left
            ·rintro w' ⟨s0,s1,s2,s3,s4,s5,s6,s7⟩
             go_simp
             with_reducible rfl
            rotate_left
            ·simp only [Act.put,s1_,s2_,s3_,i64_w,i32_w]
             rfl
            refine take_ (i:=1) (N:=some 64) (v:=?_) (a':=?_) #[true,true,true,true,false,true,false,false,false,false,false,false,false,false,false,false] rfl rfl (take_ofW HT_.out HW_.out (by kernel_rfl)) (fun _ _ _ h=>h) (Or.inl ⟨by rfl,?_⟩) hHeld ?_ ?_
            rotate_left
            ·rintro w' ⟨s0,s1,s2,s3,s4,s5,s6,s7⟩
             go_simp
             with_reducible rfl
            rotate_left
            ·simp only [Act.put,s1_,s2_,s3_,i64_w,i32_w]
             rfl
            refine take_ (i:=4) (N:=some 67) (v:=?_) (a':=?_) #[true,true,true,true,true,true,false,false,false,false,false,false,false,false,false,false] rfl rfl (take_ofW HT_.out HW_.out (by kernel_rfl)) (fun _ _ _ h=>h) (Or.inl ⟨by rfl,?_⟩) hHeld ?_ ?_
            rotate_left
            ·rintro w' ⟨s0,s1,s2,s3,s4,s5,s6,s7⟩
             go_simp
             with_reducible rfl
            rotate_left
            ·simp only [Act.put,s1_,s2_,s3_,i64_w,i32_w]
             rfl
            refine pure_ (i:=6) (N:=some 69) (v:=?_) (a':=?_) #[true,true,true,true,true,true,true,false,false,false,false,false,false,false,false,false] rfl rfl (any_of HT_.out (by kernel_rfl)) (fun _ _ _ h=>h) (Or.inl ⟨by rfl,?_⟩) ?_ ?_
            rotate_left
            ·intro w'
             go_simp
             with_reducible rfl
            rotate_left
            ·simp only [Act.put,s1_,s2_,s3_,i64_w,i32_w]
             rfl
            refine pure_ (i:=7) (N:=some 70) (v:=?_) (a':=?_) #[true,true,true,true,true,true,true,true,false,false,false,false,false,false,false,false] rfl rfl (any_of HT_.out (by kernel_rfl)) (fun _ _ _ h=>h) (Or.inl ⟨by rfl,?_⟩) ?_ ?_
            rotate_left
            ·intro w'
             go_simp
             with_reducible rfl
            rotate_left
            ·simp only [Act.put,s1_,s2_,s3_,i64_w,i32_w]
             rfl
            refine take_ (i:=8) (N:=some 71) (v:=?_) (a':=?_) #[true,true,true,true,true,true,true,true,true,false,false,false,false,false,false,false] rfl rfl (take_ofW HT_.out HW_.out (by kernel_rfl)) (fun _ _ _ h=>h) (Or.inl ⟨by rfl,?_⟩) hHeld ?_ ?_
            rotate_left
            ·rintro w' ⟨s0,s1,s2,s3,s4,s5,s6,s7⟩
             go_simp
             with_reducible rfl
            rotate_left
            ·simp only [Act.put,s1_,s2_,s3_,i64_w,i32_w]
             rfl
            refine join_ (σ:=Value × Nat) 2 #[true,true,true,true,true,true,true,true,true,true,true,true,true,true,false,false] (fun s_=>[(72,.tuple #[.agg #[s_.1],.bool true]),(11,.pointer (some ⟨s_.2,0,none⟩)),(62,.tuple #[.agg #[s_.1],.bool true]),(73,.agg #[s_.1]),(74,.bool true)]) (fun s_ w'=>(w'.cell? ⟨gb9,0,none⟩ = some (.slice Ao10 t1.length co10) ∧ w'.cell? ⟨gb15,0,none⟩ = some (.slice Ao17 t11.length co17) ∧ w'.cell? ⟨gb10,0,none⟩ = some (.slice (some ad23) t4.length co13) ∧ w'.cell? (ad23.add ((t7).toNat * 5)) = some (.int .i64 ((rd_T43 t4 t7).f0)) ∧ w'.cell? ⟨(ad23.add ((t7).toNat * 5)).block,(ad23.add ((t7).toNat * 5)).off + 1,none⟩ = some (.int .i64 ((rd_T43 t4 t7).f1)) ∧ w'.cell? ⟨(ad23.add ((t7).toNat * 5)).block,(ad23.add ((t7).toNat * 5)).off + 2,none⟩ = some (.int .i64 ((rd_T43 t4 t7).f2)) ∧ w'.cell? ⟨(ad23.add ((t7).toNat * 5)).block,(ad23.add ((t7).toNat * 5)).off + 3,none⟩ = some (.int .i64 ((rd_T43 t4 t7).f3)) ∧ w'.cell? ⟨(ad23.add ((t7).toNat * 5)).block,(ad23.add ((t7).toNat * 5)).off + 4,none⟩ = some (.bool ((rd_T43 t4 t7).f4))) ∧ (Kd.R k43 43 w' w.heap.size (fun k_=>some k_ ≠ (.slice (some ad23) t4.length co13 : Value).ownBlock ∧ some k_ ≠ (.slice Ao17 t11.length co17 : Value).ownBlock ∧ some k_ ≠ (.slice Ao25 t16.length co25 : Value).ownBlock) s_.1 t24) ∧ (Kd.R k87 87 w' w.heap.size (fun _=>True) (.slice Ao10 t1.length co10) t1) ∧ (Kd.R k43 43 w' w.heap.size (fun k_=>some k_ ≠ (s_.1 : Value).ownBlock ∧ some k_ ≠ (.slice Ao17 t11.length co17 : Value).ownBlock ∧ some k_ ≠ (.slice Ao25 t16.length co25 : Value).ownBlock) (.slice (some ad23) t4.length co13) t4) ∧ (Kd.R k43 43 w' w.heap.size (fun k_=>some k_ ≠ (s_.1 : Value).ownBlock ∧ some k_ ≠ (.slice (some ad23) t4.length co13 : Value).ownBlock ∧ some k_ ≠ (.slice Ao25 t16.length co25 : Value).ownBlock) (.slice Ao17 t11.length co17) t11) ∧ (Kd.R k43 43 w' w.heap.size (fun k_=>some k_ ≠ (s_.1 : Value).ownBlock ∧ some k_ ≠ (.slice (some ad23) t4.length co13 : Value).ownBlock ∧ some k_ ≠ (.slice Ao17 t11.length co17 : Value).ownBlock) (.slice Ao25 t16.length co25) t16) ∧ (w'.heap[gb10]? = some (.cells #[.slice (some ad23) t4.length co13] 28 (0,0))) ∧ (w'.heap[gb15]? = some (.cells #[.slice Ao17 t11.length co17] 28 (0,0))) ∧ (w'.heap[gb20]? = some (.cells #[.slice Ao25 t16.length co25] 28 (0,0))) ∧ (w'.heap[s_.2]? = some (.cells #[.slice none 0 0] 28 (0,0))) ∧ (w'.heap[gb9]? = some (.cells #[.slice Ao10 t1.length co10] 25 (0,0))) ∧ (w.heap.size ≤ s_.2) ∧ (w.heap.size ≤ s_.2) ∧ (gb10 ≠ s_.2) ∧ (s_.2 ≠ gb10) ∧ (gb15 ≠ s_.2) ∧ (s_.2 ≠ gb15) ∧ (gb20 ≠ s_.2) ∧ (s_.2 ≠ gb20) ∧ (gb9 ≠ s_.2) ∧ (s_.2 ≠ gb9) ∧ (Below w.heap.size w w')) ?_ ?_
            rotate_left
            ·intro hCont
             refine two_ (i:=9) (j:=13) (Ni:=some 72) (Nj:=some 11) #[true,true,true,true,true,true,true,true,true,true,false,false,false,false,false,false] #[true,true,true,true,true,true,true,true,true,false,false,false,false,true,false,false] rfl rfl rfl rfl (two_of HT_.out (by kernel_rfl)) (by decide) (by decide) (fun K hK=>?_) (fun K hK=>?_)
             ·skip
              refine goes_ Try.func21 (by kernel_rfl) rfl #[.agg #[.slice Ao10 t1.length co10],.agg #[.slice Ao17 t11.length co17],.int .i64 t7,.bool ((rd_T43 t4 t7).f4)] (by rfl) rfl rfl lm_ ?_
              with_reducible refine (impl_HideContext.calls _ _ t1 _ _ t11 t7 ((rd_T43 t4 t7).f4) t24 true _ ?side1 ?side2 ?side3 ?side4 A78.out).mono ?_
              (case side1=>exact cc_ (Kd.R_reads' Z10.out).2.2)
              (case side2=>exact (Kd.R_reads' Z10.out).2.1)
              (case side3=>exact cc_ (Kd.R_reads' Z16.out).2.2)
              (case side4=>exact (Kd.R_reads' Z16.out).2.1)
              rintro e w87 ⟨v25,rfl,ho0,hb⟩
              have HS3_:=(hb.cell (World.block_lt_of_cell? _ _ (hHeld.2.2.2.1))).trans (hHeld.2.2.2.1)
              have HS4_:=(hb.cell (World.block_lt_of_cell? _ _ (hHeld.2.2.2.2.1))).trans (hHeld.2.2.2.2.1)
              have HS5_:=(hb.cell (World.block_lt_of_cell? _ _ (hHeld.2.2.2.2.2.1))).trans (hHeld.2.2.2.2.2.1)
              have HS6_:=(hb.cell (World.block_lt_of_cell? _ _ (hHeld.2.2.2.2.2.2.1))).trans (hHeld.2.2.2.2.2.2.1)
              have HS7_:=(hb.cell (World.block_lt_of_cell? _ _ (hHeld.2.2.2.2.2.2.2))).trans (hHeld.2.2.2.2.2.2.2)
              refine ⟨_,rfl,?_⟩
              have n0_:=rb_ Z10 hb
              have n1_:=a0_ (Kd.R_elder' (rr_ Z11.out) (Kd.R_base ho0) hb)
              have n2_:=a0_ (Kd.R_elder' (rr_ Z16.out) (Kd.R_base ho0) hb)
              have n3_:=a0_ (Kd.R_elder' (rr_ Z21.out) (Kd.R_base ho0) hb)
              have n4_:=a0_ (Kd.R_lower (Kd.R_new' (Kd.R_new' (Kd.R_new' ho0 (Kd.R_lt (rr_ Z11.out))) (Kd.R_lt (rr_ Z16.out))) (Kd.R_lt (rr_ Z21.out))) (below_size hb_))
              have n5_:=kb_ BK9 hb
              have n6_:=kb_ BK10 hb
              have n7_:=kb_ BK15 hb
              have n8_:=kb_ BK20 hb
              have n9_:=a0_ (below_step hb_ hb)
              clear Z10
              clear Z11
              clear Z16
              clear Z21
              clear BK9
              clear BK10
              clear BK15
              clear BK20
              clear HB
              have Z10:=n0_
              have Z11:=n1_
              have Z16:=n2_
              have Z21:=n3_
              have HO26:=n4_
              have BK9:=n5_
              have BK10:=n6_
              have BK15:=n7_
              have BK20:=n8_
              have HB:=n9_
              clear n0_ n1_ n2_ n3_ n4_ n5_ n6_ n7_ n8_ n9_
              (try clear hb)
              (try clear hb2)
              (try clear hk)
              (try clear hi)
              (try clear ho0)
              refine hK.out _ _ ⟨(blk_cell BK9.out 0).trans rfl,(blk_cell BK15.out 0).trans rfl,(blk_cell BK10.out 0).trans rfl,HS3_,HS4_,HS5_,HS6_,HS7_⟩ (fun hHeld=>?_)
              clear hK K
              refine norm_ (a':=?_) ?_ ?_
              rotate_left
              ·show Act.put _ (some 72) _ = _
               simp only [Act.put,s1_,s2_,s3_,i64_w,i32_w]
               rfl
              refine pure_ (i:=10) (N:=some 62) (v:=?_) (a':=?_) #[true,true,true,true,true,true,true,true,true,true,true,false,false,false,false,false] rfl rfl (any_of HT_.out (by kernel_rfl)) (fun _ _ _ h=>h) (Or.inl ⟨by rfl,?_⟩) ?_ ?_
              rotate_left
              ·intro w'
               go_simp
               with_reducible rfl
              rotate_left
              ·simp only [Act.put,s1_,s2_,s3_,i64_w,i32_w]
               rfl
              refine pure_ (i:=11) (N:=some 73) (v:=?_) (a':=?_) #[true,true,true,true,true,true,true,true,true,true,true,true,false,false,false,false] rfl rfl (any_of HT_.out (by kernel_rfl)) (fun _ _ _ h=>h) (Or.inl ⟨by rfl,?_⟩) ?_ ?_
              rotate_left
              ·intro w'
               go_simp
               with_reducible rfl
              rotate_left
              ·simp only [Act.put,s1_,s2_,s3_,i64_w,i32_w]
               rfl
              refine pure_ (i:=12) (N:=some 74) (v:=?_) (a':=?_) #[true,true,true,true,true,true,true,true,true,true,true,true,true,false,false,false] rfl rfl (any_of HT_.out (by kernel_rfl)) (fun _ _ _ h=>h) (Or.inl ⟨by rfl,?_⟩) ?_ ?_
              rotate_left
              ·intro w'
               go_simp
               with_reducible rfl
              rotate_left
              ·simp only [Act.put,s1_,s2_,s3_,i64_w,i32_w]
               rfl
              refine one_ (i:=13) (N:=some 11) #[true,true,true,true,true,true,true,true,true,true,true,true,true,true,false,false] rfl rfl (one_of HT_.out (by kernel_rfl)) (by decide) (fun K hK=>?_)
              refine box_step ?hg (N:=11) ?hd (cs:=#[.slice none 0 0]) (t:=28) ?hr ?_;(case hd=>rfl);(case hg=>rfl);(case hr=>first | (go_simp;done) | (go_simp;rfl))
              intro gb28 hg w88 hbox hb
              have HS3_:=(hb.cell (World.block_lt_of_cell? _ _ (hHeld.2.2.2.1))).trans (hHeld.2.2.2.1)
              have HS4_:=(hb.cell (World.block_lt_of_cell? _ _ (hHeld.2.2.2.2.1))).trans (hHeld.2.2.2.2.1)
              have HS5_:=(hb.cell (World.block_lt_of_cell? _ _ (hHeld.2.2.2.2.2.1))).trans (hHeld.2.2.2.2.2.1)
              have HS6_:=(hb.cell (World.block_lt_of_cell? _ _ (hHeld.2.2.2.2.2.2.1))).trans (hHeld.2.2.2.2.2.2.1)
              have HS7_:=(hb.cell (World.block_lt_of_cell? _ _ (hHeld.2.2.2.2.2.2.2))).trans (hHeld.2.2.2.2.2.2.2)
              have n0_:=rb_ Z10 hb
              have n1_:=rb_ Z11 hb
              have n2_:=rb_ Z16 hb
              have n3_:=rb_ Z21 hb
              have n4_:=rb_ HO26 hb
              have n5_:=kb_ BK9 hb
              have n6_:=kb_ BK10 hb
              have n7_:=kb_ BK15 hb
              have n8_:=kb_ BK20 hb
              have n9_:=a0_ (below_step hb_ hb)
              have n10_:=a0_ (hbox)
              have n11_:=a0_ ((by rw [hg];exact (below_size hb_) : w.heap.size ≤ gb28))
              have n12_:=a0_ ((by rw [hg];exact (below_size hb_) : w.heap.size ≤ gb28))
              have n13_:=a0_ ((by rw [hg];exact Nat.ne_of_lt (blk_lt (bb_ BK9.out)) : gb9 ≠ gb28))
              have n14_:=a0_ ((by rw [hg];exact Nat.ne_of_gt (blk_lt (bb_ BK9.out)) : gb28 ≠ gb9))
              have n15_:=a0_ ((by rw [hg];exact Nat.ne_of_lt (blk_lt (bb_ BK10.out)) : gb10 ≠ gb28))
              have n16_:=a0_ ((by rw [hg];exact Nat.ne_of_gt (blk_lt (bb_ BK10.out)) : gb28 ≠ gb10))
              have n17_:=a0_ ((by rw [hg];exact Nat.ne_of_lt (blk_lt (bb_ BK15.out)) : gb15 ≠ gb28))
              have n18_:=a0_ ((by rw [hg];exact Nat.ne_of_gt (blk_lt (bb_ BK15.out)) : gb28 ≠ gb15))
              have n19_:=a0_ ((by rw [hg];exact Nat.ne_of_lt (blk_lt (bb_ BK20.out)) : gb20 ≠ gb28))
              have n20_:=a0_ ((by rw [hg];exact Nat.ne_of_gt (blk_lt (bb_ BK20.out)) : gb28 ≠ gb20))
              clear Z10
              clear Z11
              clear Z16
              clear Z21
              clear HO26
              clear BK9
              clear BK10
              clear BK15
              clear BK20
              clear HB
              have Z10:=n0_
              have Z11:=n1_
              have Z16:=n2_
              have Z21:=n3_
              have HO26:=n4_
              have BK9:=n5_
              have BK10:=n6_
              have BK15:=n7_
              have BK20:=n8_
              have HB:=n9_
              have BK28:=n10_
              have GW28:=n11_
              have GE28:=n12_
              have NB9_28:=n13_
              have NB28_9:=n14_
              have NB10_28:=n15_
              have NB28_10:=n16_
              have NB15_28:=n17_
              have NB28_15:=n18_
              have NB20_28:=n19_
              have NB28_20:=n20_
              clear n0_ n1_ n2_ n3_ n4_ n5_ n6_ n7_ n8_ n9_ n10_ n11_ n12_ n13_ n14_ n15_ n16_ n17_ n18_ n19_ n20_
              clear hb hbox hg
              refine hK.out _ _ ⟨(blk_cell BK9.out 0).trans rfl,(blk_cell BK15.out 0).trans rfl,(blk_cell BK10.out 0).trans rfl,HS3_,HS4_,HS5_,HS6_,HS7_⟩ (fun hHeld=>?_)
              clear hK K
              refine norm_ (a':=?_) ?_ ?_
              rotate_left
              ·show Act.put _ (some 11) _ = _
               simp only [Act.put,s1_,s2_,s3_,i64_w,i32_w]
               rfl
              exact norm_ (by simp only [putAll,Act.put,s1_,s2_,s3_]) (hCont (v25,gb28) _ ⟨hHeld,(rm_ HO26.out (fun _ hk=>⟨hk.1.1.2,⟨hk.1.2,hk.2⟩⟩)),(rr_ Z10.out),(rm_ Z11.out (fun _ hk=>⟨hk.2,⟨hk.1.1,hk.1.2⟩⟩)),(rm_ Z16.out (fun _ hk=>⟨hk.2,⟨hk.1.1,hk.1.2⟩⟩)),(rm_ Z21.out (fun _ hk=>⟨hk.2,⟨hk.1.1,hk.1.2⟩⟩)),(bb_ BK10.out),(bb_ BK15.out),(bb_ BK20.out),(bb_ BK28.out),(bb_ BK9.out),GW28.out,GE28.out,NB10_28.out,NB28_10.out,NB15_28.out,NB28_15.out,NB20_28.out,NB28_20.out,NB9_28.out,NB28_9.out,hb_⟩)
             ·skip
              refine box_step ?hg (N:=11) ?hd (cs:=#[.slice none 0 0]) (t:=28) ?hr ?_;(case hd=>rfl);(case hg=>rfl);(case hr=>first | (go_simp;done) | (go_simp;rfl))
              intro gb28 hg w87 hbox hb
              have HS3_:=(hb.cell (World.block_lt_of_cell? _ _ (hHeld.2.2.2.1))).trans (hHeld.2.2.2.1)
              have HS4_:=(hb.cell (World.block_lt_of_cell? _ _ (hHeld.2.2.2.2.1))).trans (hHeld.2.2.2.2.1)
              have HS5_:=(hb.cell (World.block_lt_of_cell? _ _ (hHeld.2.2.2.2.2.1))).trans (hHeld.2.2.2.2.2.1)
              have HS6_:=(hb.cell (World.block_lt_of_cell? _ _ (hHeld.2.2.2.2.2.2.1))).trans (hHeld.2.2.2.2.2.2.1)
              have HS7_:=(hb.cell (World.block_lt_of_cell? _ _ (hHeld.2.2.2.2.2.2.2))).trans (hHeld.2.2.2.2.2.2.2)
              have n0_:=rb_ Z10 hb
              have n1_:=rb_ Z11 hb
              have n2_:=rb_ Z16 hb
              have n3_:=rb_ Z21 hb
              have n4_:=kb_ BK9 hb
              have n5_:=kb_ BK10 hb
              have n6_:=kb_ BK15 hb
              have n7_:=kb_ BK20 hb
              have n8_:=a0_ (below_step hb_ hb)
              have n9_:=a0_ (hbox)
              have n10_:=a0_ ((by rw [hg];exact (below_size hb_) : w.heap.size ≤ gb28))
              have n11_:=a0_ ((by rw [hg];exact (below_size hb_) : w.heap.size ≤ gb28))
              have n12_:=a0_ ((by rw [hg];exact Nat.ne_of_lt (blk_lt (bb_ BK9.out)) : gb9 ≠ gb28))
              have n13_:=a0_ ((by rw [hg];exact Nat.ne_of_gt (blk_lt (bb_ BK9.out)) : gb28 ≠ gb9))
              have n14_:=a0_ ((by rw [hg];exact Nat.ne_of_lt (blk_lt (bb_ BK10.out)) : gb10 ≠ gb28))
              have n15_:=a0_ ((by rw [hg];exact Nat.ne_of_gt (blk_lt (bb_ BK10.out)) : gb28 ≠ gb10))
              have n16_:=a0_ ((by rw [hg];exact Nat.ne_of_lt (blk_lt (bb_ BK15.out)) : gb15 ≠ gb28))
              have n17_:=a0_ ((by rw [hg];exact Nat.ne_of_gt (blk_lt (bb_ BK15.out)) : gb28 ≠ gb15))
              have n18_:=a0_ ((by rw [hg];exact Nat.ne_of_lt (blk_lt (bb_ BK20.out)) : gb20 ≠ gb28))
              have n19_:=a0_ ((by rw [hg];exact Nat.ne_of_gt (blk_lt (bb_ BK20.out)) : gb28 ≠ gb20))
              clear Z10
              clear Z11
              clear Z16
              clear Z21
              clear BK9
              clear BK10
              clear BK15
              clear BK20
              clear HB
              have Z10:=n0_
              have Z11:=n1_
              have Z16:=n2_
              have Z21:=n3_
              have BK9:=n4_
              have BK10:=n5_
              have BK15:=n6_
              have BK20:=n7_
              have HB:=n8_
              have BK28:=n9_
              have GW28:=n10_
              have GE28:=n11_
              have NB9_28:=n12_
              have NB28_9:=n13_
              have NB10_28:=n14_
              have NB28_10:=n15_
              have NB15_28:=n16_
              have NB28_15:=n17_
              have NB20_28:=n18_
              have NB28_20:=n19_
              clear n0_ n1_ n2_ n3_ n4_ n5_ n6_ n7_ n8_ n9_ n10_ n11_ n12_ n13_ n14_ n15_ n16_ n17_ n18_ n19_
              clear hb hbox hg
              refine hK.out _ _ ⟨(blk_cell BK9.out 0).trans rfl,(blk_cell BK15.out 0).trans rfl,(blk_cell BK10.out 0).trans rfl,HS3_,HS4_,HS5_,HS6_,HS7_⟩ (fun hHeld=>?_)
              clear hK K
              refine norm_ (a':=?_) ?_ ?_
              rotate_left
              ·show Act.put _ (some 11) _ = _
               simp only [Act.put,s1_,s2_,s3_,i64_w,i32_w]
               rfl
              refine one_ (i:=9) (N:=some 72) #[true,true,true,true,true,true,true,true,true,true,false,false,false,true,false,false] rfl rfl (one_of HT_.out (by kernel_rfl)) (by decide) (fun K hK=>?_)
              refine goes_ Try.func21 (by kernel_rfl) rfl #[.agg #[.slice Ao10 t1.length co10],.agg #[.slice Ao17 t11.length co17],.int .i64 t7,.bool ((rd_T43 t4 t7).f4)] (by rfl) rfl rfl lm_ ?_
              with_reducible refine (impl_HideContext.calls _ _ t1 _ _ t11 t7 ((rd_T43 t4 t7).f4) t24 true _ ?side1 ?side2 ?side3 ?side4 A78.out).mono ?_
              (case side1=>exact cc_ (Kd.R_reads' Z10.out).2.2)
              (case side2=>exact (Kd.R_reads' Z10.out).2.1)
              (case side3=>exact cc_ (Kd.R_reads' Z16.out).2.2)
              (case side4=>exact (Kd.R_reads' Z16.out).2.1)
              rintro e w88 ⟨v25,rfl,ho0,hb⟩
              have HS3_:=(hb.cell (World.block_lt_of_cell? _ _ (hHeld.2.2.2.1))).trans (hHeld.2.2.2.1)
              have HS4_:=(hb.cell (World.block_lt_of_cell? _ _ (hHeld.2.2.2.2.1))).trans (hHeld.2.2.2.2.1)
              have HS5_:=(hb.cell (World.block_lt_of_cell? _ _ (hHeld.2.2.2.2.2.1))).trans (hHeld.2.2.2.2.2.1)
              have HS6_:=(hb.cell (World.block_lt_of_cell? _ _ (hHeld.2.2.2.2.2.2.1))).trans (hHeld.2.2.2.2.2.2.1)
              have HS7_:=(hb.cell (World.block_lt_of_cell? _ _ (hHeld.2.2.2.2.2.2.2))).trans (hHeld.2.2.2.2.2.2.2)
              refine ⟨_,rfl,?_⟩
              have n0_:=rb_ Z10 hb
              have n1_:=a0_ (Kd.R_elder' (rr_ Z11.out) (Kd.R_base ho0) hb)
              have n2_:=a0_ (Kd.R_elder' (rr_ Z16.out) (Kd.R_base ho0) hb)
              have n3_:=a0_ (Kd.R_elder' (rr_ Z21.out) (Kd.R_base ho0) hb)
              have n4_:=a0_ (Kd.R_lower (Kd.R_new' (Kd.R_new' (Kd.R_new' ho0 (Kd.R_lt (rr_ Z11.out))) (Kd.R_lt (rr_ Z16.out))) (Kd.R_lt (rr_ Z21.out))) (below_size hb_))
              have n5_:=kb_ BK9 hb
              have n6_:=kb_ BK10 hb
              have n7_:=kb_ BK15 hb
              have n8_:=kb_ BK20 hb
              have n9_:=kb_ BK28 hb
              have n10_:=a0_ (below_step hb_ hb)
              clear Z10
              clear Z11
              clear Z16
              clear Z21
              clear BK9
              clear BK10
              clear BK15
              clear BK20
              clear BK28
              clear HB
              have Z10:=n0_
              have Z11:=n1_
              have Z16:=n2_
              have Z21:=n3_
              have HO26:=n4_
              have BK9:=n5_
              have BK10:=n6_
              have BK15:=n7_
              have BK20:=n8_
              have BK28:=n9_
              have HB:=n10_
              clear n0_ n1_ n2_ n3_ n4_ n5_ n6_ n7_ n8_ n9_ n10_
              (try clear hb)
              (try clear hb2)
              (try clear hk)
              (try clear hi)
              (try clear ho0)
              refine hK.out _ _ ⟨(blk_cell BK9.out 0).trans rfl,(blk_cell BK15.out 0).trans rfl,(blk_cell BK10.out 0).trans rfl,HS3_,HS4_,HS5_,HS6_,HS7_⟩ (fun hHeld=>?_)
              clear hK K
              refine norm_ (a':=?_) ?_ ?_
              rotate_left
              ·show Act.put _ (some 72) _ = _
               simp only [Act.put,s1_,s2_,s3_,i64_w,i32_w]
               rfl
              refine pure_ (i:=10) (N:=some 62) (v:=?_) (a':=?_) #[true,true,true,true,true,true,true,true,true,true,true,false,false,true,false,false] rfl rfl (any_of HT_.out (by kernel_rfl)) (fun _ _ _ h=>h) (Or.inl ⟨by rfl,?_⟩) ?_ ?_
              rotate_left
              ·intro w'
               go_simp
               with_reducible rfl
              rotate_left
              ·simp only [Act.put,s1_,s2_,s3_,i64_w,i32_w]
               rfl
              refine pure_ (i:=11) (N:=some 73) (v:=?_) (a':=?_) #[true,true,true,true,true,true,true,true,true,true,true,true,false,true,false,false] rfl rfl (any_of HT_.out (by kernel_rfl)) (fun _ _ _ h=>h) (Or.inl ⟨by rfl,?_⟩) ?_ ?_
              rotate_left
              ·intro w'
               go_simp
               with_reducible rfl
              rotate_left
              ·simp only [Act.put,s1_,s2_,s3_,i64_w,i32_w]
               rfl
              refine pure_ (i:=12) (N:=some 74) (v:=?_) (a':=?_) #[true,true,true,true,true,true,true,true,true,true,true,true,true,true,false,false] rfl rfl (any_of HT_.out (by kernel_rfl)) (fun _ _ _ h=>h) (Or.inl ⟨by rfl,?_⟩) ?_ ?_
              rotate_left
              ·intro w'
               go_simp
               with_reducible rfl
              rotate_left
              ·simp only [Act.put,s1_,s2_,s3_,i64_w,i32_w]
               rfl
              exact norm_ (by simp only [putAll,Act.put,s1_,s2_,s3_]) (hCont (v25,gb28) _ ⟨hHeld,(rm_ HO26.out (fun _ hk=>⟨hk.1.1.2,⟨hk.1.2,hk.2⟩⟩)),(rr_ Z10.out),(rm_ Z11.out (fun _ hk=>⟨hk.2,⟨hk.1.1,hk.1.2⟩⟩)),(rm_ Z16.out (fun _ hk=>⟨hk.2,⟨hk.1.1,hk.1.2⟩⟩)),(rm_ Z21.out (fun _ hk=>⟨hk.2,⟨hk.1.1,hk.1.2⟩⟩)),(bb_ BK10.out),(bb_ BK15.out),(bb_ BK20.out),(bb_ BK28.out),(bb_ BK9.out),GW28.out,GE28.out,NB10_28.out,NB28_10.out,NB15_28.out,NB28_15.out,NB20_28.out,NB28_20.out,NB9_28.out,NB28_9.out,hb_⟩)
            rintro ⟨v25,gb28⟩ w89 ⟨hS_,h0_,h1_,h2_,h3_,h4_,h5_,h6_,h7_,h8_,h9_,h10_,h11_,h12_,h13_,h14_,h15_,h16_,h17_,h18_,h19_,h20_⟩
            have n0_ : Aside0 (Kd.R k43 43 w89 w.heap.size (fun k_=>some k_ ≠ (.slice (some ad23) t4.length co13 : Value).ownBlock ∧ some k_ ≠ (.slice Ao17 t11.length co17 : Value).ownBlock ∧ some k_ ≠ (.slice Ao25 t16.length co25 : Value).ownBlock) v25 t24):=⟨h0_⟩
            have n1_ : Aside0 (Kd.R k87 87 w89 w.heap.size (fun _=>True) (.slice Ao10 t1.length co10) t1):=⟨h1_⟩
            have n2_ : Aside0 (Kd.R k43 43 w89 w.heap.size (fun k_=>some k_ ≠ (v25 : Value).ownBlock ∧ some k_ ≠ (.slice Ao17 t11.length co17 : Value).ownBlock ∧ some k_ ≠ (.slice Ao25 t16.length co25 : Value).ownBlock) (.slice (some ad23) t4.length co13) t4):=⟨h2_⟩
            have n3_ : Aside0 (Kd.R k43 43 w89 w.heap.size (fun k_=>some k_ ≠ (v25 : Value).ownBlock ∧ some k_ ≠ (.slice (some ad23) t4.length co13 : Value).ownBlock ∧ some k_ ≠ (.slice Ao25 t16.length co25 : Value).ownBlock) (.slice Ao17 t11.length co17) t11):=⟨h3_⟩
            have n4_ : Aside0 (Kd.R k43 43 w89 w.heap.size (fun k_=>some k_ ≠ (v25 : Value).ownBlock ∧ some k_ ≠ (.slice (some ad23) t4.length co13 : Value).ownBlock ∧ some k_ ≠ (.slice Ao17 t11.length co17 : Value).ownBlock) (.slice Ao25 t16.length co25) t16):=⟨h4_⟩
            have n5_ : Aside0 (w89.heap[gb10]? = some (.cells #[.slice (some ad23) t4.length co13] 28 (0,0))):=⟨h5_⟩
            have n6_ : Aside0 (w89.heap[gb15]? = some (.cells #[.slice Ao17 t11.length co17] 28 (0,0))):=⟨h6_⟩
            have n7_ : Aside0 (w89.heap[gb20]? = some (.cells #[.slice Ao25 t16.length co25] 28 (0,0))):=⟨h7_⟩
            have n8_ : Aside0 (w89.heap[gb28]? = some (.cells #[.slice none 0 0] 28 (0,0))):=⟨h8_⟩
            have n9_ : Aside0 (w89.heap[gb9]? = some (.cells #[.slice Ao10 t1.length co10] 25 (0,0))):=⟨h9_⟩
            have n10_ : Aside0 (w.heap.size ≤ gb28):=⟨h10_⟩
            have n11_ : Aside0 (w.heap.size ≤ gb28):=⟨h11_⟩
            have n12_ : Aside0 (gb10 ≠ gb28):=⟨h12_⟩
            have n13_ : Aside0 (gb28 ≠ gb10):=⟨h13_⟩
            have n14_ : Aside0 (gb15 ≠ gb28):=⟨h14_⟩
            have n15_ : Aside0 (gb28 ≠ gb15):=⟨h15_⟩
            have n16_ : Aside0 (gb20 ≠ gb28):=⟨h16_⟩
            have n17_ : Aside0 (gb28 ≠ gb20):=⟨h17_⟩
            have n18_ : Aside0 (gb9 ≠ gb28):=⟨h18_⟩
            have n19_ : Aside0 (gb28 ≠ gb9):=⟨h19_⟩
            have n20_ : Aside0 (Below w.heap.size w w89):=⟨h20_⟩
            clear Z10
            clear Z11
            clear Z16
            clear Z21
            clear BK9
            clear BK10
            clear BK15
            clear BK20
            clear HB
            clear h0_ h1_ h2_ h3_ h4_ h5_ h6_ h7_ h8_ h9_ h10_ h11_ h12_ h13_ h14_ h15_ h16_ h17_ h18_ h19_ h20_
            have HO26:=n0_
            have Z10:=n1_
            have Z11:=n2_
            have Z16:=n3_
            have Z21:=n4_
            have BK10:=n5_
            have BK15:=n6_
            have BK20:=n7_
            have BK28:=n8_
            have BK9:=n9_
            have GW28:=n10_
            have GE28:=n11_
            have NB10_28:=n12_
            have NB28_10:=n13_
            have NB15_28:=n14_
            have NB28_15:=n15_
            have NB20_28:=n16_
            have NB28_20:=n17_
            have NB9_28:=n18_
            have NB28_9:=n19_
            have HB:=n20_
            clear n0_ n1_ n2_ n3_ n4_ n5_ n6_ n7_ n8_ n9_ n10_ n11_ n12_ n13_ n14_ n15_ n16_ n17_ n18_ n19_ n20_
            have hHeld : w89.cell? ⟨gb9,0,none⟩ = some (.slice Ao10 t1.length co10) ∧ w89.cell? ⟨gb15,0,none⟩ = some (.slice Ao17 t11.length co17) ∧ w89.cell? ⟨gb10,0,none⟩ = some (.slice (some ad23) t4.length co13) ∧ w89.cell? (ad23.add ((t7).toNat * 5)) = some (.int .i64 ((rd_T43 t4 t7).f0)) ∧ w89.cell? ⟨(ad23.add ((t7).toNat * 5)).block,(ad23.add ((t7).toNat * 5)).off + 1,none⟩ = some (.int .i64 ((rd_T43 t4 t7).f1)) ∧ w89.cell? ⟨(ad23.add ((t7).toNat * 5)).block,(ad23.add ((t7).toNat * 5)).off + 2,none⟩ = some (.int .i64 ((rd_T43 t4 t7).f2)) ∧ w89.cell? ⟨(ad23.add ((t7).toNat * 5)).block,(ad23.add ((t7).toNat * 5)).off + 3,none⟩ = some (.int .i64 ((rd_T43 t4 t7).f3)) ∧ w89.cell? ⟨(ad23.add ((t7).toNat * 5)).block,(ad23.add ((t7).toNat * 5)).off + 4,none⟩ = some (.bool ((rd_T43 t4 t7).f4)):=hS_
            obtain ⟨Ao90,co90,eo90⟩:=Kd.R_slice HO26.out
            (first | subst eo90 | (injection eo90 with f1_ f2_ f3_;have f4_:=f1_.symm;have f5_:=f3_.symm;clear f1_ f2_ f3_;subst f4_;subst f5_))
            refine norm_ (a':=?_) ?_ ?_
            rotate_left
            ·simp only [putAll,Act.put,s1_,s2_,s3_]
             rfl
            refine one_ (i:=14) (N:=none) #[true,true,true,true,true,true,true,true,true,true,true,true,true,true,true,false] rfl rfl (one_of HT_.out (by kernel_rfl)) (by decide) (fun K hK=>?_)
            have hs91 : w89.cell? ⟨gb28,0,none⟩ = some (.slice none 0 0):=(blk_cell BK28.out 0).trans rfl
            have hfs91:=blk_frozen BK28.out 0
            have hns91_0:=NB9_28.out
            have hns91_1:=NB10_28.out
            have hns91_2:=NB15_28.out
            have hns91_3:=NB20_28.out
            have hms91_0:=NB28_9.out
            have hms91_1:=NB28_10.out
            have hms91_2:=NB28_15.out
            have hms91_3:=NB28_20.out
            refine skip_ (w1:=?_) (by rfl) rfl ?_ ?_
            rotate_left
            ·go_simp
             rfl
            refine hK.out _ _ ⟨((cell_far (p:=⟨gb28,_,none⟩) NB9_28.out _).trans (hHeld.1)),((cell_far (p:=⟨gb28,_,none⟩) NB15_28.out _).trans (hHeld.2.1)),((cell_far (p:=⟨gb28,_,none⟩) NB10_28.out _).trans (hHeld.2.2.1)),((cell_far (p:=⟨gb28,_,none⟩) (by first | exact Kd.own_blk (Kd.R_ne Z11.out BK28.out (by decide)) | (rw [add_block];exact Kd.own_blk (Kd.R_ne Z11.out BK28.out (by decide))) | (show (Addr.add _ _).block ≠ _;rw [add_block];exact Kd.own_blk (Kd.R_ne Z11.out BK28.out (by decide))) | (dsimp only;exact Kd.own_blk (Kd.R_ne Z11.out BK28.out (by decide)))) _).trans (hHeld.2.2.2.1)),((cell_far (p:=⟨gb28,_,none⟩) (by first | exact Kd.own_blk (Kd.R_ne Z11.out BK28.out (by decide)) | (rw [add_block];exact Kd.own_blk (Kd.R_ne Z11.out BK28.out (by decide))) | (show (Addr.add _ _).block ≠ _;rw [add_block];exact Kd.own_blk (Kd.R_ne Z11.out BK28.out (by decide))) | (dsimp only;exact Kd.own_blk (Kd.R_ne Z11.out BK28.out (by decide)))) _).trans (hHeld.2.2.2.2.1)),((cell_far (p:=⟨gb28,_,none⟩) (by first | exact Kd.own_blk (Kd.R_ne Z11.out BK28.out (by decide)) | (rw [add_block];exact Kd.own_blk (Kd.R_ne Z11.out BK28.out (by decide))) | (show (Addr.add _ _).block ≠ _;rw [add_block];exact Kd.own_blk (Kd.R_ne Z11.out BK28.out (by decide))) | (dsimp only;exact Kd.own_blk (Kd.R_ne Z11.out BK28.out (by decide)))) _).trans (hHeld.2.2.2.2.2.1)),((cell_far (p:=⟨gb28,_,none⟩) (by first | exact Kd.own_blk (Kd.R_ne Z11.out BK28.out (by decide)) | (rw [add_block];exact Kd.own_blk (Kd.R_ne Z11.out BK28.out (by decide))) | (show (Addr.add _ _).block ≠ _;rw [add_block];exact Kd.own_blk (Kd.R_ne Z11.out BK28.out (by decide))) | (dsimp only;exact Kd.own_blk (Kd.R_ne Z11.out BK28.out (by decide)))) _).trans (hHeld.2.2.2.2.2.2.1)),((cell_far (p:=⟨gb28,_,none⟩) (by first | exact Kd.own_blk (Kd.R_ne Z11.out BK28.out (by decide)) | (rw [add_block];exact Kd.own_blk (Kd.R_ne Z11.out BK28.out (by decide))) | (show (Addr.add _ _).block ≠ _;rw [add_block];exact Kd.own_blk (Kd.R_ne Z11.out BK28.out (by decide))) | (dsimp only;exact Kd.own_blk (Kd.R_ne Z11.out BK28.out (by decide)))) _).trans (hHeld.2.2.2.2.2.2.2))⟩ (fun hHeld=>?_)
            clear hK K
            refine pure_ (i:=15) (N:=some 12) (v:=?_) (a':=?_) #[true,true,true,true,true,true,true,true,true,true,true,true,true,true,true,true] rfl rfl (any_of HT_.out (by kernel_rfl)) (fun _ _ _ h=>h) (Or.inl ⟨by rfl,?_⟩) ?_ ?_
            rotate_left
            ·intro w'
             go_simp
             with_reducible rfl
            rotate_left
            ·simp only [Act.put,s1_,s2_,s3_,i64_w,i32_w]
             rfl
            refine done_ (done_of HT_.out (by kernel_rfl)) ?_
            have hnb92:=NB15_9.out
            have hnc92:=NB9_15.out
            have hnb93:=NB15_10.out
            have hnc93:=NB10_15.out
            have hnb94:=NB15_20.out
            have hnc94:=NB20_15.out
            have hnb95:=NB15_28.out
            have hnc95:=NB28_15.out
            have hcz96_0 : w89.cell? ⟨gb15,0,none⟩ = some (.slice Ao17 t11.length co17):=(blk_cell BK15.out 0).trans rfl
            have hfz96_0:=blk_frozen BK15.out 0
            have p29 : 0 ≤ (t7 : Int):=of_decide_eq_true (by first | (with_reducible assumption) | assumption)
            have q29 : t7 < (t11.length : Int):=of_decide_eq_true (by first | (with_reducible assumption) | assumption)
            obtain ⟨ad29,e29,hx29_0,hx29_1,hx29_2,hx29_3,hx29_4⟩:=at_T43 (Kd.R_reads' Z16.out).2.2 t7 p29 q29
            cases e29
            have hn29_0 : ad29.block ≠ gb28:=Kd.own_blk (Kd.R_ne Z16.out BK28.out (by decide))
            replace hx29_0:=(cell_far (p:=⟨gb28,0,none⟩) (by first | (rw [add_block];exact hn29_0) | (show (Addr.add _ _).block ≠ _;rw [add_block];exact hn29_0) | exact hn29_0) (.slice Ao90 t24.length co90)).trans hx29_0
            replace hx29_1:=(cell_far (p:=⟨gb28,0,none⟩) (by first | (rw [add_block];exact hn29_0) | (show (Addr.add _ _).block ≠ _;rw [add_block];exact hn29_0) | exact hn29_0) (.slice Ao90 t24.length co90)).trans hx29_1
            replace hx29_2:=(cell_far (p:=⟨gb28,0,none⟩) (by first | (rw [add_block];exact hn29_0) | (show (Addr.add _ _).block ≠ _;rw [add_block];exact hn29_0) | exact hn29_0) (.slice Ao90 t24.length co90)).trans hx29_2
            replace hx29_3:=(cell_far (p:=⟨gb28,0,none⟩) (by first | (rw [add_block];exact hn29_0) | (show (Addr.add _ _).block ≠ _;rw [add_block];exact hn29_0) | exact hn29_0) (.slice Ao90 t24.length co90)).trans hx29_3
            replace hx29_4:=(cell_far (p:=⟨gb28,0,none⟩) (by first | (rw [add_block];exact hn29_0) | (show (Addr.add _ _).block ≠ _;rw [add_block];exact hn29_0) | exact hn29_0) (.slice Ao90 t24.length co90)).trans hx29_4
            clear hn29_0
            replace p29:=eq_true p29
            replace q29:=eq_true q29
            try go_wp2_with (first | ((with_reducible refine gate_dst (N:=13) rfl ?_);refine box_event ?hg (N:=13) ?hd (cs:=#[.int .i64 0,.int .i64 0,.int .i64 0,.int .i64 0,.bool false]) (t:=43) ?hr ?_;(case hd=>rfl);(case hg=>rfl);(case hr=>first | (go_simp;done) | (go_simp;rfl));intro gb30 hg w97 hbox hb;have n0_:=a0_ (Kd.R_below (by (with_reducible repeat (first | apply Kd.R_alloc | apply Kd.R_drewN | apply Kd.R_drew));exact (Kd.R_mono (Kd.R_far (p:=⟨gb28,0,none⟩) (Kd.R_types Z10.out BK28.out (by decide)) (fun _ hk=>hk.2) (.slice Ao90 t24.length co90)) (fun _ h_=>h_.1))) hb);have n1_:=a0_ (Kd.R_below (Kd.R_elderB (by (with_reducible repeat (first | apply Kd.R_alloc | apply Kd.R_drewN | apply Kd.R_drew));exact (Kd.R_mono (Kd.R_far (p:=⟨gb28,0,none⟩) (Kd.R_types Z11.out BK28.out (by decide)) (fun _ hk=>hk.2) (.slice Ao90 t24.length co90)) (fun _ h_=>h_.1))) gb30 (Nat.le_of_eq hg.symm)) hb);have n2_:=a0_ (Kd.R_below (Kd.R_elderB (by (with_reducible repeat (first | apply Kd.R_alloc | apply Kd.R_drewN | apply Kd.R_drew));exact (Kd.R_mono (Kd.R_far (p:=⟨gb28,0,none⟩) (Kd.R_types Z16.out BK28.out (by decide)) (fun _ hk=>hk.2) (.slice Ao90 t24.length co90)) (fun _ h_=>h_.1))) gb30 (Nat.le_of_eq hg.symm)) hb);have n3_:=a0_ (Kd.R_below (Kd.R_elderB (by (with_reducible repeat (first | apply Kd.R_alloc | apply Kd.R_drewN | apply Kd.R_drew));exact (Kd.R_mono (Kd.R_far (p:=⟨gb28,0,none⟩) (Kd.R_types Z21.out BK28.out (by decide)) (fun _ hk=>hk.2) (.slice Ao90 t24.length co90)) (fun _ h_=>h_.1))) gb30 (Nat.le_of_eq hg.symm)) hb);have n4_:=a0_ (Kd.R_below (Kd.R_elderB (by (with_reducible repeat (first | apply Kd.R_alloc | apply Kd.R_drewN | apply Kd.R_drew));exact (Kd.R_mono (Kd.R_far (p:=⟨gb28,0,none⟩) (Kd.R_types HO26.out BK28.out (by decide)) (fun _ hk=>hk.2) (.slice Ao90 t24.length co90)) (fun _ h_=>h_.1))) gb30 (Nat.le_of_eq hg.symm)) hb);have n5_:=kf_ BK9 NB9_28 hb;have n6_:=kf_ BK10 NB10_28 hb;have n7_:=kf_ BK15 NB15_28 hb;have n8_:=kf_ BK20 NB20_28 hb;have n9_:=a0_ (blk_below (g:=gb28) (o:=.cells #[.slice Ao90 t24.length co90] 28 (0,0)) (by (with_reducible repeat (first | refine blk_drewN ?_ _ | refine blk_drew ?_ | refine blk_alloc ?_ _));refine blk_put (cs:=#[.slice none 0 0]) ?_ 0 _ rfl;(with_reducible repeat (first | refine blk_drewN ?_ _ | refine blk_drew ?_ | refine blk_alloc ?_ _));exact BK28.out) hb);have n10_:=a0_ (below_step hb_ hb);have n11_:=a0_ (hbox);have n12_:=a0_ ((by rw [hg];exact (below_size hb_) : w.heap.size ≤ gb30));have n13_:=a0_ ((by rw [hg];exact (below_size hb_) : w.heap.size ≤ gb30));have n14_:=a0_ ((by rw [hg];exact Nat.ne_of_lt (blk_lt (g:=gb9) (o:=.cells #[.slice Ao10 t1.length co10] 25 (0,0)) (bff_ BK9.out)) : gb9 ≠ gb30));have n15_:=a0_ ((by rw [hg];exact Nat.ne_of_gt (blk_lt (g:=gb9) (o:=.cells #[.slice Ao10 t1.length co10] 25 (0,0)) (bff_ BK9.out)) : gb30 ≠ gb9));have n16_:=a0_ ((by rw [hg];exact Nat.ne_of_lt (blk_lt (g:=gb10) (o:=.cells #[.slice (some ad23) t4.length co13] 28 (0,0)) (bff_ BK10.out)) : gb10 ≠ gb30));have n17_:=a0_ ((by rw [hg];exact Nat.ne_of_gt (blk_lt (g:=gb10) (o:=.cells #[.slice (some ad23) t4.length co13] 28 (0,0)) (bff_ BK10.out)) : gb30 ≠ gb10));have n18_:=a0_ ((by rw [hg];exact Nat.ne_of_lt (blk_lt (g:=gb15) (o:=.cells #[.slice (some ad29) t11.length co17] 28 (0,0)) (bff_ BK15.out)) : gb15 ≠ gb30));have n19_:=a0_ ((by rw [hg];exact Nat.ne_of_gt (blk_lt (g:=gb15) (o:=.cells #[.slice (some ad29) t11.length co17] 28 (0,0)) (bff_ BK15.out)) : gb30 ≠ gb15));have n20_:=a0_ ((by rw [hg];exact Nat.ne_of_lt (blk_lt (g:=gb20) (o:=.cells #[.slice Ao25 t16.length co25] 28 (0,0)) (bff_ BK20.out)) : gb20 ≠ gb30));have n21_:=a0_ ((by rw [hg];exact Nat.ne_of_gt (blk_lt (g:=gb20) (o:=.cells #[.slice Ao25 t16.length co25] 28 (0,0)) (bff_ BK20.out)) : gb30 ≠ gb20));have n22_:=a0_ ((by rw [hg];exact Nat.ne_of_lt (blk_lt (g:=gb28) (o:=.cells #[.slice Ao90 t24.length co90] 28 (0,0)) (by (with_reducible repeat (first | refine blk_drewN ?_ _ | refine blk_drew ?_ | refine blk_alloc ?_ _));refine blk_put (cs:=#[.slice none 0 0]) ?_ 0 _ rfl;(with_reducible repeat (first | refine blk_drewN ?_ _ | refine blk_drew ?_ | refine blk_alloc ?_ _));exact BK28.out)) : gb28 ≠ gb30));have n23_:=a0_ ((by rw [hg];exact Nat.ne_of_gt (blk_lt (g:=gb28) (o:=.cells #[.slice Ao90 t24.length co90] 28 (0,0)) (by (with_reducible repeat (first | refine blk_drewN ?_ _ | refine blk_drew ?_ | refine blk_alloc ?_ _));refine blk_put (cs:=#[.slice none 0 0]) ?_ 0 _ rfl;(with_reducible repeat (first | refine blk_drewN ?_ _ | refine blk_drew ?_ | refine blk_alloc ?_ _));exact BK28.out)) : gb30 ≠ gb28));clear Z10 Z11;clear Z16 Z21;clear HO26 BK9;clear BK10 BK15;clear BK20 BK28 HB;have Z10:=n0_;have Z11:=n1_;have Z16:=n2_;have Z21:=n3_;have HO26:=n4_;have BK9:=n5_;have BK10:=n6_;have BK15:=n7_;have BK20:=n8_;have BK28:=n9_;have HB:=n10_;have BK30:=n11_;have GW30:=n12_;have GE30:=n13_;have NB9_30:=n14_;have NB30_9:=n15_;have NB10_30:=n16_;have NB30_10:=n17_;have NB15_30:=n18_;have NB30_15:=n19_;have NB20_30:=n20_;have NB30_20:=n21_;have NB28_30:=n22_;have NB30_28:=n23_;clear n0_ n1_ n2_ n3_ n4_ n5_ n6_ n7_ n8_ n9_ n10_ n11_ n12_ n13_ n14_ n15_ n16_ n17_ n18_ n19_ n20_ n21_ n22_ n23_;clear hb hbox hg;have hnb98:=NB30_9.out;have hnc98:=NB9_30.out;have hnb99:=NB30_10.out;have hnc99:=NB10_30.out;have hnb100:=NB30_15.out;have hnc100:=NB15_30.out;have hnb101:=NB30_20.out;have hnc101:=NB20_30.out;have hnb102:=NB30_28.out;have hnc102:=NB28_30.out;have hcz103_0 : w97.cell? ⟨gb30,0,none⟩ = some (.int .i64 0):=(blk_cell BK30.out 0).trans rfl;have hcz103_1 : w97.cell? ⟨gb30,1,none⟩ = some (.int .i64 0):=(blk_cell BK30.out 1).trans rfl;have hcz103_2 : w97.cell? ⟨gb30,2,none⟩ = some (.int .i64 0):=(blk_cell BK30.out 2).trans rfl;have hcz103_3 : w97.cell? ⟨gb30,3,none⟩ = some (.int .i64 0):=(blk_cell BK30.out 3).trans rfl;have hcz103_4 : w97.cell? ⟨gb30,4,none⟩ = some (.bool false):=(blk_cell BK30.out 4).trans rfl;have hfz103_0:=blk_frozen BK30.out 0;have hfz103_1:=blk_frozen BK30.out 1;have hfz103_2:=blk_frozen BK30.out 2;have hfz103_3:=blk_frozen BK30.out 3;have hfz103_4:=blk_frozen BK30.out 4;have hnb104:=NB9_10.out;have hnc104:=NB10_9.out;have hnb105:=NB9_20.out;have hnc105:=NB20_9.out;have hnb106:=NB9_28.out;have hnc106:=NB28_9.out;have hcz107_0 : w97.cell? ⟨gb9,0,none⟩ = some (.slice Ao10 t1.length co10):=(blk_cell BK9.out 0).trans rfl;have hfz107_0:=blk_frozen BK9.out 0;have hcz108_0 : w97.cell? ⟨gb15,0,none⟩ = some (.slice (some ad29) t11.length co17):=(blk_cell BK15.out 0).trans rfl;have hfz108_0:=blk_frozen BK15.out 0) | ((with_reducible refine gate_callee (f:=14) rfl ?_);refine goesL_ (some 83) rfl rfl Try.func14 (by kernel_rfl) rfl #[.agg #[.slice Ao10 t1.length co10],.agg #[.slice (some ad29) t11.length co17],.int .i64 t7] rfl lm_ ?_;(with_reducible refine (impl_ShownNext.calls _ _ t1 _ _ t11 t7 t31 _ ?side1 ?side2 ?side3 ?side4 A80.out).mono ?_);(case side1=>refine (Kd.R_reads' (e:=87) (base:=w.heap.size) (ok:=fun k_=>True) (n:=t1.length) (c:=co10) ?_).2.2;exact (by (with_reducible repeat (first | apply Kd.R_alloc | apply Kd.R_drewN | apply Kd.R_drew));exact (Kd.R_mono (Kd.R_far (p:=⟨gb30,4,none⟩) (Kd.R_far (p:=⟨gb30,3,none⟩) (Kd.R_far (p:=⟨gb30,2,none⟩) (Kd.R_far (p:=⟨gb30,1,none⟩) (Kd.R_far (p:=⟨gb30,0,none⟩) (Kd.R_types Z10.out BK30.out (by decide)) (fun _ hk=>hk.2) (.int .i64 ((rd_T43 t11 t7).f0))) (fun _ hk=>hk.2) (.int .i64 ((rd_T43 t11 t7).f1))) (fun _ hk=>hk.2) (.int .i64 ((rd_T43 t11 t7).f2))) (fun _ hk=>hk.2) (.int .i64 ((rd_T43 t11 t7).f3))) (fun _ hk=>hk.2) (.bool ((rd_T43 t11 t7).f4))) (fun _ h_=>h_.1))));(case side2=>exact (Kd.R_reads' Z10.out).2.1);(case side3=>refine (Kd.R_reads' (e:=43) (base:=w.heap.size) (ok:=fun k_=>((some k_ ≠ (.slice Ao90 t24.length co90 : Value).ownBlock ∧ (some k_ ≠ (.slice (some ad23) t4.length co13 : Value).ownBlock ∧ some k_ ≠ (.slice Ao25 t16.length co25 : Value).ownBlock)) ∧ k_ ≠ gb30)) (n:=t11.length) (c:=co17) ?_).2.2;exact (by (with_reducible repeat (first | apply Kd.R_alloc | apply Kd.R_drewN | apply Kd.R_drew));exact (Kd.R_mono (Kd.R_far (p:=⟨gb30,4,none⟩) (Kd.R_far (p:=⟨gb30,3,none⟩) (Kd.R_far (p:=⟨gb30,2,none⟩) (Kd.R_far (p:=⟨gb30,1,none⟩) (Kd.R_far (p:=⟨gb30,0,none⟩) (Kd.R_mono Z16.out (fun k_ hk=>(⟨hk,hk.2⟩ : _ ∧ k_ ≠ gb30))) (fun _ hk=>hk.2) (.int .i64 ((rd_T43 t11 t7).f0))) (fun _ hk=>hk.2) (.int .i64 ((rd_T43 t11 t7).f1))) (fun _ hk=>hk.2) (.int .i64 ((rd_T43 t11 t7).f2))) (fun _ hk=>hk.2) (.int .i64 ((rd_T43 t11 t7).f3))) (fun _ hk=>hk.2) (.bool ((rd_T43 t11 t7).f4))) (fun _ h_=>h_.1))));(case side4=>exact (Kd.R_reads' Z16.out).2.1);rintro e w109 ⟨rfl,hb⟩;refine ⟨_,rfl,?_⟩;replace Z10:=a0_ (Kd.R_below (by (with_reducible repeat (first | apply Kd.R_alloc | apply Kd.R_drewN | apply Kd.R_drew));exact (Kd.R_mono (Kd.R_far (p:=⟨gb30,4,none⟩) (Kd.R_far (p:=⟨gb30,3,none⟩) (Kd.R_far (p:=⟨gb30,2,none⟩) (Kd.R_far (p:=⟨gb30,1,none⟩) (Kd.R_far (p:=⟨gb30,0,none⟩) (Kd.R_types Z10.out BK30.out (by decide)) (fun _ hk=>hk.2) (.int .i64 ((rd_T43 t11 t7).f0))) (fun _ hk=>hk.2) (.int .i64 ((rd_T43 t11 t7).f1))) (fun _ hk=>hk.2) (.int .i64 ((rd_T43 t11 t7).f2))) (fun _ hk=>hk.2) (.int .i64 ((rd_T43 t11 t7).f3))) (fun _ hk=>hk.2) (.bool ((rd_T43 t11 t7).f4))) (fun _ h_=>h_.1))) hb);replace Z11:=a0_ (Kd.R_below (by (with_reducible repeat (first | apply Kd.R_alloc | apply Kd.R_drewN | apply Kd.R_drew));exact (Kd.R_mono (Kd.R_far (p:=⟨gb30,4,none⟩) (Kd.R_far (p:=⟨gb30,3,none⟩) (Kd.R_far (p:=⟨gb30,2,none⟩) (Kd.R_far (p:=⟨gb30,1,none⟩) (Kd.R_far (p:=⟨gb30,0,none⟩) (Kd.R_mono Z11.out (fun k_ hk=>(⟨hk,hk.2⟩ : _ ∧ k_ ≠ gb30))) (fun _ hk=>hk.2) (.int .i64 ((rd_T43 t11 t7).f0))) (fun _ hk=>hk.2) (.int .i64 ((rd_T43 t11 t7).f1))) (fun _ hk=>hk.2) (.int .i64 ((rd_T43 t11 t7).f2))) (fun _ hk=>hk.2) (.int .i64 ((rd_T43 t11 t7).f3))) (fun _ hk=>hk.2) (.bool ((rd_T43 t11 t7).f4))) (fun _ h_=>h_.1))) hb);replace Z16:=a0_ (Kd.R_below (by (with_reducible repeat (first | apply Kd.R_alloc | apply Kd.R_drewN | apply Kd.R_drew));exact (Kd.R_mono (Kd.R_far (p:=⟨gb30,4,none⟩) (Kd.R_far (p:=⟨gb30,3,none⟩) (Kd.R_far (p:=⟨gb30,2,none⟩) (Kd.R_far (p:=⟨gb30,1,none⟩) (Kd.R_far (p:=⟨gb30,0,none⟩) (Kd.R_mono Z16.out (fun k_ hk=>(⟨hk,hk.2⟩ : _ ∧ k_ ≠ gb30))) (fun _ hk=>hk.2) (.int .i64 ((rd_T43 t11 t7).f0))) (fun _ hk=>hk.2) (.int .i64 ((rd_T43 t11 t7).f1))) (fun _ hk=>hk.2) (.int .i64 ((rd_T43 t11 t7).f2))) (fun _ hk=>hk.2) (.int .i64 ((rd_T43 t11 t7).f3))) (fun _ hk=>hk.2) (.bool ((rd_T43 t11 t7).f4))) (fun _ h_=>h_.1))) hb);replace Z21:=a0_ (Kd.R_below (by (with_reducible repeat (first | apply Kd.R_alloc | apply Kd.R_drewN | apply Kd.R_drew));exact (Kd.R_mono (Kd.R_far (p:=⟨gb30,4,none⟩) (Kd.R_far (p:=⟨gb30,3,none⟩) (Kd.R_far (p:=⟨gb30,2,none⟩) (Kd.R_far (p:=⟨gb30,1,none⟩) (Kd.R_far (p:=⟨gb30,0,none⟩) (Kd.R_mono Z21.out (fun k_ hk=>(⟨hk,hk.2⟩ : _ ∧ k_ ≠ gb30))) (fun _ hk=>hk.2) (.int .i64 ((rd_T43 t11 t7).f0))) (fun _ hk=>hk.2) (.int .i64 ((rd_T43 t11 t7).f1))) (fun _ hk=>hk.2) (.int .i64 ((rd_T43 t11 t7).f2))) (fun _ hk=>hk.2) (.int .i64 ((rd_T43 t11 t7).f3))) (fun _ hk=>hk.2) (.bool ((rd_T43 t11 t7).f4))) (fun _ h_=>h_.1))) hb);replace HO26:=a0_ (Kd.R_below (by (with_reducible repeat (first | apply Kd.R_alloc | apply Kd.R_drewN | apply Kd.R_drew));exact (Kd.R_mono (Kd.R_far (p:=⟨gb30,4,none⟩) (Kd.R_far (p:=⟨gb30,3,none⟩) (Kd.R_far (p:=⟨gb30,2,none⟩) (Kd.R_far (p:=⟨gb30,1,none⟩) (Kd.R_far (p:=⟨gb30,0,none⟩) (Kd.R_mono HO26.out (fun k_ hk=>(⟨hk,hk.2⟩ : _ ∧ k_ ≠ gb30))) (fun _ hk=>hk.2) (.int .i64 ((rd_T43 t11 t7).f0))) (fun _ hk=>hk.2) (.int .i64 ((rd_T43 t11 t7).f1))) (fun _ hk=>hk.2) (.int .i64 ((rd_T43 t11 t7).f2))) (fun _ hk=>hk.2) (.int .i64 ((rd_T43 t11 t7).f3))) (fun _ hk=>hk.2) (.bool ((rd_T43 t11 t7).f4))) (fun _ h_=>h_.1))) hb);replace BK9:=a0_ (blk_below (g:=gb9) (o:=.cells #[.slice Ao10 t1.length co10] 25 (0,0)) (bff_ BK9.out) hb);replace BK10:=a0_ (blk_below (g:=gb10) (o:=.cells #[.slice (some ad23) t4.length co13] 28 (0,0)) (bff_ BK10.out) hb);replace BK15:=a0_ (blk_below (g:=gb15) (o:=.cells #[.slice (some ad29) t11.length co17] 28 (0,0)) (bff_ BK15.out) hb);replace BK20:=a0_ (blk_below (g:=gb20) (o:=.cells #[.slice Ao25 t16.length co25] 28 (0,0)) (bff_ BK20.out) hb);replace BK28:=a0_ (blk_below (g:=gb28) (o:=.cells #[.slice Ao90 t24.length co90] 28 (0,0)) (bff_ BK28.out) hb);replace BK30:=a0_ (blk_below (g:=gb30) (o:=.cells #[.int .i64 ((rd_T43 t11 t7).f0),.int .i64 ((rd_T43 t11 t7).f1),.int .i64 ((rd_T43 t11 t7).f2),.int .i64 ((rd_T43 t11 t7).f3),.bool ((rd_T43 t11 t7).f4)] 43 (0,0)) (by (with_reducible repeat (first | refine blk_drewN ?_ _ | refine blk_drew ?_ | refine blk_alloc ?_ _));refine blk_put (cs:=#[.int .i64 ((rd_T43 t11 t7).f0),.int .i64 ((rd_T43 t11 t7).f1),.int .i64 ((rd_T43 t11 t7).f2),.int .i64 ((rd_T43 t11 t7).f3),.bool false]) ?_ 4 _ rfl;(with_reducible repeat (first | refine blk_drewN ?_ _ | refine blk_drew ?_ | refine blk_alloc ?_ _));refine blk_put (cs:=#[.int .i64 ((rd_T43 t11 t7).f0),.int .i64 ((rd_T43 t11 t7).f1),.int .i64 ((rd_T43 t11 t7).f2),.int .i64 0,.bool false]) ?_ 3 _ rfl;(with_reducible repeat (first | refine blk_drewN ?_ _ | refine blk_drew ?_ | refine blk_alloc ?_ _));refine blk_put (cs:=#[.int .i64 ((rd_T43 t11 t7).f0),.int .i64 ((rd_T43 t11 t7).f1),.int .i64 0,.int .i64 0,.bool false]) ?_ 2 _ rfl;(with_reducible repeat (first | refine blk_drewN ?_ _ | refine blk_drew ?_ | refine blk_alloc ?_ _));refine blk_put (cs:=#[.int .i64 ((rd_T43 t11 t7).f0),.int .i64 0,.int .i64 0,.int .i64 0,.bool false]) ?_ 1 _ rfl;(with_reducible repeat (first | refine blk_drewN ?_ _ | refine blk_drew ?_ | refine blk_alloc ?_ _));refine blk_put (cs:=#[.int .i64 0,.int .i64 0,.int .i64 0,.int .i64 0,.bool false]) ?_ 0 _ rfl;(with_reducible repeat (first | refine blk_drewN ?_ _ | refine blk_drew ?_ | refine blk_alloc ?_ _));exact BK30.out) hb);replace HB:=a0_ (below_step hb_ hb);(try clear hb);have hnb110:=NB28_10.out;have hnc110:=NB10_28.out;have hnb111:=NB28_20.out;have hnc111:=NB20_28.out;have hcz112_0 : w109.cell? ⟨gb28,0,none⟩ = some (.slice Ao90 t24.length co90):=(blk_cell BK28.out 0).trans rfl;have hfz112_0:=blk_frozen BK28.out 0;have hnb113:=NB10_20.out;have hnc113:=NB20_10.out;have hcz114_0 : w109.cell? ⟨gb10,0,none⟩ = some (.slice (some ad23) t4.length co13):=(blk_cell BK10.out 0).trans rfl;have hfz114_0:=blk_frozen BK10.out 0) | (go_at_call 19;(with_reducible refine (laws_equalHeap.calls kj5 _ _ t24 _ _ t4 true _ ?side1 ?side2 ?side3 ?side4 A82.out).mono ?_);(case side1=>exact cc_ (Kd.R_reads' HO26.out).2.2);(case side2=>exact (Kd.R_reads' HO26.out).2.1);(case side3=>exact cc_ (Kd.R_reads' Z11.out).2.2);(case side4=>exact (Kd.R_reads' Z11.out).2.1);rintro e w115 ⟨rfl,hb⟩;replace Z10:=rb_ Z10 hb;replace Z11:=rb_ Z11 hb;replace Z16:=rb_ Z16 hb;replace Z21:=rb_ Z21 hb;replace HO26:=rb_ HO26 hb;replace BK9:=kb_ BK9 hb;replace BK10:=kb_ BK10 hb;replace BK15:=kb_ BK15 hb;replace BK20:=kb_ BK20 hb;replace BK28:=kb_ BK28 hb;replace BK30:=kb_ BK30 hb;replace HB:=a0_ (below_step hb_ hb);(try clear hb);have hcz116_0 : w115.cell? ⟨gb30,0,none⟩ = some (.int .i64 ((rd_T43 t11 t7).f0)):=(blk_cell BK30.out 0).trans rfl;have hcz116_1 : w115.cell? ⟨gb30,1,none⟩ = some (.int .i64 ((rd_T43 t11 t7).f1)):=(blk_cell BK30.out 1).trans rfl;have hcz116_2 : w115.cell? ⟨gb30,2,none⟩ = some (.int .i64 ((rd_T43 t11 t7).f2)):=(blk_cell BK30.out 2).trans rfl;have hcz116_3 : w115.cell? ⟨gb30,3,none⟩ = some (.int .i64 ((rd_T43 t11 t7).f3)):=(blk_cell BK30.out 3).trans rfl;have hcz116_4 : w115.cell? ⟨gb30,4,none⟩ = some (.bool ((rd_T43 t11 t7).f4)):=(blk_cell BK30.out 4).trans rfl;have hfz116_0:=blk_frozen BK30.out 0;have hfz116_1:=blk_frozen BK30.out 1;have hfz116_2:=blk_frozen BK30.out 2;have hfz116_3:=blk_frozen BK30.out 3;have hfz116_4:=blk_frozen BK30.out 4))
            go_ret
            exact ⟨by first | rfl | (simp [errW_none,errW_some] <;> rfl) | (simp [*,errW_none,errW_some] <;> rfl),hb_⟩
           ·rw [if_neg c85] at H
            have c85b0 : (t31 == ((rd_T43 t11 t7).f2)) = false:=beq_eq_false_iff_ne.mpr c85
            have c85b1 : (t31 != ((rd_T43 t11 t7).f2)) = true:=bne_iff_ne.mpr c85
            by_cases c117 : ((rd_T43 t11 t7).f2) < 0
            ·rw [if_pos c117] at H
             have c117b0 : decide (((rd_T43 t11 t7).f2) < 0) = true:=decide_eq_true c117
             clear c117
             by_cases c118 : t8 = true
             ·subst c118
              have H1 : (if t31 = (-1) then (some true) else (some false)) = some r:=by rw [if_pos rfl] at H;exact H
              clear H
              have H:=H1
              clear H1
              by_cases c119 : t31 = (-1)
              ·rw [if_pos c119] at H
               have c119b0 : (t31 == (-1)) = true:=beq_iff_eq.mpr c119
               have c119b1 : (t31 != (-1)) = false:=bne_eq_false_iff_eq.mpr c119
               clear c119
               exact absurd (of_decide_eq_true c117b0) (by have:=of_decide_eq_true c84b0;omega)
              ·rw [if_neg c119] at H
               have c119b0 : (t31 == (-1)) = false:=beq_eq_false_iff_ne.mpr c119
               have c119b1 : (t31 != (-1)) = true:=bne_iff_ne.mpr c119
               exact absurd ((Option.some.inj H).trans hrt) (by decide)
             ·replace c118:=Bool.eq_false_iff.mpr c118
              subst c118
              have H1 : (some (t31 == ((rd_T43 t11 t7).f3))) = some r:=by rw [if_neg (show ¬ (false = true) by decide)] at H;exact H
              clear H
              have H:=H1
              clear H1
              exact absurd (of_decide_eq_true c117b0) (by have:=of_decide_eq_true c84b0;omega)
            ·rw [if_neg c117] at H
             have c117b0 : decide (((rd_T43 t11 t7).f2) < 0) = false:=decide_eq_false c117
             clear c117
             exact absurd ((Option.some.inj H).trans hrt) (by decide)
          ·rw [if_neg c84] at H
           have c84b0 : decide (0 ≤ ((rd_T43 t11 t7).f2)) = false:=decide_eq_false c84
           clear c84
           by_cases c244 : ((rd_T43 t11 t7).f2) < 0
           ·rw [if_pos c244] at H
            have c244b0 : decide (((rd_T43 t11 t7).f2) < 0) = true:=decide_eq_true c244
            clear c244
            by_cases c245 : t8 = true
            ·subst c245
             have H1 : (if t31 = (-1) then (some true) else (some false)) = some r:=by rw [if_pos rfl] at H;exact H
             clear H
             have H:=H1
             clear H1
             by_cases c246 : t31 = (-1)
             ·rw [if_pos c246] at H
              have c246b0 : (t31 == (-1)) = true:=beq_iff_eq.mpr c246
              have c246b1 : (t31 != (-1)) = false:=bne_eq_false_iff_eq.mpr c246
              clear c246
              obtain rfl:=Option.some.inj H
              try go_wp2
              have n0_:=a0_ (Kd.R_drew Z10.out)
              have n1_:=a0_ (Kd.R_drew Z11.out)
              have n2_:=a0_ (Kd.R_drew Z16.out)
              have n3_:=a0_ (Kd.R_drew Z21.out)
              have n4_:=a0_ (blk_drew BK9.out)
              have n5_:=a0_ (blk_drew BK10.out)
              have n6_:=a0_ (blk_drew BK15.out)
              have n7_:=a0_ (blk_drew BK20.out)
              have n8_:=a0_ (below_drew1 HB.out)
              clear Z10
              clear Z11
              clear Z16
              clear Z21
              clear BK9
              clear BK10
              clear BK15
              clear BK20
              clear HB
              have Z10:=n0_
              have Z11:=n1_
              have Z16:=n2_
              have Z21:=n3_
              have BK9:=n4_
              have BK10:=n5_
              have BK15:=n6_
              have BK20:=n7_
              have HB:=n8_
              clear n0_ n1_ n2_ n3_ n4_ n5_ n6_ n7_ n8_
              have p23 : 0 ≤ (t7 : Int):=of_decide_eq_true (by first | (with_reducible assumption) | assumption)
              have q23 : t7 < (t4.length : Int):=of_decide_eq_true (by first | (with_reducible assumption) | assumption)
              obtain ⟨ad23,e23,hx23_0,hx23_1,hx23_2,hx23_3,hx23_4⟩:=at_T43 (Kd.R_reads' Z11.out).2.2 t7 p23 q23
              cases e23
              replace p23:=eq_true p23
              replace q23:=eq_true q23
              refine start_ (n:=16) (S:=fun w'=>w'.cell? ⟨gb9,0,none⟩ = some (.slice Ao10 t1.length co10) ∧ w'.cell? ⟨gb15,0,none⟩ = some (.slice Ao17 t11.length co17) ∧ w'.cell? ⟨gb10,0,none⟩ = some (.slice (some ad23) t4.length co13) ∧ w'.cell? (ad23.add ((t7).toNat * 5)) = some (.int .i64 ((rd_T43 t4 t7).f0)) ∧ w'.cell? ⟨(ad23.add ((t7).toNat * 5)).block,(ad23.add ((t7).toNat * 5)).off + 1,none⟩ = some (.int .i64 ((rd_T43 t4 t7).f1)) ∧ w'.cell? ⟨(ad23.add ((t7).toNat * 5)).block,(ad23.add ((t7).toNat * 5)).off + 2,none⟩ = some (.int .i64 ((rd_T43 t4 t7).f2)) ∧ w'.cell? ⟨(ad23.add ((t7).toNat * 5)).block,(ad23.add ((t7).toNat * 5)).off + 3,none⟩ = some (.int .i64 ((rd_T43 t4 t7).f3)) ∧ w'.cell? ⟨(ad23.add ((t7).toNat * 5)).block,(ad23.add ((t7).toNat * 5)).off + 4,none⟩ = some (.bool ((rd_T43 t4 t7).f4))) (ds:=[]) #[false,false,false,false,false,false,false,false,false,false,false,false,false,false,false,false] (by kernel_rfl) rfl rfl ⟨(blk_cell BK9.out 0).trans rfl,(blk_cell BK15.out 0).trans rfl,(blk_cell BK10.out 0).trans rfl,hx23_0,hx23_1,hx23_2,hx23_3,hx23_4⟩ (fun hHeld=>?_);refine with_tabW laws_FnHideContext.tab8 laws_FnHideContext.bits8 (fun HT_ HW_=>?_)
              generalize wc.drew = w247 at Z10 Z11 Z16 Z21 BK9 BK10 BK15 BK20 HB hx23_0 hx23_1 hx23_2 hx23_3 hx23_4 hHeld ⊢
              refine pure_ (i:=2) (N:=some 65) (v:=?_) (a':=?_) #[false,false,true,false,false,false,false,false,false,false,false,false,false,false,false,false] rfl rfl (any_of HT_.out (by kernel_rfl)) (fun _ _ _ h=>h) (Or.inl ⟨by rfl,?_⟩) ?_ ?_
              rotate_left
              ·intro w'
               go_simp
               with_reducible rfl
              rotate_left
              ·simp only [Act.put,s1_,s2_,s3_,i64_w,i32_w]
               rfl
              refine pure_ (i:=3) (N:=some 66) (v:=?_) (a':=?_) #[false,false,true,true,false,false,false,false,false,false,false,false,false,false,false,false] rfl rfl (any_of HT_.out (by kernel_rfl)) (fun _ _ _ h=>h) (Or.inl ⟨by rfl,?_⟩) ?_ ?_
              rotate_left
              ·intro w'
               go_simp
               with_reducible rfl
              rotate_left
              ·simp only [Act.put,s1_,s2_,s3_,i64_w,i32_w]
               rfl
              refine pure_ (i:=5) (N:=some 68) (v:=?_) (a':=?_) #[false,false,true,true,false,true,false,false,false,false,false,false,false,false,false,false] rfl rfl (any_of HT_.out (by kernel_rfl)) (fun _ _ _ h=>h) (Or.inl ⟨by rfl,?_⟩) ?_ ?_
              rotate_left
              ·intro w'
               go_simp
               with_reducible rfl
              rotate_left
              ·simp only [Act.put,s1_,s2_,s3_,i64_w,i32_w]
               rfl
              refine take_ (i:=0) (N:=some 63) (v:=?_) (a':=?_) #[true,false,true,true,false,true,false,false,false,false,false,false,false,false,false,false] rfl rfl (take_ofW HT_.out HW_.out (by kernel_rfl)) (fun _ _ _ h=>h) (Or.inl ⟨by rfl,?_⟩) hHeld ?_ ?_
              rotate_left
              ·rintro w' ⟨s0,s1,s2,s3,s4,s5,s6,s7⟩
               go_simp
               with_reducible rfl
              rotate_left
              ·simp only [Act.put,s1_,s2_,s3_,i64_w,i32_w]
               rfl
              refine take_ (i:=1) (N:=some 64) (v:=?_) (a':=?_) #[true,true,true,true,false,true,false,false,false,false,false,false,false,false,false,false] rfl rfl (take_ofW HT_.out HW_.out (by kernel_rfl)) (fun _ _ _ h=>h) (Or.inl ⟨by rfl,?_⟩) hHeld ?_ ?_
              rotate_left
              ·rintro w' ⟨s0,s1,s2,s3,s4,s5,s6,s7⟩
               go_simp
               with_reducible rfl
              rotate_left
              ·simp only [Act.put,s1_,s2_,s3_,i64_w,i32_w]
               rfl
              refine take_ (i:=4) (N:=some 67) (v:=?_) (a':=?_) #[true,true,true,true,true,true,false,false,false,false,false,false,false,false,false,false] rfl rfl (take_ofW HT_.out HW_.out (by kernel_rfl)) (fun _ _ _ h=>h) (Or.inl ⟨by rfl,?_⟩) hHeld ?_ ?_
              rotate_left
              ·rintro w' ⟨s0,s1,s2,s3,s4,s5,s6,s7⟩
               go_simp
               with_reducible rfl
              rotate_left
              ·simp only [Act.put,s1_,s2_,s3_,i64_w,i32_w]
               rfl
              refine pure_ (i:=6) (N:=some 69) (v:=?_) (a':=?_) #[true,true,true,true,true,true,true,false,false,false,false,false,false,false,false,false] rfl rfl (any_of HT_.out (by kernel_rfl)) (fun _ _ _ h=>h) (Or.inl ⟨by rfl,?_⟩) ?_ ?_
              rotate_left
              ·intro w'
               go_simp
               with_reducible rfl
              rotate_left
              ·simp only [Act.put,s1_,s2_,s3_,i64_w,i32_w]
               rfl
              refine pure_ (i:=7) (N:=some 70) (v:=?_) (a':=?_) #[true,true,true,true,true,true,true,true,false,false,false,false,false,false,false,false] rfl rfl (any_of HT_.out (by kernel_rfl)) (fun _ _ _ h=>h) (Or.inl ⟨by rfl,?_⟩) ?_ ?_
              rotate_left
              ·intro w'
               go_simp
               with_reducible rfl
              rotate_left
              ·simp only [Act.put,s1_,s2_,s3_,i64_w,i32_w]
               rfl
              refine take_ (i:=8) (N:=some 71) (v:=?_) (a':=?_) #[true,true,true,true,true,true,true,true,true,false,false,false,false,false,false,false] rfl rfl (take_ofW HT_.out HW_.out (by kernel_rfl)) (fun _ _ _ h=>h) (Or.inl ⟨by rfl,?_⟩) hHeld ?_ ?_
              rotate_left
              ·rintro w' ⟨s0,s1,s2,s3,s4,s5,s6,s7⟩
               go_simp
               with_reducible rfl
              rotate_left
              ·simp only [Act.put,s1_,s2_,s3_,i64_w,i32_w]
               rfl
              refine join_ (σ:=Value × Nat) 2 #[true,true,true,true,true,true,true,true,true,true,true,true,true,true,false,false] (fun s_=>[(72,.tuple #[.agg #[s_.1],.bool true]),(11,.pointer (some ⟨s_.2,0,none⟩)),(62,.tuple #[.agg #[s_.1],.bool true]),(73,.agg #[s_.1]),(74,.bool true)]) (fun s_ w'=>(w'.cell? ⟨gb9,0,none⟩ = some (.slice Ao10 t1.length co10) ∧ w'.cell? ⟨gb15,0,none⟩ = some (.slice Ao17 t11.length co17) ∧ w'.cell? ⟨gb10,0,none⟩ = some (.slice (some ad23) t4.length co13) ∧ w'.cell? (ad23.add ((t7).toNat * 5)) = some (.int .i64 ((rd_T43 t4 t7).f0)) ∧ w'.cell? ⟨(ad23.add ((t7).toNat * 5)).block,(ad23.add ((t7).toNat * 5)).off + 1,none⟩ = some (.int .i64 ((rd_T43 t4 t7).f1)) ∧ w'.cell? ⟨(ad23.add ((t7).toNat * 5)).block,(ad23.add ((t7).toNat * 5)).off + 2,none⟩ = some (.int .i64 ((rd_T43 t4 t7).f2)) ∧ w'.cell? ⟨(ad23.add ((t7).toNat * 5)).block,(ad23.add ((t7).toNat * 5)).off + 3,none⟩ = some (.int .i64 ((rd_T43 t4 t7).f3)) ∧ w'.cell? ⟨(ad23.add ((t7).toNat * 5)).block,(ad23.add ((t7).toNat * 5)).off + 4,none⟩ = some (.bool ((rd_T43 t4 t7).f4))) ∧ (Kd.R k43 43 w' w.heap.size (fun k_=>some k_ ≠ (.slice (some ad23) t4.length co13 : Value).ownBlock ∧ some k_ ≠ (.slice Ao17 t11.length co17 : Value).ownBlock ∧ some k_ ≠ (.slice Ao25 t16.length co25 : Value).ownBlock) s_.1 t24) ∧ (Kd.R k87 87 w' w.heap.size (fun _=>True) (.slice Ao10 t1.length co10) t1) ∧ (Kd.R k43 43 w' w.heap.size (fun k_=>some k_ ≠ (s_.1 : Value).ownBlock ∧ some k_ ≠ (.slice Ao17 t11.length co17 : Value).ownBlock ∧ some k_ ≠ (.slice Ao25 t16.length co25 : Value).ownBlock) (.slice (some ad23) t4.length co13) t4) ∧ (Kd.R k43 43 w' w.heap.size (fun k_=>some k_ ≠ (s_.1 : Value).ownBlock ∧ some k_ ≠ (.slice (some ad23) t4.length co13 : Value).ownBlock ∧ some k_ ≠ (.slice Ao25 t16.length co25 : Value).ownBlock) (.slice Ao17 t11.length co17) t11) ∧ (Kd.R k43 43 w' w.heap.size (fun k_=>some k_ ≠ (s_.1 : Value).ownBlock ∧ some k_ ≠ (.slice (some ad23) t4.length co13 : Value).ownBlock ∧ some k_ ≠ (.slice Ao17 t11.length co17 : Value).ownBlock) (.slice Ao25 t16.length co25) t16) ∧ (w'.heap[gb10]? = some (.cells #[.slice (some ad23) t4.length co13] 28 (0,0))) ∧ (w'.heap[gb15]? = some (.cells #[.slice Ao17 t11.length co17] 28 (0,0))) ∧ (w'.heap[gb20]? = some (.cells #[.slice Ao25 t16.length co25] 28 (0,0))) ∧ (w'.heap[s_.2]? = some (.cells #[.slice none 0 0] 28 (0,0))) ∧ (w'.heap[gb9]? = some (.cells #[.slice Ao10 t1.length co10] 25 (0,0))) ∧ (w.heap.size ≤ s_.2) ∧ (w.heap.size ≤ s_.2) ∧ (gb10 ≠ s_.2) ∧ (s_.2 ≠ gb10) ∧ (gb15 ≠ s_.2) ∧ (s_.2 ≠ gb15) ∧ (gb20 ≠ s_.2) ∧ (s_.2 ≠ gb20) ∧ (gb9 ≠ s_.2) ∧ (s_.2 ≠ gb9) ∧ (Below w.heap.size w w')) ?_ ?_
              rotate_left
              ·intro hCont
               refine two_ (i:=9) (j:=13) (Ni:=some 72) (Nj:=some 11) #[true,true,true,true,true,true,true,true,true,true,false,false,false,false,false,false] #[true,true,true,true,true,true,true,true,true,false,false,false,false,true,false,false] rfl rfl rfl rfl (two_of HT_.out (by kernel_rfl)) (by decide) (by decide) (fun K hK=>?_) (fun K hK=>?_)
               ·skip
                refine goes_ Try.func21 (by kernel_rfl) rfl #[.agg #[.slice Ao10 t1.length co10],.agg #[.slice Ao17 t11.length co17],.int .i64 t7,.bool ((rd_T43 t4 t7).f4)] (by rfl) rfl rfl lm_ ?_
                with_reducible refine (impl_HideContext.calls _ _ t1 _ _ t11 t7 ((rd_T43 t4 t7).f4) t24 true _ ?side1 ?side2 ?side3 ?side4 A78.out).mono ?_
                (case side1=>exact cc_ (Kd.R_reads' Z10.out).2.2)
                (case side2=>exact (Kd.R_reads' Z10.out).2.1)
                (case side3=>exact cc_ (Kd.R_reads' Z16.out).2.2)
                (case side4=>exact (Kd.R_reads' Z16.out).2.1)
                rintro e w248 ⟨v25,rfl,ho0,hb⟩
                have HS3_:=(hb.cell (World.block_lt_of_cell? _ _ (hHeld.2.2.2.1))).trans (hHeld.2.2.2.1)
                have HS4_:=(hb.cell (World.block_lt_of_cell? _ _ (hHeld.2.2.2.2.1))).trans (hHeld.2.2.2.2.1)
                have HS5_:=(hb.cell (World.block_lt_of_cell? _ _ (hHeld.2.2.2.2.2.1))).trans (hHeld.2.2.2.2.2.1)
                have HS6_:=(hb.cell (World.block_lt_of_cell? _ _ (hHeld.2.2.2.2.2.2.1))).trans (hHeld.2.2.2.2.2.2.1)
                have HS7_:=(hb.cell (World.block_lt_of_cell? _ _ (hHeld.2.2.2.2.2.2.2))).trans (hHeld.2.2.2.2.2.2.2)
                refine ⟨_,rfl,?_⟩
                have n0_:=rb_ Z10 hb
                have n1_:=a0_ (Kd.R_elder' (rr_ Z11.out) (Kd.R_base ho0) hb)
                have n2_:=a0_ (Kd.R_elder' (rr_ Z16.out) (Kd.R_base ho0) hb)
                have n3_:=a0_ (Kd.R_elder' (rr_ Z21.out) (Kd.R_base ho0) hb)
                have n4_:=a0_ (Kd.R_lower (Kd.R_new' (Kd.R_new' (Kd.R_new' ho0 (Kd.R_lt (rr_ Z11.out))) (Kd.R_lt (rr_ Z16.out))) (Kd.R_lt (rr_ Z21.out))) (below_size hb_))
                have n5_:=kb_ BK9 hb
                have n6_:=kb_ BK10 hb
                have n7_:=kb_ BK15 hb
                have n8_:=kb_ BK20 hb
                have n9_:=a0_ (below_step hb_ hb)
                clear Z10
                clear Z11
                clear Z16
                clear Z21
                clear BK9
                clear BK10
                clear BK15
                clear BK20
                clear HB
                have Z10:=n0_
                have Z11:=n1_
                have Z16:=n2_
                have Z21:=n3_
                have HO26:=n4_
                have BK9:=n5_
                have BK10:=n6_
                have BK15:=n7_
                have BK20:=n8_
                have HB:=n9_
                clear n0_ n1_ n2_ n3_ n4_ n5_ n6_ n7_ n8_ n9_
                (try clear hb)
                (try clear hb2)
                (try clear hk)
                (try clear hi)
                (try clear ho0)
                refine hK.out _ _ ⟨(blk_cell BK9.out 0).trans rfl,(blk_cell BK15.out 0).trans rfl,(blk_cell BK10.out 0).trans rfl,HS3_,HS4_,HS5_,HS6_,HS7_⟩ (fun hHeld=>?_)
                clear hK K
                refine norm_ (a':=?_) ?_ ?_
                rotate_left
                ·show Act.put _ (some 72) _ = _
                 simp only [Act.put,s1_,s2_,s3_,i64_w,i32_w]
                 rfl
                refine pure_ (i:=10) (N:=some 62) (v:=?_) (a':=?_) #[true,true,true,true,true,true,true,true,true,true,true,false,false,false,false,false] rfl rfl (any_of HT_.out (by kernel_rfl)) (fun _ _ _ h=>h) (Or.inl ⟨by rfl,?_⟩) ?_ ?_
                rotate_left
                ·intro w'
                 go_simp
                 with_reducible rfl
                rotate_left
                ·simp only [Act.put,s1_,s2_,s3_,i64_w,i32_w]
                 rfl
                refine pure_ (i:=11) (N:=some 73) (v:=?_) (a':=?_) #[true,true,true,true,true,true,true,true,true,true,true,true,false,false,false,false] rfl rfl (any_of HT_.out (by kernel_rfl)) (fun _ _ _ h=>h) (Or.inl ⟨by rfl,?_⟩) ?_ ?_
                rotate_left
                ·intro w'
                 go_simp
                 with_reducible rfl
                rotate_left
                ·simp only [Act.put,s1_,s2_,s3_,i64_w,i32_w]
                 rfl
                refine pure_ (i:=12) (N:=some 74) (v:=?_) (a':=?_) #[true,true,true,true,true,true,true,true,true,true,true,true,true,false,false,false] rfl rfl (any_of HT_.out (by kernel_rfl)) (fun _ _ _ h=>h) (Or.inl ⟨by rfl,?_⟩) ?_ ?_
                rotate_left
                ·intro w'
                 go_simp
                 with_reducible rfl
                rotate_left
                ·simp only [Act.put,s1_,s2_,s3_,i64_w,i32_w]
                 rfl
                refine one_ (i:=13) (N:=some 11) #[true,true,true,true,true,true,true,true,true,true,true,true,true,true,false,false] rfl rfl (one_of HT_.out (by kernel_rfl)) (by decide) (fun K hK=>?_)
                refine box_step ?hg (N:=11) ?hd (cs:=#[.slice none 0 0]) (t:=28) ?hr ?_;(case hd=>rfl);(case hg=>rfl);(case hr=>first | (go_simp;done) | (go_simp;rfl))
                intro gb28 hg w249 hbox hb
                have HS3_:=(hb.cell (World.block_lt_of_cell? _ _ (hHeld.2.2.2.1))).trans (hHeld.2.2.2.1)
                have HS4_:=(hb.cell (World.block_lt_of_cell? _ _ (hHeld.2.2.2.2.1))).trans (hHeld.2.2.2.2.1)
                have HS5_:=(hb.cell (World.block_lt_of_cell? _ _ (hHeld.2.2.2.2.2.1))).trans (hHeld.2.2.2.2.2.1)
                have HS6_:=(hb.cell (World.block_lt_of_cell? _ _ (hHeld.2.2.2.2.2.2.1))).trans (hHeld.2.2.2.2.2.2.1)
                have HS7_:=(hb.cell (World.block_lt_of_cell? _ _ (hHeld.2.2.2.2.2.2.2))).trans (hHeld.2.2.2.2.2.2.2)
                have n0_:=rb_ Z10 hb
                have n1_:=rb_ Z11 hb
                have n2_:=rb_ Z16 hb
                have n3_:=rb_ Z21 hb
                have n4_:=rb_ HO26 hb
                have n5_:=kb_ BK9 hb
                have n6_:=kb_ BK10 hb
                have n7_:=kb_ BK15 hb
                have n8_:=kb_ BK20 hb
                have n9_:=a0_ (below_step hb_ hb)
                have n10_:=a0_ (hbox)
                have n11_:=a0_ ((by rw [hg];exact (below_size hb_) : w.heap.size ≤ gb28))
                have n12_:=a0_ ((by rw [hg];exact (below_size hb_) : w.heap.size ≤ gb28))
                have n13_:=a0_ ((by rw [hg];exact Nat.ne_of_lt (blk_lt (bb_ BK9.out)) : gb9 ≠ gb28))
                have n14_:=a0_ ((by rw [hg];exact Nat.ne_of_gt (blk_lt (bb_ BK9.out)) : gb28 ≠ gb9))
                have n15_:=a0_ ((by rw [hg];exact Nat.ne_of_lt (blk_lt (bb_ BK10.out)) : gb10 ≠ gb28))
                have n16_:=a0_ ((by rw [hg];exact Nat.ne_of_gt (blk_lt (bb_ BK10.out)) : gb28 ≠ gb10))
                have n17_:=a0_ ((by rw [hg];exact Nat.ne_of_lt (blk_lt (bb_ BK15.out)) : gb15 ≠ gb28))
                have n18_:=a0_ ((by rw [hg];exact Nat.ne_of_gt (blk_lt (bb_ BK15.out)) : gb28 ≠ gb15))
                have n19_:=a0_ ((by rw [hg];exact Nat.ne_of_lt (blk_lt (bb_ BK20.out)) : gb20 ≠ gb28))
                have n20_:=a0_ ((by rw [hg];exact Nat.ne_of_gt (blk_lt (bb_ BK20.out)) : gb28 ≠ gb20))
                clear Z10
                clear Z11
                clear Z16
                clear Z21
                clear HO26
                clear BK9
                clear BK10
                clear BK15
                clear BK20
                clear HB
                have Z10:=n0_
                have Z11:=n1_
                have Z16:=n2_
                have Z21:=n3_
                have HO26:=n4_
                have BK9:=n5_
                have BK10:=n6_
                have BK15:=n7_
                have BK20:=n8_
                have HB:=n9_
                have BK28:=n10_
                have GW28:=n11_
                have GE28:=n12_
                have NB9_28:=n13_
                have NB28_9:=n14_
                have NB10_28:=n15_
                have NB28_10:=n16_
                have NB15_28:=n17_
                have NB28_15:=n18_
                have NB20_28:=n19_
                have NB28_20:=n20_
                clear n0_ n1_ n2_ n3_ n4_ n5_ n6_ n7_ n8_ n9_ n10_ n11_ n12_ n13_ n14_ n15_ n16_ n17_ n18_ n19_ n20_
                clear hb hbox hg
                refine hK.out _ _ ⟨(blk_cell BK9.out 0).trans rfl,(blk_cell BK15.out 0).trans rfl,(blk_cell BK10.out 0).trans rfl,HS3_,HS4_,HS5_,HS6_,HS7_⟩ (fun hHeld=>?_)
                clear hK K
                refine norm_ (a':=?_) ?_ ?_
                rotate_left
                ·show Act.put _ (some 11) _ = _
                 simp only [Act.put,s1_,s2_,s3_,i64_w,i32_w]
                 rfl
                exact norm_ (by simp only [putAll,Act.put,s1_,s2_,s3_]) (hCont (v25,gb28) _ ⟨hHeld,(rm_ HO26.out (fun _ hk=>⟨hk.1.1.2,⟨hk.1.2,hk.2⟩⟩)),(rr_ Z10.out),(rm_ Z11.out (fun _ hk=>⟨hk.2,⟨hk.1.1,hk.1.2⟩⟩)),(rm_ Z16.out (fun _ hk=>⟨hk.2,⟨hk.1.1,hk.1.2⟩⟩)),(rm_ Z21.out (fun _ hk=>⟨hk.2,⟨hk.1.1,hk.1.2⟩⟩)),(bb_ BK10.out),(bb_ BK15.out),(bb_ BK20.out),(bb_ BK28.out),(bb_ BK9.out),GW28.out,GE28.out,NB10_28.out,NB28_10.out,NB15_28.out,NB28_15.out,NB20_28.out,NB28_20.out,NB9_28.out,NB28_9.out,hb_⟩)
               ·skip
                refine box_step ?hg (N:=11) ?hd (cs:=#[.slice none 0 0]) (t:=28) ?hr ?_;(case hd=>rfl);(case hg=>rfl);(case hr=>first | (go_simp;done) | (go_simp;rfl))
                intro gb28 hg w248 hbox hb
                have HS3_:=(hb.cell (World.block_lt_of_cell? _ _ (hHeld.2.2.2.1))).trans (hHeld.2.2.2.1)
                have HS4_:=(hb.cell (World.block_lt_of_cell? _ _ (hHeld.2.2.2.2.1))).trans (hHeld.2.2.2.2.1)
                have HS5_:=(hb.cell (World.block_lt_of_cell? _ _ (hHeld.2.2.2.2.2.1))).trans (hHeld.2.2.2.2.2.1)
                have HS6_:=(hb.cell (World.block_lt_of_cell? _ _ (hHeld.2.2.2.2.2.2.1))).trans (hHeld.2.2.2.2.2.2.1)
                have HS7_:=(hb.cell (World.block_lt_of_cell? _ _ (hHeld.2.2.2.2.2.2.2))).trans (hHeld.2.2.2.2.2.2.2)
                have n0_:=rb_ Z10 hb
                have n1_:=rb_ Z11 hb
                have n2_:=rb_ Z16 hb
                have n3_:=rb_ Z21 hb
                have n4_:=kb_ BK9 hb
                have n5_:=kb_ BK10 hb
                have n6_:=kb_ BK15 hb
                have n7_:=kb_ BK20 hb
                have n8_:=a0_ (below_step hb_ hb)
                have n9_:=a0_ (hbox)
                have n10_:=a0_ ((by rw [hg];exact (below_size hb_) : w.heap.size ≤ gb28))
                have n11_:=a0_ ((by rw [hg];exact (below_size hb_) : w.heap.size ≤ gb28))
                have n12_:=a0_ ((by rw [hg];exact Nat.ne_of_lt (blk_lt (bb_ BK9.out)) : gb9 ≠ gb28))
                have n13_:=a0_ ((by rw [hg];exact Nat.ne_of_gt (blk_lt (bb_ BK9.out)) : gb28 ≠ gb9))
                have n14_:=a0_ ((by rw [hg];exact Nat.ne_of_lt (blk_lt (bb_ BK10.out)) : gb10 ≠ gb28))
                have n15_:=a0_ ((by rw [hg];exact Nat.ne_of_gt (blk_lt (bb_ BK10.out)) : gb28 ≠ gb10))
                have n16_:=a0_ ((by rw [hg];exact Nat.ne_of_lt (blk_lt (bb_ BK15.out)) : gb15 ≠ gb28))
                have n17_:=a0_ ((by rw [hg];exact Nat.ne_of_gt (blk_lt (bb_ BK15.out)) : gb28 ≠ gb15))
                have n18_:=a0_ ((by rw [hg];exact Nat.ne_of_lt (blk_lt (bb_ BK20.out)) : gb20 ≠ gb28))
                have n19_:=a0_ ((by rw [hg];exact Nat.ne_of_gt (blk_lt (bb_ BK20.out)) : gb28 ≠ gb20))
                clear Z10
                clear Z11
                clear Z16
                clear Z21
                clear BK9
                clear BK10
                clear BK15
                clear BK20
                clear HB
                have Z10:=n0_
                have Z11:=n1_
                have Z16:=n2_
                have Z21:=n3_
                have BK9:=n4_
                have BK10:=n5_
                have BK15:=n6_
                have BK20:=n7_
                have HB:=n8_
                have BK28:=n9_
                have GW28:=n10_
                have GE28:=n11_
                have NB9_28:=n12_
                have NB28_9:=n13_
                have NB10_28:=n14_
                have NB28_10:=n15_
                have NB15_28:=n16_
                have NB28_15:=n17_
                have NB20_28:=n18_
                have NB28_20:=n19_
                clear n0_ n1_ n2_ n3_ n4_ n5_ n6_ n7_ n8_ n9_ n10_ n11_ n12_ n13_ n14_ n15_ n16_ n17_ n18_ n19_
                clear hb hbox hg
                refine hK.out _ _ ⟨(blk_cell BK9.out 0).trans rfl,(blk_cell BK15.out 0).trans rfl,(blk_cell BK10.out 0).trans rfl,HS3_,HS4_,HS5_,HS6_,HS7_⟩ (fun hHeld=>?_)
                clear hK K
                refine norm_ (a':=?_) ?_ ?_
                rotate_left
                ·show Act.put _ (some 11) _ = _
                 simp only [Act.put,s1_,s2_,s3_,i64_w,i32_w]
                 rfl
                refine one_ (i:=9) (N:=some 72) #[true,true,true,true,true,true,true,true,true,true,false,false,false,true,false,false] rfl rfl (one_of HT_.out (by kernel_rfl)) (by decide) (fun K hK=>?_)
                refine goes_ Try.func21 (by kernel_rfl) rfl #[.agg #[.slice Ao10 t1.length co10],.agg #[.slice Ao17 t11.length co17],.int .i64 t7,.bool ((rd_T43 t4 t7).f4)] (by rfl) rfl rfl lm_ ?_
                with_reducible refine (impl_HideContext.calls _ _ t1 _ _ t11 t7 ((rd_T43 t4 t7).f4) t24 true _ ?side1 ?side2 ?side3 ?side4 A78.out).mono ?_
                (case side1=>exact cc_ (Kd.R_reads' Z10.out).2.2)
                (case side2=>exact (Kd.R_reads' Z10.out).2.1)
                (case side3=>exact cc_ (Kd.R_reads' Z16.out).2.2)
                (case side4=>exact (Kd.R_reads' Z16.out).2.1)
                rintro e w249 ⟨v25,rfl,ho0,hb⟩
                have HS3_:=(hb.cell (World.block_lt_of_cell? _ _ (hHeld.2.2.2.1))).trans (hHeld.2.2.2.1)
                have HS4_:=(hb.cell (World.block_lt_of_cell? _ _ (hHeld.2.2.2.2.1))).trans (hHeld.2.2.2.2.1)
                have HS5_:=(hb.cell (World.block_lt_of_cell? _ _ (hHeld.2.2.2.2.2.1))).trans (hHeld.2.2.2.2.2.1)
                have HS6_:=(hb.cell (World.block_lt_of_cell? _ _ (hHeld.2.2.2.2.2.2.1))).trans (hHeld.2.2.2.2.2.2.1)
                have HS7_:=(hb.cell (World.block_lt_of_cell? _ _ (hHeld.2.2.2.2.2.2.2))).trans (hHeld.2.2.2.2.2.2.2)
                refine ⟨_,rfl,?_⟩
                have n0_:=rb_ Z10 hb
                have n1_:=a0_ (Kd.R_elder' (rr_ Z11.out) (Kd.R_base ho0) hb)
                have n2_:=a0_ (Kd.R_elder' (rr_ Z16.out) (Kd.R_base ho0) hb)
                have n3_:=a0_ (Kd.R_elder' (rr_ Z21.out) (Kd.R_base ho0) hb)
                have n4_:=a0_ (Kd.R_lower (Kd.R_new' (Kd.R_new' (Kd.R_new' ho0 (Kd.R_lt (rr_ Z11.out))) (Kd.R_lt (rr_ Z16.out))) (Kd.R_lt (rr_ Z21.out))) (below_size hb_))
                have n5_:=kb_ BK9 hb
                have n6_:=kb_ BK10 hb
                have n7_:=kb_ BK15 hb
                have n8_:=kb_ BK20 hb
                have n9_:=kb_ BK28 hb
                have n10_:=a0_ (below_step hb_ hb)
                clear Z10
                clear Z11
                clear Z16
                clear Z21
                clear BK9
                clear BK10
                clear BK15
                clear BK20
                clear BK28
                clear HB
                have Z10:=n0_
                have Z11:=n1_
                have Z16:=n2_
                have Z21:=n3_
                have HO26:=n4_
                have BK9:=n5_
                have BK10:=n6_
                have BK15:=n7_
                have BK20:=n8_
                have BK28:=n9_
                have HB:=n10_
                clear n0_ n1_ n2_ n3_ n4_ n5_ n6_ n7_ n8_ n9_ n10_
                (try clear hb)
                (try clear hb2)
                (try clear hk)
                (try clear hi)
                (try clear ho0)
                refine hK.out _ _ ⟨(blk_cell BK9.out 0).trans rfl,(blk_cell BK15.out 0).trans rfl,(blk_cell BK10.out 0).trans rfl,HS3_,HS4_,HS5_,HS6_,HS7_⟩ (fun hHeld=>?_)
                clear hK K
                refine norm_ (a':=?_) ?_ ?_
                rotate_left
                ·show Act.put _ (some 72) _ = _
                 simp only [Act.put,s1_,s2_,s3_,i64_w,i32_w]
                 rfl
                refine pure_ (i:=10) (N:=some 62) (v:=?_) (a':=?_) #[true,true,true,true,true,true,true,true,true,true,true,false,false,true,false,false] rfl rfl (any_of HT_.out (by kernel_rfl)) (fun _ _ _ h=>h) (Or.inl ⟨by rfl,?_⟩) ?_ ?_
                rotate_left
                ·intro w'
                 go_simp
                 with_reducible rfl
                rotate_left
                ·simp only [Act.put,s1_,s2_,s3_,i64_w,i32_w]
                 rfl
                refine pure_ (i:=11) (N:=some 73) (v:=?_) (a':=?_) #[true,true,true,true,true,true,true,true,true,true,true,true,false,true,false,false] rfl rfl (any_of HT_.out (by kernel_rfl)) (fun _ _ _ h=>h) (Or.inl ⟨by rfl,?_⟩) ?_ ?_
                rotate_left
                ·intro w'
                 go_simp
                 with_reducible rfl
                rotate_left
                ·simp only [Act.put,s1_,s2_,s3_,i64_w,i32_w]
                 rfl
                refine pure_ (i:=12) (N:=some 74) (v:=?_) (a':=?_) #[true,true,true,true,true,true,true,true,true,true,true,true,true,true,false,false] rfl rfl (any_of HT_.out (by kernel_rfl)) (fun _ _ _ h=>h) (Or.inl ⟨by rfl,?_⟩) ?_ ?_
                rotate_left
                ·intro w'
                 go_simp
                 with_reducible rfl
                rotate_left
                ·simp only [Act.put,s1_,s2_,s3_,i64_w,i32_w]
                 rfl
                exact norm_ (by simp only [putAll,Act.put,s1_,s2_,s3_]) (hCont (v25,gb28) _ ⟨hHeld,(rm_ HO26.out (fun _ hk=>⟨hk.1.1.2,⟨hk.1.2,hk.2⟩⟩)),(rr_ Z10.out),(rm_ Z11.out (fun _ hk=>⟨hk.2,⟨hk.1.1,hk.1.2⟩⟩)),(rm_ Z16.out (fun _ hk=>⟨hk.2,⟨hk.1.1,hk.1.2⟩⟩)),(rm_ Z21.out (fun _ hk=>⟨hk.2,⟨hk.1.1,hk.1.2⟩⟩)),(bb_ BK10.out),(bb_ BK15.out),(bb_ BK20.out),(bb_ BK28.out),(bb_ BK9.out),GW28.out,GE28.out,NB10_28.out,NB28_10.out,NB15_28.out,NB28_15.out,NB20_28.out,NB28_20.out,NB9_28.out,NB28_9.out,hb_⟩)
              rintro ⟨v25,gb28⟩ w250 ⟨hS_,h0_,h1_,h2_,h3_,h4_,h5_,h6_,h7_,h8_,h9_,h10_,h11_,h12_,h13_,h14_,h15_,h16_,h17_,h18_,h19_,h20_⟩
              have n0_ : Aside0 (Kd.R k43 43 w250 w.heap.size (fun k_=>some k_ ≠ (.slice (some ad23) t4.length co13 : Value).ownBlock ∧ some k_ ≠ (.slice Ao17 t11.length co17 : Value).ownBlock ∧ some k_ ≠ (.slice Ao25 t16.length co25 : Value).ownBlock) v25 t24):=⟨h0_⟩
              have n1_ : Aside0 (Kd.R k87 87 w250 w.heap.size (fun _=>True) (.slice Ao10 t1.length co10) t1):=⟨h1_⟩
              have n2_ : Aside0 (Kd.R k43 43 w250 w.heap.size (fun k_=>some k_ ≠ (v25 : Value).ownBlock ∧ some k_ ≠ (.slice Ao17 t11.length co17 : Value).ownBlock ∧ some k_ ≠ (.slice Ao25 t16.length co25 : Value).ownBlock) (.slice (some ad23) t4.length co13) t4):=⟨h2_⟩
              have n3_ : Aside0 (Kd.R k43 43 w250 w.heap.size (fun k_=>some k_ ≠ (v25 : Value).ownBlock ∧ some k_ ≠ (.slice (some ad23) t4.length co13 : Value).ownBlock ∧ some k_ ≠ (.slice Ao25 t16.length co25 : Value).ownBlock) (.slice Ao17 t11.length co17) t11):=⟨h3_⟩
              have n4_ : Aside0 (Kd.R k43 43 w250 w.heap.size (fun k_=>some k_ ≠ (v25 : Value).ownBlock ∧ some k_ ≠ (.slice (some ad23) t4.length co13 : Value).ownBlock ∧ some k_ ≠ (.slice Ao17 t11.length co17 : Value).ownBlock) (.slice Ao25 t16.length co25) t16):=⟨h4_⟩
              have n5_ : Aside0 (w250.heap[gb10]? = some (.cells #[.slice (some ad23) t4.length co13] 28 (0,0))):=⟨h5_⟩
              have n6_ : Aside0 (w250.heap[gb15]? = some (.cells #[.slice Ao17 t11.length co17] 28 (0,0))):=⟨h6_⟩
              have n7_ : Aside0 (w250.heap[gb20]? = some (.cells #[.slice Ao25 t16.length co25] 28 (0,0))):=⟨h7_⟩
              have n8_ : Aside0 (w250.heap[gb28]? = some (.cells #[.slice none 0 0] 28 (0,0))):=⟨h8_⟩
              have n9_ : Aside0 (w250.heap[gb9]? = some (.cells #[.slice Ao10 t1.length co10] 25 (0,0))):=⟨h9_⟩
              have n10_ : Aside0 (w.heap.size ≤ gb28):=⟨h10_⟩
              have n11_ : Aside0 (w.heap.size ≤ gb28):=⟨h11_⟩
              have n12_ : Aside0 (gb10 ≠ gb28):=⟨h12_⟩
              have n13_ : Aside0 (gb28 ≠ gb10):=⟨h13_⟩
              have n14_ : Aside0 (gb15 ≠ gb28):=⟨h14_⟩
              have n15_ : Aside0 (gb28 ≠ gb15):=⟨h15_⟩
              have n16_ : Aside0 (gb20 ≠ gb28):=⟨h16_⟩
              have n17_ : Aside0 (gb28 ≠ gb20):=⟨h17_⟩
              have n18_ : Aside0 (gb9 ≠ gb28):=⟨h18_⟩
              have n19_ : Aside0 (gb28 ≠ gb9):=⟨h19_⟩
              have n20_ : Aside0 (Below w.heap.size w w250):=⟨h20_⟩
              clear Z10
              clear Z11
              clear Z16
              clear Z21
              clear BK9
              clear BK10
              clear BK15
              clear BK20
              clear HB
              clear h0_ h1_ h2_ h3_ h4_ h5_ h6_ h7_ h8_ h9_ h10_ h11_ h12_ h13_ h14_ h15_ h16_ h17_ h18_ h19_ h20_
              have HO26:=n0_
              have Z10:=n1_
              have Z11:=n2_
              have Z16:=n3_
              have Z21:=n4_
              have BK10:=n5_
              have BK15:=n6_
              have BK20:=n7_
              have BK28:=n8_
              have BK9:=n9_
              have GW28:=n10_
              have GE28:=n11_
              have NB10_28:=n12_
              have NB28_10:=n13_
              have NB15_28:=n14_
              have NB28_15:=n15_
              have NB20_28:=n16_
              have NB28_20:=n17_
              have NB9_28:=n18_
              have NB28_9:=n19_
              have HB:=n20_
              clear n0_ n1_ n2_ n3_ n4_ n5_ n6_ n7_ n8_ n9_ n10_ n11_ n12_ n13_ n14_ n15_ n16_ n17_ n18_ n19_ n20_
              have hHeld : w250.cell? ⟨gb9,0,none⟩ = some (.slice Ao10 t1.length co10) ∧ w250.cell? ⟨gb15,0,none⟩ = some (.slice Ao17 t11.length co17) ∧ w250.cell? ⟨gb10,0,none⟩ = some (.slice (some ad23) t4.length co13) ∧ w250.cell? (ad23.add ((t7).toNat * 5)) = some (.int .i64 ((rd_T43 t4 t7).f0)) ∧ w250.cell? ⟨(ad23.add ((t7).toNat * 5)).block,(ad23.add ((t7).toNat * 5)).off + 1,none⟩ = some (.int .i64 ((rd_T43 t4 t7).f1)) ∧ w250.cell? ⟨(ad23.add ((t7).toNat * 5)).block,(ad23.add ((t7).toNat * 5)).off + 2,none⟩ = some (.int .i64 ((rd_T43 t4 t7).f2)) ∧ w250.cell? ⟨(ad23.add ((t7).toNat * 5)).block,(ad23.add ((t7).toNat * 5)).off + 3,none⟩ = some (.int .i64 ((rd_T43 t4 t7).f3)) ∧ w250.cell? ⟨(ad23.add ((t7).toNat * 5)).block,(ad23.add ((t7).toNat * 5)).off + 4,none⟩ = some (.bool ((rd_T43 t4 t7).f4)):=hS_
              obtain ⟨Ao251,co251,eo251⟩:=Kd.R_slice HO26.out
              (first | subst eo251 | (injection eo251 with f1_ f2_ f3_;have f4_:=f1_.symm;have f5_:=f3_.symm;clear f1_ f2_ f3_;subst f4_;subst f5_))
              refine norm_ (a':=?_) ?_ ?_
              rotate_left
              ·simp only [putAll,Act.put,s1_,s2_,s3_]
               rfl
              refine one_ (i:=14) (N:=none) #[true,true,true,true,true,true,true,true,true,true,true,true,true,true,true,false] rfl rfl (one_of HT_.out (by kernel_rfl)) (by decide) (fun K hK=>?_)
              have hs252 : w250.cell? ⟨gb28,0,none⟩ = some (.slice none 0 0):=(blk_cell BK28.out 0).trans rfl
              have hfs252:=blk_frozen BK28.out 0
              have hns252_0:=NB9_28.out
              have hns252_1:=NB10_28.out
              have hns252_2:=NB15_28.out
              have hns252_3:=NB20_28.out
              have hms252_0:=NB28_9.out
              have hms252_1:=NB28_10.out
              have hms252_2:=NB28_15.out
              have hms252_3:=NB28_20.out
              refine skip_ (w1:=?_) (by rfl) rfl ?_ ?_
              rotate_left
              ·go_simp
               rfl
              refine hK.out _ _ ⟨((cell_far (p:=⟨gb28,_,none⟩) NB9_28.out _).trans (hHeld.1)),((cell_far (p:=⟨gb28,_,none⟩) NB15_28.out _).trans (hHeld.2.1)),((cell_far (p:=⟨gb28,_,none⟩) NB10_28.out _).trans (hHeld.2.2.1)),((cell_far (p:=⟨gb28,_,none⟩) (by first | exact Kd.own_blk (Kd.R_ne Z11.out BK28.out (by decide)) | (rw [add_block];exact Kd.own_blk (Kd.R_ne Z11.out BK28.out (by decide))) | (show (Addr.add _ _).block ≠ _;rw [add_block];exact Kd.own_blk (Kd.R_ne Z11.out BK28.out (by decide))) | (dsimp only;exact Kd.own_blk (Kd.R_ne Z11.out BK28.out (by decide)))) _).trans (hHeld.2.2.2.1)),((cell_far (p:=⟨gb28,_,none⟩) (by first | exact Kd.own_blk (Kd.R_ne Z11.out BK28.out (by decide)) | (rw [add_block];exact Kd.own_blk (Kd.R_ne Z11.out BK28.out (by decide))) | (show (Addr.add _ _).block ≠ _;rw [add_block];exact Kd.own_blk (Kd.R_ne Z11.out BK28.out (by decide))) | (dsimp only;exact Kd.own_blk (Kd.R_ne Z11.out BK28.out (by decide)))) _).trans (hHeld.2.2.2.2.1)),((cell_far (p:=⟨gb28,_,none⟩) (by first | exact Kd.own_blk (Kd.R_ne Z11.out BK28.out (by decide)) | (rw [add_block];exact Kd.own_blk (Kd.R_ne Z11.out BK28.out (by decide))) | (show (Addr.add _ _).block ≠ _;rw [add_block];exact Kd.own_blk (Kd.R_ne Z11.out BK28.out (by decide))) | (dsimp only;exact Kd.own_blk (Kd.R_ne Z11.out BK28.out (by decide)))) _).trans (hHeld.2.2.2.2.2.1)),((cell_far (p:=⟨gb28,_,none⟩) (by first | exact Kd.own_blk (Kd.R_ne Z11.out BK28.out (by decide)) | (rw [add_block];exact Kd.own_blk (Kd.R_ne Z11.out BK28.out (by decide))) | (show (Addr.add _ _).block ≠ _;rw [add_block];exact Kd.own_blk (Kd.R_ne Z11.out BK28.out (by decide))) | (dsimp only;exact Kd.own_blk (Kd.R_ne Z11.out BK28.out (by decide)))) _).trans (hHeld.2.2.2.2.2.2.1)),((cell_far (p:=⟨gb28,_,none⟩) (by first | exact Kd.own_blk (Kd.R_ne Z11.out BK28.out (by decide)) | (rw [add_block];exact Kd.own_blk (Kd.R_ne Z11.out BK28.out (by decide))) | (show (Addr.add _ _).block ≠ _;rw [add_block];exact Kd.own_blk (Kd.R_ne Z11.out BK28.out (by decide))) | (dsimp only;exact Kd.own_blk (Kd.R_ne Z11.out BK28.out (by decide)))) _).trans (hHeld.2.2.2.2.2.2.2))⟩ (fun hHeld=>?_)
              clear hK K
              refine pure_ (i:=15) (N:=some 12) (v:=?_) (a':=?_) #[true,true,true,true,true,true,true,true,true,true,true,true,true,true,true,true] rfl rfl (any_of HT_.out (by kernel_rfl)) (fun _ _ _ h=>h) (Or.inl ⟨by rfl,?_⟩) ?_ ?_
              rotate_left
              ·intro w'
               go_simp
               with_reducible rfl
              rotate_left
              ·simp only [Act.put,s1_,s2_,s3_,i64_w,i32_w]
               rfl
              refine done_ (done_of HT_.out (by kernel_rfl)) ?_
              have hnb253:=NB15_9.out
              have hnc253:=NB9_15.out
              have hnb254:=NB15_10.out
              have hnc254:=NB10_15.out
              have hnb255:=NB15_20.out
              have hnc255:=NB20_15.out
              have hnb256:=NB15_28.out
              have hnc256:=NB28_15.out
              have hcz257_0 : w250.cell? ⟨gb15,0,none⟩ = some (.slice Ao17 t11.length co17):=(blk_cell BK15.out 0).trans rfl
              have hfz257_0:=blk_frozen BK15.out 0
              have p29 : 0 ≤ (t7 : Int):=of_decide_eq_true (by first | (with_reducible assumption) | assumption)
              have q29 : t7 < (t11.length : Int):=of_decide_eq_true (by first | (with_reducible assumption) | assumption)
              obtain ⟨ad29,e29,hx29_0,hx29_1,hx29_2,hx29_3,hx29_4⟩:=at_T43 (Kd.R_reads' Z16.out).2.2 t7 p29 q29
              cases e29
              have hn29_0 : ad29.block ≠ gb28:=Kd.own_blk (Kd.R_ne Z16.out BK28.out (by decide))
              replace hx29_0:=(cell_far (p:=⟨gb28,0,none⟩) (by first | (rw [add_block];exact hn29_0) | (show (Addr.add _ _).block ≠ _;rw [add_block];exact hn29_0) | exact hn29_0) (.slice Ao251 t24.length co251)).trans hx29_0
              replace hx29_1:=(cell_far (p:=⟨gb28,0,none⟩) (by first | (rw [add_block];exact hn29_0) | (show (Addr.add _ _).block ≠ _;rw [add_block];exact hn29_0) | exact hn29_0) (.slice Ao251 t24.length co251)).trans hx29_1
              replace hx29_2:=(cell_far (p:=⟨gb28,0,none⟩) (by first | (rw [add_block];exact hn29_0) | (show (Addr.add _ _).block ≠ _;rw [add_block];exact hn29_0) | exact hn29_0) (.slice Ao251 t24.length co251)).trans hx29_2
              replace hx29_3:=(cell_far (p:=⟨gb28,0,none⟩) (by first | (rw [add_block];exact hn29_0) | (show (Addr.add _ _).block ≠ _;rw [add_block];exact hn29_0) | exact hn29_0) (.slice Ao251 t24.length co251)).trans hx29_3
              replace hx29_4:=(cell_far (p:=⟨gb28,0,none⟩) (by first | (rw [add_block];exact hn29_0) | (show (Addr.add _ _).block ≠ _;rw [add_block];exact hn29_0) | exact hn29_0) (.slice Ao251 t24.length co251)).trans hx29_4
              clear hn29_0
              replace p29:=eq_true p29
              replace q29:=eq_true q29
              try go_wp2_with (first | ((with_reducible refine gate_dst (N:=13) rfl ?_);refine box_event ?hg (N:=13) ?hd (cs:=#[.int .i64 0,.int .i64 0,.int .i64 0,.int .i64 0,.bool false]) (t:=43) ?hr ?_;(case hd=>rfl);(case hg=>rfl);(case hr=>first | (go_simp;done) | (go_simp;rfl));intro gb30 hg w258 hbox hb;have n0_:=a0_ (Kd.R_below (by (with_reducible repeat (first | apply Kd.R_alloc | apply Kd.R_drewN | apply Kd.R_drew));exact (Kd.R_mono (Kd.R_far (p:=⟨gb28,0,none⟩) (Kd.R_types Z10.out BK28.out (by decide)) (fun _ hk=>hk.2) (.slice Ao251 t24.length co251)) (fun _ h_=>h_.1))) hb);have n1_:=a0_ (Kd.R_below (Kd.R_elderB (by (with_reducible repeat (first | apply Kd.R_alloc | apply Kd.R_drewN | apply Kd.R_drew));exact (Kd.R_mono (Kd.R_far (p:=⟨gb28,0,none⟩) (Kd.R_types Z11.out BK28.out (by decide)) (fun _ hk=>hk.2) (.slice Ao251 t24.length co251)) (fun _ h_=>h_.1))) gb30 (Nat.le_of_eq hg.symm)) hb);have n2_:=a0_ (Kd.R_below (Kd.R_elderB (by (with_reducible repeat (first | apply Kd.R_alloc | apply Kd.R_drewN | apply Kd.R_drew));exact (Kd.R_mono (Kd.R_far (p:=⟨gb28,0,none⟩) (Kd.R_types Z16.out BK28.out (by decide)) (fun _ hk=>hk.2) (.slice Ao251 t24.length co251)) (fun _ h_=>h_.1))) gb30 (Nat.le_of_eq hg.symm)) hb);have n3_:=a0_ (Kd.R_below (Kd.R_elderB (by (with_reducible repeat (first | apply Kd.R_alloc | apply Kd.R_drewN | apply Kd.R_drew));exact (Kd.R_mono (Kd.R_far (p:=⟨gb28,0,none⟩) (Kd.R_types Z21.out BK28.out (by decide)) (fun _ hk=>hk.2) (.slice Ao251 t24.length co251)) (fun _ h_=>h_.1))) gb30 (Nat.le_of_eq hg.symm)) hb);have n4_:=a0_ (Kd.R_below (Kd.R_elderB (by (with_reducible repeat (first | apply Kd.R_alloc | apply Kd.R_drewN | apply Kd.R_drew));exact (Kd.R_mono (Kd.R_far (p:=⟨gb28,0,none⟩) (Kd.R_types HO26.out BK28.out (by decide)) (fun _ hk=>hk.2) (.slice Ao251 t24.length co251)) (fun _ h_=>h_.1))) gb30 (Nat.le_of_eq hg.symm)) hb);have n5_:=kf_ BK9 NB9_28 hb;have n6_:=kf_ BK10 NB10_28 hb;have n7_:=kf_ BK15 NB15_28 hb;have n8_:=kf_ BK20 NB20_28 hb;have n9_:=a0_ (blk_below (g:=gb28) (o:=.cells #[.slice Ao251 t24.length co251] 28 (0,0)) (by (with_reducible repeat (first | refine blk_drewN ?_ _ | refine blk_drew ?_ | refine blk_alloc ?_ _));refine blk_put (cs:=#[.slice none 0 0]) ?_ 0 _ rfl;(with_reducible repeat (first | refine blk_drewN ?_ _ | refine blk_drew ?_ | refine blk_alloc ?_ _));exact BK28.out) hb);have n10_:=a0_ (below_step hb_ hb);have n11_:=a0_ (hbox);have n12_:=a0_ ((by rw [hg];exact (below_size hb_) : w.heap.size ≤ gb30));have n13_:=a0_ ((by rw [hg];exact (below_size hb_) : w.heap.size ≤ gb30));have n14_:=a0_ ((by rw [hg];exact Nat.ne_of_lt (blk_lt (g:=gb9) (o:=.cells #[.slice Ao10 t1.length co10] 25 (0,0)) (bff_ BK9.out)) : gb9 ≠ gb30));have n15_:=a0_ ((by rw [hg];exact Nat.ne_of_gt (blk_lt (g:=gb9) (o:=.cells #[.slice Ao10 t1.length co10] 25 (0,0)) (bff_ BK9.out)) : gb30 ≠ gb9));have n16_:=a0_ ((by rw [hg];exact Nat.ne_of_lt (blk_lt (g:=gb10) (o:=.cells #[.slice (some ad23) t4.length co13] 28 (0,0)) (bff_ BK10.out)) : gb10 ≠ gb30));have n17_:=a0_ ((by rw [hg];exact Nat.ne_of_gt (blk_lt (g:=gb10) (o:=.cells #[.slice (some ad23) t4.length co13] 28 (0,0)) (bff_ BK10.out)) : gb30 ≠ gb10));have n18_:=a0_ ((by rw [hg];exact Nat.ne_of_lt (blk_lt (g:=gb15) (o:=.cells #[.slice (some ad29) t11.length co17] 28 (0,0)) (bff_ BK15.out)) : gb15 ≠ gb30));have n19_:=a0_ ((by rw [hg];exact Nat.ne_of_gt (blk_lt (g:=gb15) (o:=.cells #[.slice (some ad29) t11.length co17] 28 (0,0)) (bff_ BK15.out)) : gb30 ≠ gb15));have n20_:=a0_ ((by rw [hg];exact Nat.ne_of_lt (blk_lt (g:=gb20) (o:=.cells #[.slice Ao25 t16.length co25] 28 (0,0)) (bff_ BK20.out)) : gb20 ≠ gb30));have n21_:=a0_ ((by rw [hg];exact Nat.ne_of_gt (blk_lt (g:=gb20) (o:=.cells #[.slice Ao25 t16.length co25] 28 (0,0)) (bff_ BK20.out)) : gb30 ≠ gb20));have n22_:=a0_ ((by rw [hg];exact Nat.ne_of_lt (blk_lt (g:=gb28) (o:=.cells #[.slice Ao251 t24.length co251] 28 (0,0)) (by (with_reducible repeat (first | refine blk_drewN ?_ _ | refine blk_drew ?_ | refine blk_alloc ?_ _));refine blk_put (cs:=#[.slice none 0 0]) ?_ 0 _ rfl;(with_reducible repeat (first | refine blk_drewN ?_ _ | refine blk_drew ?_ | refine blk_alloc ?_ _));exact BK28.out)) : gb28 ≠ gb30));have n23_:=a0_ ((by rw [hg];exact Nat.ne_of_gt (blk_lt (g:=gb28) (o:=.cells #[.slice Ao251 t24.length co251] 28 (0,0)) (by (with_reducible repeat (first | refine blk_drewN ?_ _ | refine blk_drew ?_ | refine blk_alloc ?_ _));refine blk_put (cs:=#[.slice none 0 0]) ?_ 0 _ rfl;(with_reducible repeat (first | refine blk_drewN ?_ _ | refine blk_drew ?_ | refine blk_alloc ?_ _));exact BK28.out)) : gb30 ≠ gb28));clear Z10 Z11;clear Z16 Z21;clear HO26 BK9;clear BK10 BK15;clear BK20 BK28 HB;have Z10:=n0_;have Z11:=n1_;have Z16:=n2_;have Z21:=n3_;have HO26:=n4_;have BK9:=n5_;have BK10:=n6_;have BK15:=n7_;have BK20:=n8_;have BK28:=n9_;have HB:=n10_;have BK30:=n11_;have GW30:=n12_;have GE30:=n13_;have NB9_30:=n14_;have NB30_9:=n15_;have NB10_30:=n16_;have NB30_10:=n17_;have NB15_30:=n18_;have NB30_15:=n19_;have NB20_30:=n20_;have NB30_20:=n21_;have NB28_30:=n22_;have NB30_28:=n23_;clear n0_ n1_ n2_ n3_ n4_ n5_ n6_ n7_ n8_ n9_ n10_ n11_ n12_ n13_ n14_ n15_ n16_ n17_ n18_ n19_ n20_ n21_ n22_ n23_;clear hb hbox hg;have hnb259:=NB30_9.out;have hnc259:=NB9_30.out;have hnb260:=NB30_10.out;have hnc260:=NB10_30.out;have hnb261:=NB30_15.out;have hnc261:=NB15_30.out;have hnb262:=NB30_20.out;have hnc262:=NB20_30.out;have hnb263:=NB30_28.out;have hnc263:=NB28_30.out;have hcz264_0 : w258.cell? ⟨gb30,0,none⟩ = some (.int .i64 0):=(blk_cell BK30.out 0).trans rfl;have hcz264_1 : w258.cell? ⟨gb30,1,none⟩ = some (.int .i64 0):=(blk_cell BK30.out 1).trans rfl;have hcz264_2 : w258.cell? ⟨gb30,2,none⟩ = some (.int .i64 0):=(blk_cell BK30.out 2).trans rfl;have hcz264_3 : w258.cell? ⟨gb30,3,none⟩ = some (.int .i64 0):=(blk_cell BK30.out 3).trans rfl;have hcz264_4 : w258.cell? ⟨gb30,4,none⟩ = some (.bool false):=(blk_cell BK30.out 4).trans rfl;have hfz264_0:=blk_frozen BK30.out 0;have hfz264_1:=blk_frozen BK30.out 1;have hfz264_2:=blk_frozen BK30.out 2;have hfz264_3:=blk_frozen BK30.out 3;have hfz264_4:=blk_frozen BK30.out 4;have hnb265:=NB9_10.out;have hnc265:=NB10_9.out;have hnb266:=NB9_20.out;have hnc266:=NB20_9.out;have hnb267:=NB9_28.out;have hnc267:=NB28_9.out;have hcz268_0 : w258.cell? ⟨gb9,0,none⟩ = some (.slice Ao10 t1.length co10):=(blk_cell BK9.out 0).trans rfl;have hfz268_0:=blk_frozen BK9.out 0;have hcz269_0 : w258.cell? ⟨gb15,0,none⟩ = some (.slice (some ad29) t11.length co17):=(blk_cell BK15.out 0).trans rfl;have hfz269_0:=blk_frozen BK15.out 0) | ((with_reducible refine gate_callee (f:=14) rfl ?_);refine goesL_ (some 83) rfl rfl Try.func14 (by kernel_rfl) rfl #[.agg #[.slice Ao10 t1.length co10],.agg #[.slice (some ad29) t11.length co17],.int .i64 t7] rfl lm_ ?_;(with_reducible refine (impl_ShownNext.calls _ _ t1 _ _ t11 t7 t31 _ ?side1 ?side2 ?side3 ?side4 A80.out).mono ?_);(case side1=>refine (Kd.R_reads' (e:=87) (base:=w.heap.size) (ok:=fun k_=>True) (n:=t1.length) (c:=co10) ?_).2.2;exact (by (with_reducible repeat (first | apply Kd.R_alloc | apply Kd.R_drewN | apply Kd.R_drew));exact (Kd.R_mono (Kd.R_far (p:=⟨gb30,4,none⟩) (Kd.R_far (p:=⟨gb30,3,none⟩) (Kd.R_far (p:=⟨gb30,2,none⟩) (Kd.R_far (p:=⟨gb30,1,none⟩) (Kd.R_far (p:=⟨gb30,0,none⟩) (Kd.R_types Z10.out BK30.out (by decide)) (fun _ hk=>hk.2) (.int .i64 ((rd_T43 t11 t7).f0))) (fun _ hk=>hk.2) (.int .i64 ((rd_T43 t11 t7).f1))) (fun _ hk=>hk.2) (.int .i64 ((rd_T43 t11 t7).f2))) (fun _ hk=>hk.2) (.int .i64 ((rd_T43 t11 t7).f3))) (fun _ hk=>hk.2) (.bool ((rd_T43 t11 t7).f4))) (fun _ h_=>h_.1))));(case side2=>exact (Kd.R_reads' Z10.out).2.1);(case side3=>refine (Kd.R_reads' (e:=43) (base:=w.heap.size) (ok:=fun k_=>((some k_ ≠ (.slice Ao251 t24.length co251 : Value).ownBlock ∧ (some k_ ≠ (.slice (some ad23) t4.length co13 : Value).ownBlock ∧ some k_ ≠ (.slice Ao25 t16.length co25 : Value).ownBlock)) ∧ k_ ≠ gb30)) (n:=t11.length) (c:=co17) ?_).2.2;exact (by (with_reducible repeat (first | apply Kd.R_alloc | apply Kd.R_drewN | apply Kd.R_drew));exact (Kd.R_mono (Kd.R_far (p:=⟨gb30,4,none⟩) (Kd.R_far (p:=⟨gb30,3,none⟩) (Kd.R_far (p:=⟨gb30,2,none⟩) (Kd.R_far (p:=⟨gb30,1,none⟩) (Kd.R_far (p:=⟨gb30,0,none⟩) (Kd.R_mono Z16.out (fun k_ hk=>(⟨hk,hk.2⟩ : _ ∧ k_ ≠ gb30))) (fun _ hk=>hk.2) (.int .i64 ((rd_T43 t11 t7).f0))) (fun _ hk=>hk.2) (.int .i64 ((rd_T43 t11 t7).f1))) (fun _ hk=>hk.2) (.int .i64 ((rd_T43 t11 t7).f2))) (fun _ hk=>hk.2) (.int .i64 ((rd_T43 t11 t7).f3))) (fun _ hk=>hk.2) (.bool ((rd_T43 t11 t7).f4))) (fun _ h_=>h_.1))));(case side4=>exact (Kd.R_reads' Z16.out).2.1);rintro e w270 ⟨rfl,hb⟩;refine ⟨_,rfl,?_⟩;replace Z10:=a0_ (Kd.R_below (by (with_reducible repeat (first | apply Kd.R_alloc | apply Kd.R_drewN | apply Kd.R_drew));exact (Kd.R_mono (Kd.R_far (p:=⟨gb30,4,none⟩) (Kd.R_far (p:=⟨gb30,3,none⟩) (Kd.R_far (p:=⟨gb30,2,none⟩) (Kd.R_far (p:=⟨gb30,1,none⟩) (Kd.R_far (p:=⟨gb30,0,none⟩) (Kd.R_types Z10.out BK30.out (by decide)) (fun _ hk=>hk.2) (.int .i64 ((rd_T43 t11 t7).f0))) (fun _ hk=>hk.2) (.int .i64 ((rd_T43 t11 t7).f1))) (fun _ hk=>hk.2) (.int .i64 ((rd_T43 t11 t7).f2))) (fun _ hk=>hk.2) (.int .i64 ((rd_T43 t11 t7).f3))) (fun _ hk=>hk.2) (.bool ((rd_T43 t11 t7).f4))) (fun _ h_=>h_.1))) hb);replace Z11:=a0_ (Kd.R_below (by (with_reducible repeat (first | apply Kd.R_alloc | apply Kd.R_drewN | apply Kd.R_drew));exact (Kd.R_mono (Kd.R_far (p:=⟨gb30,4,none⟩) (Kd.R_far (p:=⟨gb30,3,none⟩) (Kd.R_far (p:=⟨gb30,2,none⟩) (Kd.R_far (p:=⟨gb30,1,none⟩) (Kd.R_far (p:=⟨gb30,0,none⟩) (Kd.R_mono Z11.out (fun k_ hk=>(⟨hk,hk.2⟩ : _ ∧ k_ ≠ gb30))) (fun _ hk=>hk.2) (.int .i64 ((rd_T43 t11 t7).f0))) (fun _ hk=>hk.2) (.int .i64 ((rd_T43 t11 t7).f1))) (fun _ hk=>hk.2) (.int .i64 ((rd_T43 t11 t7).f2))) (fun _ hk=>hk.2) (.int .i64 ((rd_T43 t11 t7).f3))) (fun _ hk=>hk.2) (.bool ((rd_T43 t11 t7).f4))) (fun _ h_=>h_.1))) hb);replace Z16:=a0_ (Kd.R_below (by (with_reducible repeat (first | apply Kd.R_alloc | apply Kd.R_drewN | apply Kd.R_drew));exact (Kd.R_mono (Kd.R_far (p:=⟨gb30,4,none⟩) (Kd.R_far (p:=⟨gb30,3,none⟩) (Kd.R_far (p:=⟨gb30,2,none⟩) (Kd.R_far (p:=⟨gb30,1,none⟩) (Kd.R_far (p:=⟨gb30,0,none⟩) (Kd.R_mono Z16.out (fun k_ hk=>(⟨hk,hk.2⟩ : _ ∧ k_ ≠ gb30))) (fun _ hk=>hk.2) (.int .i64 ((rd_T43 t11 t7).f0))) (fun _ hk=>hk.2) (.int .i64 ((rd_T43 t11 t7).f1))) (fun _ hk=>hk.2) (.int .i64 ((rd_T43 t11 t7).f2))) (fun _ hk=>hk.2) (.int .i64 ((rd_T43 t11 t7).f3))) (fun _ hk=>hk.2) (.bool ((rd_T43 t11 t7).f4))) (fun _ h_=>h_.1))) hb);replace Z21:=a0_ (Kd.R_below (by (with_reducible repeat (first | apply Kd.R_alloc | apply Kd.R_drewN | apply Kd.R_drew));exact (Kd.R_mono (Kd.R_far (p:=⟨gb30,4,none⟩) (Kd.R_far (p:=⟨gb30,3,none⟩) (Kd.R_far (p:=⟨gb30,2,none⟩) (Kd.R_far (p:=⟨gb30,1,none⟩) (Kd.R_far (p:=⟨gb30,0,none⟩) (Kd.R_mono Z21.out (fun k_ hk=>(⟨hk,hk.2⟩ : _ ∧ k_ ≠ gb30))) (fun _ hk=>hk.2) (.int .i64 ((rd_T43 t11 t7).f0))) (fun _ hk=>hk.2) (.int .i64 ((rd_T43 t11 t7).f1))) (fun _ hk=>hk.2) (.int .i64 ((rd_T43 t11 t7).f2))) (fun _ hk=>hk.2) (.int .i64 ((rd_T43 t11 t7).f3))) (fun _ hk=>hk.2) (.bool ((rd_T43 t11 t7).f4))) (fun _ h_=>h_.1))) hb);replace HO26:=a0_ (Kd.R_below (by (with_reducible repeat (first | apply Kd.R_alloc | apply Kd.R_drewN | apply Kd.R_drew));exact (Kd.R_mono (Kd.R_far (p:=⟨gb30,4,none⟩) (Kd.R_far (p:=⟨gb30,3,none⟩) (Kd.R_far (p:=⟨gb30,2,none⟩) (Kd.R_far (p:=⟨gb30,1,none⟩) (Kd.R_far (p:=⟨gb30,0,none⟩) (Kd.R_mono HO26.out (fun k_ hk=>(⟨hk,hk.2⟩ : _ ∧ k_ ≠ gb30))) (fun _ hk=>hk.2) (.int .i64 ((rd_T43 t11 t7).f0))) (fun _ hk=>hk.2) (.int .i64 ((rd_T43 t11 t7).f1))) (fun _ hk=>hk.2) (.int .i64 ((rd_T43 t11 t7).f2))) (fun _ hk=>hk.2) (.int .i64 ((rd_T43 t11 t7).f3))) (fun _ hk=>hk.2) (.bool ((rd_T43 t11 t7).f4))) (fun _ h_=>h_.1))) hb);replace BK9:=a0_ (blk_below (g:=gb9) (o:=.cells #[.slice Ao10 t1.length co10] 25 (0,0)) (bff_ BK9.out) hb);replace BK10:=a0_ (blk_below (g:=gb10) (o:=.cells #[.slice (some ad23) t4.length co13] 28 (0,0)) (bff_ BK10.out) hb);replace BK15:=a0_ (blk_below (g:=gb15) (o:=.cells #[.slice (some ad29) t11.length co17] 28 (0,0)) (bff_ BK15.out) hb);replace BK20:=a0_ (blk_below (g:=gb20) (o:=.cells #[.slice Ao25 t16.length co25] 28 (0,0)) (bff_ BK20.out) hb);replace BK28:=a0_ (blk_below (g:=gb28) (o:=.cells #[.slice Ao251 t24.length co251] 28 (0,0)) (bff_ BK28.out) hb);replace BK30:=a0_ (blk_below (g:=gb30) (o:=.cells #[.int .i64 ((rd_T43 t11 t7).f0),.int .i64 ((rd_T43 t11 t7).f1),.int .i64 ((rd_T43 t11 t7).f2),.int .i64 ((rd_T43 t11 t7).f3),.bool ((rd_T43 t11 t7).f4)] 43 (0,0)) (by (with_reducible repeat (first | refine blk_drewN ?_ _ | refine blk_drew ?_ | refine blk_alloc ?_ _));refine blk_put (cs:=#[.int .i64 ((rd_T43 t11 t7).f0),.int .i64 ((rd_T43 t11 t7).f1),.int .i64 ((rd_T43 t11 t7).f2),.int .i64 ((rd_T43 t11 t7).f3),.bool false]) ?_ 4 _ rfl;(with_reducible repeat (first | refine blk_drewN ?_ _ | refine blk_drew ?_ | refine blk_alloc ?_ _));refine blk_put (cs:=#[.int .i64 ((rd_T43 t11 t7).f0),.int .i64 ((rd_T43 t11 t7).f1),.int .i64 ((rd_T43 t11 t7).f2),.int .i64 0,.bool false]) ?_ 3 _ rfl;(with_reducible repeat (first | refine blk_drewN ?_ _ | refine blk_drew ?_ | refine blk_alloc ?_ _));refine blk_put (cs:=#[.int .i64 ((rd_T43 t11 t7).f0),.int .i64 ((rd_T43 t11 t7).f1),.int .i64 0,.int .i64 0,.bool false]) ?_ 2 _ rfl;(with_reducible repeat (first | refine blk_drewN ?_ _ | refine blk_drew ?_ | refine blk_alloc ?_ _));refine blk_put (cs:=#[.int .i64 ((rd_T43 t11 t7).f0),.int .i64 0,.int .i64 0,.int .i64 0,.bool false]) ?_ 1 _ rfl;(with_reducible repeat (first | refine blk_drewN ?_ _ | refine blk_drew ?_ | refine blk_alloc ?_ _));refine blk_put (cs:=#[.int .i64 0,.int .i64 0,.int .i64 0,.int .i64 0,.bool false]) ?_ 0 _ rfl;(with_reducible repeat (first | refine blk_drewN ?_ _ | refine blk_drew ?_ | refine blk_alloc ?_ _));exact BK30.out) hb);replace HB:=a0_ (below_step hb_ hb);(try clear hb);have hnb271:=NB28_10.out;have hnc271:=NB10_28.out;have hnb272:=NB28_20.out;have hnc272:=NB20_28.out;have hcz273_0 : w270.cell? ⟨gb28,0,none⟩ = some (.slice Ao251 t24.length co251):=(blk_cell BK28.out 0).trans rfl;have hfz273_0:=blk_frozen BK28.out 0;have hnb274:=NB10_20.out;have hnc274:=NB20_10.out;have hcz275_0 : w270.cell? ⟨gb10,0,none⟩ = some (.slice (some ad23) t4.length co13):=(blk_cell BK10.out 0).trans rfl;have hfz275_0:=blk_frozen BK10.out 0) | (go_at_call 19;(with_reducible refine (laws_equalHeap.calls kj5 _ _ t24 _ _ t4 true _ ?side1 ?side2 ?side3 ?side4 A82.out).mono ?_);(case side1=>exact cc_ (Kd.R_reads' HO26.out).2.2);(case side2=>exact (Kd.R_reads' HO26.out).2.1);(case side3=>exact cc_ (Kd.R_reads' Z11.out).2.2);(case side4=>exact (Kd.R_reads' Z11.out).2.1);rintro e w276 ⟨rfl,hb⟩;replace Z10:=rb_ Z10 hb;replace Z11:=rb_ Z11 hb;replace Z16:=rb_ Z16 hb;replace Z21:=rb_ Z21 hb;replace HO26:=rb_ HO26 hb;replace BK9:=kb_ BK9 hb;replace BK10:=kb_ BK10 hb;replace BK15:=kb_ BK15 hb;replace BK20:=kb_ BK20 hb;replace BK28:=kb_ BK28 hb;replace BK30:=kb_ BK30 hb;replace HB:=a0_ (below_step hb_ hb);(try clear hb);have hcz277_0 : w276.cell? ⟨gb30,0,none⟩ = some (.int .i64 ((rd_T43 t11 t7).f0)):=(blk_cell BK30.out 0).trans rfl;have hcz277_1 : w276.cell? ⟨gb30,1,none⟩ = some (.int .i64 ((rd_T43 t11 t7).f1)):=(blk_cell BK30.out 1).trans rfl;have hcz277_2 : w276.cell? ⟨gb30,2,none⟩ = some (.int .i64 ((rd_T43 t11 t7).f2)):=(blk_cell BK30.out 2).trans rfl;have hcz277_3 : w276.cell? ⟨gb30,3,none⟩ = some (.int .i64 ((rd_T43 t11 t7).f3)):=(blk_cell BK30.out 3).trans rfl;have hcz277_4 : w276.cell? ⟨gb30,4,none⟩ = some (.bool ((rd_T43 t11 t7).f4)):=(blk_cell BK30.out 4).trans rfl;have hfz277_0:=blk_frozen BK30.out 0;have hfz277_1:=blk_frozen BK30.out 1;have hfz277_2:=blk_frozen BK30.out 2;have hfz277_3:=blk_frozen BK30.out 3;have hfz277_4:=blk_frozen BK30.out 4))
              go_ret
              exact ⟨by first | rfl | (simp [errW_none,errW_some] <;> rfl) | (simp [*,errW_none,errW_some] <;> rfl),hb_⟩
             ·rw [if_neg c246] at H
              have c246b0 : (t31 == (-1)) = false:=beq_eq_false_iff_ne.mpr c246
              have c246b1 : (t31 != (-1)) = true:=bne_iff_ne.mpr c246
              exact absurd ((Option.some.inj H).trans hrt) (by decide)
            ·replace c245:=Bool.eq_false_iff.mpr c245
             subst c245
             have H1 : (some (t31 == ((rd_T43 t11 t7).f3))) = some r:=by rw [if_neg (show ¬ (false = true) by decide)] at H;exact H
             clear H
             have H:=H1
             clear H1
             obtain rfl:=Option.some.inj H
             try go_wp2
             have n0_:=a0_ (Kd.R_drew Z10.out)
             have n1_:=a0_ (Kd.R_drew Z11.out)
             have n2_:=a0_ (Kd.R_drew Z16.out)
             have n3_:=a0_ (Kd.R_drew Z21.out)
             have n4_:=a0_ (blk_drew BK9.out)
             have n5_:=a0_ (blk_drew BK10.out)
             have n6_:=a0_ (blk_drew BK15.out)
             have n7_:=a0_ (blk_drew BK20.out)
             have n8_:=a0_ (below_drew1 HB.out)
             clear Z10
             clear Z11
             clear Z16
             clear Z21
             clear BK9
             clear BK10
             clear BK15
             clear BK20
             clear HB
             have Z10:=n0_
             have Z11:=n1_
             have Z16:=n2_
             have Z21:=n3_
             have BK9:=n4_
             have BK10:=n5_
             have BK15:=n6_
             have BK20:=n7_
             have HB:=n8_
             clear n0_ n1_ n2_ n3_ n4_ n5_ n6_ n7_ n8_
             have p23 : 0 ≤ (t7 : Int):=of_decide_eq_true (by first | (with_reducible assumption) | assumption)
             have q23 : t7 < (t4.length : Int):=of_decide_eq_true (by first | (with_reducible assumption) | assumption)
             obtain ⟨ad23,e23,hx23_0,hx23_1,hx23_2,hx23_3,hx23_4⟩:=at_T43 (Kd.R_reads' Z11.out).2.2 t7 p23 q23
             cases e23
             replace p23:=eq_true p23
             replace q23:=eq_true q23
             refine start_ (n:=16) (S:=fun w'=>w'.cell? ⟨gb9,0,none⟩ = some (.slice Ao10 t1.length co10) ∧ w'.cell? ⟨gb15,0,none⟩ = some (.slice Ao17 t11.length co17) ∧ w'.cell? ⟨gb10,0,none⟩ = some (.slice (some ad23) t4.length co13) ∧ w'.cell? (ad23.add ((t7).toNat * 5)) = some (.int .i64 ((rd_T43 t4 t7).f0)) ∧ w'.cell? ⟨(ad23.add ((t7).toNat * 5)).block,(ad23.add ((t7).toNat * 5)).off + 1,none⟩ = some (.int .i64 ((rd_T43 t4 t7).f1)) ∧ w'.cell? ⟨(ad23.add ((t7).toNat * 5)).block,(ad23.add ((t7).toNat * 5)).off + 2,none⟩ = some (.int .i64 ((rd_T43 t4 t7).f2)) ∧ w'.cell? ⟨(ad23.add ((t7).toNat * 5)).block,(ad23.add ((t7).toNat * 5)).off + 3,none⟩ = some (.int .i64 ((rd_T43 t4 t7).f3)) ∧ w'.cell? ⟨(ad23.add ((t7).toNat * 5)).block,(ad23.add ((t7).toNat * 5)).off + 4,none⟩ = some (.bool ((rd_T43 t4 t7).f4))) (ds:=[]) #[false,false,false,false,false,false,false,false,false,false,false,false,false,false,false,false] (by kernel_rfl) rfl rfl ⟨(blk_cell BK9.out 0).trans rfl,(blk_cell BK15.out 0).trans rfl,(blk_cell BK10.out 0).trans rfl,hx23_0,hx23_1,hx23_2,hx23_3,hx23_4⟩ (fun hHeld=>?_);refine with_tabW laws_FnHideContext.tab8 laws_FnHideContext.bits8 (fun HT_ HW_=>?_)
             generalize wc.drew = w309 at Z10 Z11 Z16 Z21 BK9 BK10 BK15 BK20 HB hx23_0 hx23_1 hx23_2 hx23_3 hx23_4 hHeld ⊢
             refine pure_ (i:=2) (N:=some 65) (v:=?_) (a':=?_) #[false,false,true,false,false,false,false,false,false,false,false,false,false,false,false,false] rfl rfl (any_of HT_.out (by kernel_rfl)) (fun _ _ _ h=>h) (Or.inl ⟨by rfl,?_⟩) ?_ ?_
             rotate_left
             ·intro w'
              go_simp
              with_reducible rfl
             rotate_left
             ·simp only [Act.put,s1_,s2_,s3_,i64_w,i32_w]
              rfl
             refine pure_ (i:=3) (N:=some 66) (v:=?_) (a':=?_) #[false,false,true,true,false,false,false,false,false,false,false,false,false,false,false,false] rfl rfl (any_of HT_.out (by kernel_rfl)) (fun _ _ _ h=>h) (Or.inl ⟨by rfl,?_⟩) ?_ ?_
             rotate_left
             ·intro w'
              go_simp
              with_reducible rfl
             rotate_left
             ·simp only [Act.put,s1_,s2_,s3_,i64_w,i32_w]
              rfl
             refine pure_ (i:=5) (N:=some 68) (v:=?_) (a':=?_) #[false,false,true,true,false,true,false,false,false,false,false,false,false,false,false,false] rfl rfl (any_of HT_.out (by kernel_rfl)) (fun _ _ _ h=>h) (Or.inl ⟨by rfl,?_⟩) ?_ ?_
             rotate_left
             ·intro w'
              go_simp
              with_reducible rfl
             rotate_left
             ·simp only [Act.put,s1_,s2_,s3_,i64_w,i32_w]
              rfl
             refine take_ (i:=0) (N:=some 63) (v:=?_) (a':=?_) #[true,false,true,true,false,true,false,false,false,false,false,false,false,false,false,false] rfl rfl (take_ofW HT_.out HW_.out (by kernel_rfl)) (fun _ _ _ h=>h) (Or.inl ⟨by rfl,?_⟩) hHeld ?_ ?_
             rotate_left
             ·rintro w' ⟨s0,s1,s2,s3,s4,s5,s6,s7⟩
              go_simp
              with_reducible rfl
             rotate_left
             ·simp only [Act.put,s1_,s2_,s3_,i64_w,i32_w]
              rfl
             refine take_ (i:=1) (N:=some 64) (v:=?_) (a':=?_) #[true,true,true,true,false,true,false,false,false,false,false,false,false,false,false,false] rfl rfl (take_ofW HT_.out HW_.out (by kernel_rfl)) (fun _ _ _ h=>h) (Or.inl ⟨by rfl,?_⟩) hHeld ?_ ?_
             rotate_left
             ·rintro w' ⟨s0,s1,s2,s3,s4,s5,s6,s7⟩
              go_simp
              with_reducible rfl
             rotate_left
             ·simp only [Act.put,s1_,s2_,s3_,i64_w,i32_w]
              rfl
             refine take_ (i:=4) (N:=some 67) (v:=?_) (a':=?_) #[true,true,true,true,true,true,false,false,false,false,false,false,false,false,false,false] rfl rfl (take_ofW HT_.out HW_.out (by kernel_rfl)) (fun _ _ _ h=>h) (Or.inl ⟨by rfl,?_⟩) hHeld ?_ ?_
             rotate_left
             ·rintro w' ⟨s0,s1,s2,s3,s4,s5,s6,s7⟩
              go_simp
              with_reducible rfl
             rotate_left
             ·simp only [Act.put,s1_,s2_,s3_,i64_w,i32_w]
              rfl
             refine pure_ (i:=6) (N:=some 69) (v:=?_) (a':=?_) #[true,true,true,true,true,true,true,false,false,false,false,false,false,false,false,false] rfl rfl (any_of HT_.out (by kernel_rfl)) (fun _ _ _ h=>h) (Or.inl ⟨by rfl,?_⟩) ?_ ?_
             rotate_left
             ·intro w'
              go_simp
              with_reducible rfl
             rotate_left
             ·simp only [Act.put,s1_,s2_,s3_,i64_w,i32_w]
              rfl
             refine pure_ (i:=7) (N:=some 70) (v:=?_) (a':=?_) #[true,true,true,true,true,true,true,true,false,false,false,false,false,false,false,false] rfl rfl (any_of HT_.out (by kernel_rfl)) (fun _ _ _ h=>h) (Or.inl ⟨by rfl,?_⟩) ?_ ?_
             rotate_left
             ·intro w'
              go_simp
              with_reducible rfl
             rotate_left
             ·simp only [Act.put,s1_,s2_,s3_,i64_w,i32_w]
              rfl
             refine take_ (i:=8) (N:=some 71) (v:=?_) (a':=?_) #[true,true,true,true,true,true,true,true,true,false,false,false,false,false,false,false] rfl rfl (take_ofW HT_.out HW_.out (by kernel_rfl)) (fun _ _ _ h=>h) (Or.inl ⟨by rfl,?_⟩) hHeld ?_ ?_
             rotate_left
             ·rintro w' ⟨s0,s1,s2,s3,s4,s5,s6,s7⟩
              go_simp
              with_reducible rfl
             rotate_left
             ·simp only [Act.put,s1_,s2_,s3_,i64_w,i32_w]
              rfl
             refine join_ (σ:=Value × Nat) 2 #[true,true,true,true,true,true,true,true,true,true,true,true,true,true,false,false] (fun s_=>[(72,.tuple #[.agg #[s_.1],.bool true]),(11,.pointer (some ⟨s_.2,0,none⟩)),(62,.tuple #[.agg #[s_.1],.bool true]),(73,.agg #[s_.1]),(74,.bool true)]) (fun s_ w'=>(w'.cell? ⟨gb9,0,none⟩ = some (.slice Ao10 t1.length co10) ∧ w'.cell? ⟨gb15,0,none⟩ = some (.slice Ao17 t11.length co17) ∧ w'.cell? ⟨gb10,0,none⟩ = some (.slice (some ad23) t4.length co13) ∧ w'.cell? (ad23.add ((t7).toNat * 5)) = some (.int .i64 ((rd_T43 t4 t7).f0)) ∧ w'.cell? ⟨(ad23.add ((t7).toNat * 5)).block,(ad23.add ((t7).toNat * 5)).off + 1,none⟩ = some (.int .i64 ((rd_T43 t4 t7).f1)) ∧ w'.cell? ⟨(ad23.add ((t7).toNat * 5)).block,(ad23.add ((t7).toNat * 5)).off + 2,none⟩ = some (.int .i64 ((rd_T43 t4 t7).f2)) ∧ w'.cell? ⟨(ad23.add ((t7).toNat * 5)).block,(ad23.add ((t7).toNat * 5)).off + 3,none⟩ = some (.int .i64 ((rd_T43 t4 t7).f3)) ∧ w'.cell? ⟨(ad23.add ((t7).toNat * 5)).block,(ad23.add ((t7).toNat * 5)).off + 4,none⟩ = some (.bool ((rd_T43 t4 t7).f4))) ∧ (Kd.R k43 43 w' w.heap.size (fun k_=>some k_ ≠ (.slice (some ad23) t4.length co13 : Value).ownBlock ∧ some k_ ≠ (.slice Ao17 t11.length co17 : Value).ownBlock ∧ some k_ ≠ (.slice Ao25 t16.length co25 : Value).ownBlock) s_.1 t24) ∧ (Kd.R k87 87 w' w.heap.size (fun _=>True) (.slice Ao10 t1.length co10) t1) ∧ (Kd.R k43 43 w' w.heap.size (fun k_=>some k_ ≠ (s_.1 : Value).ownBlock ∧ some k_ ≠ (.slice Ao17 t11.length co17 : Value).ownBlock ∧ some k_ ≠ (.slice Ao25 t16.length co25 : Value).ownBlock) (.slice (some ad23) t4.length co13) t4) ∧ (Kd.R k43 43 w' w.heap.size (fun k_=>some k_ ≠ (s_.1 : Value).ownBlock ∧ some k_ ≠ (.slice (some ad23) t4.length co13 : Value).ownBlock ∧ some k_ ≠ (.slice Ao25 t16.length co25 : Value).ownBlock) (.slice Ao17 t11.length co17) t11) ∧ (Kd.R k43 43 w' w.heap.size (fun k_=>some k_ ≠ (s_.1 : Value).ownBlock ∧ some k_ ≠ (.slice (some ad23) t4.length co13 : Value).ownBlock ∧ some k_ ≠ (.slice Ao17 t11.length co17 : Value).ownBlock) (.slice Ao25 t16.length co25) t16) ∧ (w'.heap[gb10]? = some (.cells #[.slice (some ad23) t4.length co13] 28 (0,0))) ∧ (w'.heap[gb15]? = some (.cells #[.slice Ao17 t11.length co17] 28 (0,0))) ∧ (w'.heap[gb20]? = some (.cells #[.slice Ao25 t16.length co25] 28 (0,0))) ∧ (w'.heap[s_.2]? = some (.cells #[.slice none 0 0] 28 (0,0))) ∧ (w'.heap[gb9]? = some (.cells #[.slice Ao10 t1.length co10] 25 (0,0))) ∧ (w.heap.size ≤ s_.2) ∧ (w.heap.size ≤ s_.2) ∧ (gb10 ≠ s_.2) ∧ (s_.2 ≠ gb10) ∧ (gb15 ≠ s_.2) ∧ (s_.2 ≠ gb15) ∧ (gb20 ≠ s_.2) ∧ (s_.2 ≠ gb20) ∧ (gb9 ≠ s_.2) ∧ (s_.2 ≠ gb9) ∧ (Below w.heap.size w w')) ?_ ?_
             rotate_left
             ·intro hCont
              refine two_ (i:=9) (j:=13) (Ni:=some 72) (Nj:=some 11) #[true,true,true,true,true,true,true,true,true,true,false,false,false,false,false,false] #[true,true,true,true,true,true,true,true,true,false,false,false,false,true,false,false] rfl rfl rfl rfl (two_of HT_.out (by kernel_rfl)) (by decide) (by decide) (fun K hK=>?_) (fun K hK=>?_)
              ·skip
               refine goes_ Try.func21 (by kernel_rfl) rfl #[.agg #[.slice Ao10 t1.length co10],.agg #[.slice Ao17 t11.length co17],.int .i64 t7,.bool ((rd_T43 t4 t7).f4)] (by rfl) rfl rfl lm_ ?_
               with_reducible refine (impl_HideContext.calls _ _ t1 _ _ t11 t7 ((rd_T43 t4 t7).f4) t24 true _ ?side1 ?side2 ?side3 ?side4 A78.out).mono ?_
               (case side1=>exact cc_ (Kd.R_reads' Z10.out).2.2)
               (case side2=>exact (Kd.R_reads' Z10.out).2.1)
               (case side3=>exact cc_ (Kd.R_reads' Z16.out).2.2)
               (case side4=>exact (Kd.R_reads' Z16.out).2.1)
               rintro e w310 ⟨v25,rfl,ho0,hb⟩
               have HS3_:=(hb.cell (World.block_lt_of_cell? _ _ (hHeld.2.2.2.1))).trans (hHeld.2.2.2.1)
               have HS4_:=(hb.cell (World.block_lt_of_cell? _ _ (hHeld.2.2.2.2.1))).trans (hHeld.2.2.2.2.1)
               have HS5_:=(hb.cell (World.block_lt_of_cell? _ _ (hHeld.2.2.2.2.2.1))).trans (hHeld.2.2.2.2.2.1)
               have HS6_:=(hb.cell (World.block_lt_of_cell? _ _ (hHeld.2.2.2.2.2.2.1))).trans (hHeld.2.2.2.2.2.2.1)
               have HS7_:=(hb.cell (World.block_lt_of_cell? _ _ (hHeld.2.2.2.2.2.2.2))).trans (hHeld.2.2.2.2.2.2.2)
               refine ⟨_,rfl,?_⟩
               have n0_:=rb_ Z10 hb
               have n1_:=a0_ (Kd.R_elder' (rr_ Z11.out) (Kd.R_base ho0) hb)
               have n2_:=a0_ (Kd.R_elder' (rr_ Z16.out) (Kd.R_base ho0) hb)
               have n3_:=a0_ (Kd.R_elder' (rr_ Z21.out) (Kd.R_base ho0) hb)
               have n4_:=a0_ (Kd.R_lower (Kd.R_new' (Kd.R_new' (Kd.R_new' ho0 (Kd.R_lt (rr_ Z11.out))) (Kd.R_lt (rr_ Z16.out))) (Kd.R_lt (rr_ Z21.out))) (below_size hb_))
               have n5_:=kb_ BK9 hb
               have n6_:=kb_ BK10 hb
               have n7_:=kb_ BK15 hb
               have n8_:=kb_ BK20 hb
               have n9_:=a0_ (below_step hb_ hb)
               clear Z10
               clear Z11
               clear Z16
               clear Z21
               clear BK9
               clear BK10
               clear BK15
               clear BK20
               clear HB
               have Z10:=n0_
               have Z11:=n1_
               have Z16:=n2_
               have Z21:=n3_
               have HO26:=n4_
               have BK9:=n5_
               have BK10:=n6_
               have BK15:=n7_
               have BK20:=n8_
               have HB:=n9_
               clear n0_ n1_ n2_ n3_ n4_ n5_ n6_ n7_ n8_ n9_
               (try clear hb)
               (try clear hb2)
               (try clear hk)
               (try clear hi)
               (try clear ho0)
               refine hK.out _ _ ⟨(blk_cell BK9.out 0).trans rfl,(blk_cell BK15.out 0).trans rfl,(blk_cell BK10.out 0).trans rfl,HS3_,HS4_,HS5_,HS6_,HS7_⟩ (fun hHeld=>?_)
               clear hK K
               refine norm_ (a':=?_) ?_ ?_
               rotate_left
               ·show Act.put _ (some 72) _ = _
                simp only [Act.put,s1_,s2_,s3_,i64_w,i32_w]
                rfl
               refine pure_ (i:=10) (N:=some 62) (v:=?_) (a':=?_) #[true,true,true,true,true,true,true,true,true,true,true,false,false,false,false,false] rfl rfl (any_of HT_.out (by kernel_rfl)) (fun _ _ _ h=>h) (Or.inl ⟨by rfl,?_⟩) ?_ ?_
               rotate_left
               ·intro w'
                go_simp
                with_reducible rfl
               rotate_left
               ·simp only [Act.put,s1_,s2_,s3_,i64_w,i32_w]
                rfl
               refine pure_ (i:=11) (N:=some 73) (v:=?_) (a':=?_) #[true,true,true,true,true,true,true,true,true,true,true,true,false,false,false,false] rfl rfl (any_of HT_.out (by kernel_rfl)) (fun _ _ _ h=>h) (Or.inl ⟨by rfl,?_⟩) ?_ ?_
               rotate_left
               ·intro w'
                go_simp
                with_reducible rfl
               rotate_left
               ·simp only [Act.put,s1_,s2_,s3_,i64_w,i32_w]
                rfl
               refine pure_ (i:=12) (N:=some 74) (v:=?_) (a':=?_) #[true,true,true,true,true,true,true,true,true,true,true,true,true,false,false,false] rfl rfl (any_of HT_.out (by kernel_rfl)) (fun _ _ _ h=>h) (Or.inl ⟨by rfl,?_⟩) ?_ ?_
               rotate_left
               ·intro w'
                go_simp
                with_reducible rfl
               rotate_left
               ·simp only [Act.put,s1_,s2_,s3_,i64_w,i32_w]
                rfl
               refine one_ (i:=13) (N:=some 11) #[true,true,true,true,true,true,true,true,true,true,true,true,true,true,false,false] rfl rfl (one_of HT_.out (by kernel_rfl)) (by decide) (fun K hK=>?_)
               refine box_step ?hg (N:=11) ?hd (cs:=#[.slice none 0 0]) (t:=28) ?hr ?_;(case hd=>rfl);(case hg=>rfl);(case hr=>first | (go_simp;done) | (go_simp;rfl))
               intro gb28 hg w311 hbox hb
               have HS3_:=(hb.cell (World.block_lt_of_cell? _ _ (hHeld.2.2.2.1))).trans (hHeld.2.2.2.1)
               have HS4_:=(hb.cell (World.block_lt_of_cell? _ _ (hHeld.2.2.2.2.1))).trans (hHeld.2.2.2.2.1)
               have HS5_:=(hb.cell (World.block_lt_of_cell? _ _ (hHeld.2.2.2.2.2.1))).trans (hHeld.2.2.2.2.2.1)
               have HS6_:=(hb.cell (World.block_lt_of_cell? _ _ (hHeld.2.2.2.2.2.2.1))).trans (hHeld.2.2.2.2.2.2.1)
               have HS7_:=(hb.cell (World.block_lt_of_cell? _ _ (hHeld.2.2.2.2.2.2.2))).trans (hHeld.2.2.2.2.2.2.2)
               have n0_:=rb_ Z10 hb
               have n1_:=rb_ Z11 hb
               have n2_:=rb_ Z16 hb
               have n3_:=rb_ Z21 hb
               have n4_:=rb_ HO26 hb
               have n5_:=kb_ BK9 hb
               have n6_:=kb_ BK10 hb
               have n7_:=kb_ BK15 hb
               have n8_:=kb_ BK20 hb
               have n9_:=a0_ (below_step hb_ hb)
               have n10_:=a0_ (hbox)
               have n11_:=a0_ ((by rw [hg];exact (below_size hb_) : w.heap.size ≤ gb28))
               have n12_:=a0_ ((by rw [hg];exact (below_size hb_) : w.heap.size ≤ gb28))
               have n13_:=a0_ ((by rw [hg];exact Nat.ne_of_lt (blk_lt (bb_ BK9.out)) : gb9 ≠ gb28))
               have n14_:=a0_ ((by rw [hg];exact Nat.ne_of_gt (blk_lt (bb_ BK9.out)) : gb28 ≠ gb9))
               have n15_:=a0_ ((by rw [hg];exact Nat.ne_of_lt (blk_lt (bb_ BK10.out)) : gb10 ≠ gb28))
               have n16_:=a0_ ((by rw [hg];exact Nat.ne_of_gt (blk_lt (bb_ BK10.out)) : gb28 ≠ gb10))
               have n17_:=a0_ ((by rw [hg];exact Nat.ne_of_lt (blk_lt (bb_ BK15.out)) : gb15 ≠ gb28))
               have n18_:=a0_ ((by rw [hg];exact Nat.ne_of_gt (blk_lt (bb_ BK15.out)) : gb28 ≠ gb15))
               have n19_:=a0_ ((by rw [hg];exact Nat.ne_of_lt (blk_lt (bb_ BK20.out)) : gb20 ≠ gb28))
               have n20_:=a0_ ((by rw [hg];exact Nat.ne_of_gt (blk_lt (bb_ BK20.out)) : gb28 ≠ gb20))
               clear Z10
               clear Z11
               clear Z16
               clear Z21
               clear HO26
               clear BK9
               clear BK10
               clear BK15
               clear BK20
               clear HB
               have Z10:=n0_
               have Z11:=n1_
               have Z16:=n2_
               have Z21:=n3_
               have HO26:=n4_
               have BK9:=n5_
               have BK10:=n6_
               have BK15:=n7_
               have BK20:=n8_
               have HB:=n9_
               have BK28:=n10_
               have GW28:=n11_
               have GE28:=n12_
               have NB9_28:=n13_
               have NB28_9:=n14_
               have NB10_28:=n15_
               have NB28_10:=n16_
               have NB15_28:=n17_
               have NB28_15:=n18_
               have NB20_28:=n19_
               have NB28_20:=n20_
               clear n0_ n1_ n2_ n3_ n4_ n5_ n6_ n7_ n8_ n9_ n10_ n11_ n12_ n13_ n14_ n15_ n16_ n17_ n18_ n19_ n20_
               clear hb hbox hg
               refine hK.out _ _ ⟨(blk_cell BK9.out 0).trans rfl,(blk_cell BK15.out 0).trans rfl,(blk_cell BK10.out 0).trans rfl,HS3_,HS4_,HS5_,HS6_,HS7_⟩ (fun hHeld=>?_)
               clear hK K
               refine norm_ (a':=?_) ?_ ?_
               rotate_left
               ·show Act.put _ (some 11) _ = _
                simp only [Act.put,s1_,s2_,s3_,i64_w,i32_w]
                rfl
               exact norm_ (by simp only [putAll,Act.put,s1_,s2_,s3_]) (hCont (v25,gb28) _ ⟨hHeld,(rm_ HO26.out (fun _ hk=>⟨hk.1.1.2,⟨hk.1.2,hk.2⟩⟩)),(rr_ Z10.out),(rm_ Z11.out (fun _ hk=>⟨hk.2,⟨hk.1.1,hk.1.2⟩⟩)),(rm_ Z16.out (fun _ hk=>⟨hk.2,⟨hk.1.1,hk.1.2⟩⟩)),(rm_ Z21.out (fun _ hk=>⟨hk.2,⟨hk.1.1,hk.1.2⟩⟩)),(bb_ BK10.out),(bb_ BK15.out),(bb_ BK20.out),(bb_ BK28.out),(bb_ BK9.out),GW28.out,GE28.out,NB10_28.out,NB28_10.out,NB15_28.out,NB28_15.out,NB20_28.out,NB28_20.out,NB9_28.out,NB28_9.out,hb_⟩)
              ·skip
               refine box_step ?hg (N:=11) ?hd (cs:=#[.slice none 0 0]) (t:=28) ?hr ?_;(case hd=>rfl);(case hg=>rfl);(case hr=>first | (go_simp;done) | (go_simp;rfl))
               intro gb28 hg w310 hbox hb
               have HS3_:=(hb.cell (World.block_lt_of_cell? _ _ (hHeld.2.2.2.1))).trans (hHeld.2.2.2.1)
               have HS4_:=(hb.cell (World.block_lt_of_cell? _ _ (hHeld.2.2.2.2.1))).trans (hHeld.2.2.2.2.1)
               have HS5_:=(hb.cell (World.block_lt_of_cell? _ _ (hHeld.2.2.2.2.2.1))).trans (hHeld.2.2.2.2.2.1)
               have HS6_:=(hb.cell (World.block_lt_of_cell? _ _ (hHeld.2.2.2.2.2.2.1))).trans (hHeld.2.2.2.2.2.2.1)
               have HS7_:=(hb.cell (World.block_lt_of_cell? _ _ (hHeld.2.2.2.2.2.2.2))).trans (hHeld.2.2.2.2.2.2.2)
               have n0_:=rb_ Z10 hb
               have n1_:=rb_ Z11 hb
               have n2_:=rb_ Z16 hb
               have n3_:=rb_ Z21 hb
               have n4_:=kb_ BK9 hb
               have n5_:=kb_ BK10 hb
               have n6_:=kb_ BK15 hb
               have n7_:=kb_ BK20 hb
               have n8_:=a0_ (below_step hb_ hb)
               have n9_:=a0_ (hbox)
               have n10_:=a0_ ((by rw [hg];exact (below_size hb_) : w.heap.size ≤ gb28))
               have n11_:=a0_ ((by rw [hg];exact (below_size hb_) : w.heap.size ≤ gb28))
               have n12_:=a0_ ((by rw [hg];exact Nat.ne_of_lt (blk_lt (bb_ BK9.out)) : gb9 ≠ gb28))
               have n13_:=a0_ ((by rw [hg];exact Nat.ne_of_gt (blk_lt (bb_ BK9.out)) : gb28 ≠ gb9))
               have n14_:=a0_ ((by rw [hg];exact Nat.ne_of_lt (blk_lt (bb_ BK10.out)) : gb10 ≠ gb28))
               have n15_:=a0_ ((by rw [hg];exact Nat.ne_of_gt (blk_lt (bb_ BK10.out)) : gb28 ≠ gb10))
               have n16_:=a0_ ((by rw [hg];exact Nat.ne_of_lt (blk_lt (bb_ BK15.out)) : gb15 ≠ gb28))
               have n17_:=a0_ ((by rw [hg];exact Nat.ne_of_gt (blk_lt (bb_ BK15.out)) : gb28 ≠ gb15))
               have n18_:=a0_ ((by rw [hg];exact Nat.ne_of_lt (blk_lt (bb_ BK20.out)) : gb20 ≠ gb28))
               have n19_:=a0_ ((by rw [hg];exact Nat.ne_of_gt (blk_lt (bb_ BK20.out)) : gb28 ≠ gb20))
               clear Z10
               clear Z11
               clear Z16
               clear Z21
               clear BK9
               clear BK10
               clear BK15
               clear BK20
               clear HB
               have Z10:=n0_
               have Z11:=n1_
               have Z16:=n2_
               have Z21:=n3_
               have BK9:=n4_
               have BK10:=n5_
               have BK15:=n6_
               have BK20:=n7_
               have HB:=n8_
               have BK28:=n9_
               have GW28:=n10_
               have GE28:=n11_
               have NB9_28:=n12_
               have NB28_9:=n13_
               have NB10_28:=n14_
               have NB28_10:=n15_
               have NB15_28:=n16_
               have NB28_15:=n17_
               have NB20_28:=n18_
               have NB28_20:=n19_
               clear n0_ n1_ n2_ n3_ n4_ n5_ n6_ n7_ n8_ n9_ n10_ n11_ n12_ n13_ n14_ n15_ n16_ n17_ n18_ n19_
               clear hb hbox hg
               refine hK.out _ _ ⟨(blk_cell BK9.out 0).trans rfl,(blk_cell BK15.out 0).trans rfl,(blk_cell BK10.out 0).trans rfl,HS3_,HS4_,HS5_,HS6_,HS7_⟩ (fun hHeld=>?_)
               clear hK K
               refine norm_ (a':=?_) ?_ ?_
               rotate_left
               ·show Act.put _ (some 11) _ = _
                simp only [Act.put,s1_,s2_,s3_,i64_w,i32_w]
                rfl
               refine one_ (i:=9) (N:=some 72) #[true,true,true,true,true,true,true,true,true,true,false,false,false,true,false,false] rfl rfl (one_of HT_.out (by kernel_rfl)) (by decide) (fun K hK=>?_)
               refine goes_ Try.func21 (by kernel_rfl) rfl #[.agg #[.slice Ao10 t1.length co10],.agg #[.slice Ao17 t11.length co17],.int .i64 t7,.bool ((rd_T43 t4 t7).f4)] (by rfl) rfl rfl lm_ ?_
               with_reducible refine (impl_HideContext.calls _ _ t1 _ _ t11 t7 ((rd_T43 t4 t7).f4) t24 true _ ?side1 ?side2 ?side3 ?side4 A78.out).mono ?_
               (case side1=>exact cc_ (Kd.R_reads' Z10.out).2.2)
               (case side2=>exact (Kd.R_reads' Z10.out).2.1)
               (case side3=>exact cc_ (Kd.R_reads' Z16.out).2.2)
               (case side4=>exact (Kd.R_reads' Z16.out).2.1)
               rintro e w311 ⟨v25,rfl,ho0,hb⟩
               have HS3_:=(hb.cell (World.block_lt_of_cell? _ _ (hHeld.2.2.2.1))).trans (hHeld.2.2.2.1)
               have HS4_:=(hb.cell (World.block_lt_of_cell? _ _ (hHeld.2.2.2.2.1))).trans (hHeld.2.2.2.2.1)
               have HS5_:=(hb.cell (World.block_lt_of_cell? _ _ (hHeld.2.2.2.2.2.1))).trans (hHeld.2.2.2.2.2.1)
               have HS6_:=(hb.cell (World.block_lt_of_cell? _ _ (hHeld.2.2.2.2.2.2.1))).trans (hHeld.2.2.2.2.2.2.1)
               have HS7_:=(hb.cell (World.block_lt_of_cell? _ _ (hHeld.2.2.2.2.2.2.2))).trans (hHeld.2.2.2.2.2.2.2)
               refine ⟨_,rfl,?_⟩
               have n0_:=rb_ Z10 hb
               have n1_:=a0_ (Kd.R_elder' (rr_ Z11.out) (Kd.R_base ho0) hb)
               have n2_:=a0_ (Kd.R_elder' (rr_ Z16.out) (Kd.R_base ho0) hb)
               have n3_:=a0_ (Kd.R_elder' (rr_ Z21.out) (Kd.R_base ho0) hb)
               have n4_:=a0_ (Kd.R_lower (Kd.R_new' (Kd.R_new' (Kd.R_new' ho0 (Kd.R_lt (rr_ Z11.out))) (Kd.R_lt (rr_ Z16.out))) (Kd.R_lt (rr_ Z21.out))) (below_size hb_))
               have n5_:=kb_ BK9 hb
               have n6_:=kb_ BK10 hb
               have n7_:=kb_ BK15 hb
               have n8_:=kb_ BK20 hb
               have n9_:=kb_ BK28 hb
               have n10_:=a0_ (below_step hb_ hb)
               clear Z10
               clear Z11
               clear Z16
               clear Z21
               clear BK9
               clear BK10
               clear BK15
               clear BK20
               clear BK28
               clear HB
               have Z10:=n0_
               have Z11:=n1_
               have Z16:=n2_
               have Z21:=n3_
               have HO26:=n4_
               have BK9:=n5_
               have BK10:=n6_
               have BK15:=n7_
               have BK20:=n8_
               have BK28:=n9_
               have HB:=n10_
               clear n0_ n1_ n2_ n3_ n4_ n5_ n6_ n7_ n8_ n9_ n10_
               (try clear hb)
               (try clear hb2)
               (try clear hk)
               (try clear hi)
               (try clear ho0)
               refine hK.out _ _ ⟨(blk_cell BK9.out 0).trans rfl,(blk_cell BK15.out 0).trans rfl,(blk_cell BK10.out 0).trans rfl,HS3_,HS4_,HS5_,HS6_,HS7_⟩ (fun hHeld=>?_)
               clear hK K
               refine norm_ (a':=?_) ?_ ?_
               rotate_left
               ·show Act.put _ (some 72) _ = _
                simp only [Act.put,s1_,s2_,s3_,i64_w,i32_w]
                rfl
               refine pure_ (i:=10) (N:=some 62) (v:=?_) (a':=?_) #[true,true,true,true,true,true,true,true,true,true,true,false,false,true,false,false] rfl rfl (any_of HT_.out (by kernel_rfl)) (fun _ _ _ h=>h) (Or.inl ⟨by rfl,?_⟩) ?_ ?_
               rotate_left
               ·intro w'
                go_simp
                with_reducible rfl
               rotate_left
               ·simp only [Act.put,s1_,s2_,s3_,i64_w,i32_w]
                rfl
               refine pure_ (i:=11) (N:=some 73) (v:=?_) (a':=?_) #[true,true,true,true,true,true,true,true,true,true,true,true,false,true,false,false] rfl rfl (any_of HT_.out (by kernel_rfl)) (fun _ _ _ h=>h) (Or.inl ⟨by rfl,?_⟩) ?_ ?_
               rotate_left
               ·intro w'
                go_simp
                with_reducible rfl
               rotate_left
               ·simp only [Act.put,s1_,s2_,s3_,i64_w,i32_w]
                rfl
               refine pure_ (i:=12) (N:=some 74) (v:=?_) (a':=?_) #[true,true,true,true,true,true,true,true,true,true,true,true,true,true,false,false] rfl rfl (any_of HT_.out (by kernel_rfl)) (fun _ _ _ h=>h) (Or.inl ⟨by rfl,?_⟩) ?_ ?_
               rotate_left
               ·intro w'
                go_simp
                with_reducible rfl
               rotate_left
               ·simp only [Act.put,s1_,s2_,s3_,i64_w,i32_w]
                rfl
               exact norm_ (by simp only [putAll,Act.put,s1_,s2_,s3_]) (hCont (v25,gb28) _ ⟨hHeld,(rm_ HO26.out (fun _ hk=>⟨hk.1.1.2,⟨hk.1.2,hk.2⟩⟩)),(rr_ Z10.out),(rm_ Z11.out (fun _ hk=>⟨hk.2,⟨hk.1.1,hk.1.2⟩⟩)),(rm_ Z16.out (fun _ hk=>⟨hk.2,⟨hk.1.1,hk.1.2⟩⟩)),(rm_ Z21.out (fun _ hk=>⟨hk.2,⟨hk.1.1,hk.1.2⟩⟩)),(bb_ BK10.out),(bb_ BK15.out),(bb_ BK20.out),(bb_ BK28.out),(bb_ BK9.out),GW28.out,GE28.out,NB10_28.out,NB28_10.out,NB15_28.out,NB28_15.out,NB20_28.out,NB28_20.out,NB9_28.out,NB28_9.out,hb_⟩)
             rintro ⟨v25,gb28⟩ w312 ⟨hS_,h0_,h1_,h2_,h3_,h4_,h5_,h6_,h7_,h8_,h9_,h10_,h11_,h12_,h13_,h14_,h15_,h16_,h17_,h18_,h19_,h20_⟩
             have n0_ : Aside0 (Kd.R k43 43 w312 w.heap.size (fun k_=>some k_ ≠ (.slice (some ad23) t4.length co13 : Value).ownBlock ∧ some k_ ≠ (.slice Ao17 t11.length co17 : Value).ownBlock ∧ some k_ ≠ (.slice Ao25 t16.length co25 : Value).ownBlock) v25 t24):=⟨h0_⟩
             have n1_ : Aside0 (Kd.R k87 87 w312 w.heap.size (fun _=>True) (.slice Ao10 t1.length co10) t1):=⟨h1_⟩
             have n2_ : Aside0 (Kd.R k43 43 w312 w.heap.size (fun k_=>some k_ ≠ (v25 : Value).ownBlock ∧ some k_ ≠ (.slice Ao17 t11.length co17 : Value).ownBlock ∧ some k_ ≠ (.slice Ao25 t16.length co25 : Value).ownBlock) (.slice (some ad23) t4.length co13) t4):=⟨h2_⟩
             have n3_ : Aside0 (Kd.R k43 43 w312 w.heap.size (fun k_=>some k_ ≠ (v25 : Value).ownBlock ∧ some k_ ≠ (.slice (some ad23) t4.length co13 : Value).ownBlock ∧ some k_ ≠ (.slice Ao25 t16.length co25 : Value).ownBlock) (.slice Ao17 t11.length co17) t11):=⟨h3_⟩
             have n4_ : Aside0 (Kd.R k43 43 w312 w.heap.size (fun k_=>some k_ ≠ (v25 : Value).ownBlock ∧ some k_ ≠ (.slice (some ad23) t4.length co13 : Value).ownBlock ∧ some k_ ≠ (.slice Ao17 t11.length co17 : Value).ownBlock) (.slice Ao25 t16.length co25) t16):=⟨h4_⟩
             have n5_ : Aside0 (w312.heap[gb10]? = some (.cells #[.slice (some ad23) t4.length co13] 28 (0,0))):=⟨h5_⟩
             have n6_ : Aside0 (w312.heap[gb15]? = some (.cells #[.slice Ao17 t11.length co17] 28 (0,0))):=⟨h6_⟩
             have n7_ : Aside0 (w312.heap[gb20]? = some (.cells #[.slice Ao25 t16.length co25] 28 (0,0))):=⟨h7_⟩
             have n8_ : Aside0 (w312.heap[gb28]? = some (.cells #[.slice none 0 0] 28 (0,0))):=⟨h8_⟩
             have n9_ : Aside0 (w312.heap[gb9]? = some (.cells #[.slice Ao10 t1.length co10] 25 (0,0))):=⟨h9_⟩
             have n10_ : Aside0 (w.heap.size ≤ gb28):=⟨h10_⟩
             have n11_ : Aside0 (w.heap.size ≤ gb28):=⟨h11_⟩
             have n12_ : Aside0 (gb10 ≠ gb28):=⟨h12_⟩
             have n13_ : Aside0 (gb28 ≠ gb10):=⟨h13_⟩
             have n14_ : Aside0 (gb15 ≠ gb28):=⟨h14_⟩
             have n15_ : Aside0 (gb28 ≠ gb15):=⟨h15_⟩
             have n16_ : Aside0 (gb20 ≠ gb28):=⟨h16_⟩
             have n17_ : Aside0 (gb28 ≠ gb20):=⟨h17_⟩
             have n18_ : Aside0 (gb9 ≠ gb28):=⟨h18_⟩
             have n19_ : Aside0 (gb28 ≠ gb9):=⟨h19_⟩
             have n20_ : Aside0 (Below w.heap.size w w312):=⟨h20_⟩
             clear Z10
             clear Z11
             clear Z16
             clear Z21
             clear BK9
             clear BK10
             clear BK15
             clear BK20
             clear HB
             clear h0_ h1_ h2_ h3_ h4_ h5_ h6_ h7_ h8_ h9_ h10_ h11_ h12_ h13_ h14_ h15_ h16_ h17_ h18_ h19_ h20_
             have HO26:=n0_
             have Z10:=n1_
             have Z11:=n2_
             have Z16:=n3_
             have Z21:=n4_
             have BK10:=n5_
             have BK15:=n6_
             have BK20:=n7_
             have BK28:=n8_
             have BK9:=n9_
             have GW28:=n10_
             have GE28:=n11_
             have NB10_28:=n12_
             have NB28_10:=n13_
             have NB15_28:=n14_
             have NB28_15:=n15_
             have NB20_28:=n16_
             have NB28_20:=n17_
             have NB9_28:=n18_
             have NB28_9:=n19_
             have HB:=n20_
             clear n0_ n1_ n2_ n3_ n4_ n5_ n6_ n7_ n8_ n9_ n10_ n11_ n12_ n13_ n14_ n15_ n16_ n17_ n18_ n19_ n20_
             have hHeld : w312.cell? ⟨gb9,0,none⟩ = some (.slice Ao10 t1.length co10) ∧ w312.cell? ⟨gb15,0,none⟩ = some (.slice Ao17 t11.length co17) ∧ w312.cell? ⟨gb10,0,none⟩ = some (.slice (some ad23) t4.length co13) ∧ w312.cell? (ad23.add ((t7).toNat * 5)) = some (.int .i64 ((rd_T43 t4 t7).f0)) ∧ w312.cell? ⟨(ad23.add ((t7).toNat * 5)).block,(ad23.add ((t7).toNat * 5)).off + 1,none⟩ = some (.int .i64 ((rd_T43 t4 t7).f1)) ∧ w312.cell? ⟨(ad23.add ((t7).toNat * 5)).block,(ad23.add ((t7).toNat * 5)).off + 2,none⟩ = some (.int .i64 ((rd_T43 t4 t7).f2)) ∧ w312.cell? ⟨(ad23.add ((t7).toNat * 5)).block,(ad23.add ((t7).toNat * 5)).off + 3,none⟩ = some (.int .i64 ((rd_T43 t4 t7).f3)) ∧ w312.cell? ⟨(ad23.add ((t7).toNat * 5)).block,(ad23.add ((t7).toNat * 5)).off + 4,none⟩ = some (.bool ((rd_T43 t4 t7).f4)):=hS_
             obtain ⟨Ao313,co313,eo313⟩:=Kd.R_slice HO26.out
             (first | subst eo313 | (injection eo313 with f1_ f2_ f3_;have f4_:=f1_.symm;have f5_:=f3_.symm;clear f1_ f2_ f3_;subst f4_;subst f5_))
             refine norm_ (a':=?_) ?_ ?_
             rotate_left
             ·simp only [putAll,Act.put,s1_,s2_,s3_]
              rfl
             refine one_ (i:=14) (N:=none) #[true,true,true,true,true,true,true,true,true,true,true,true,true,true,true,false] rfl rfl (one_of HT_.out (by kernel_rfl)) (by decide) (fun K hK=>?_)
             have hs314 : w312.cell? ⟨gb28,0,none⟩ = some (.slice none 0 0):=(blk_cell BK28.out 0).trans rfl
             have hfs314:=blk_frozen BK28.out 0
             have hns314_0:=NB9_28.out
             have hns314_1:=NB10_28.out
             have hns314_2:=NB15_28.out
             have hns314_3:=NB20_28.out
             have hms314_0:=NB28_9.out
             have hms314_1:=NB28_10.out
             have hms314_2:=NB28_15.out
             have hms314_3:=NB28_20.out
             refine skip_ (w1:=?_) (by rfl) rfl ?_ ?_
             rotate_left
             ·go_simp
              rfl
             refine hK.out _ _ ⟨((cell_far (p:=⟨gb28,_,none⟩) NB9_28.out _).trans (hHeld.1)),((cell_far (p:=⟨gb28,_,none⟩) NB15_28.out _).trans (hHeld.2.1)),((cell_far (p:=⟨gb28,_,none⟩) NB10_28.out _).trans (hHeld.2.2.1)),((cell_far (p:=⟨gb28,_,none⟩) (by first | exact Kd.own_blk (Kd.R_ne Z11.out BK28.out (by decide)) | (rw [add_block];exact Kd.own_blk (Kd.R_ne Z11.out BK28.out (by decide))) | (show (Addr.add _ _).block ≠ _;rw [add_block];exact Kd.own_blk (Kd.R_ne Z11.out BK28.out (by decide))) | (dsimp only;exact Kd.own_blk (Kd.R_ne Z11.out BK28.out (by decide)))) _).trans (hHeld.2.2.2.1)),((cell_far (p:=⟨gb28,_,none⟩) (by first | exact Kd.own_blk (Kd.R_ne Z11.out BK28.out (by decide)) | (rw [add_block];exact Kd.own_blk (Kd.R_ne Z11.out BK28.out (by decide))) | (show (Addr.add _ _).block ≠ _;rw [add_block];exact Kd.own_blk (Kd.R_ne Z11.out BK28.out (by decide))) | (dsimp only;exact Kd.own_blk (Kd.R_ne Z11.out BK28.out (by decide)))) _).trans (hHeld.2.2.2.2.1)),((cell_far (p:=⟨gb28,_,none⟩) (by first | exact Kd.own_blk (Kd.R_ne Z11.out BK28.out (by decide)) | (rw [add_block];exact Kd.own_blk (Kd.R_ne Z11.out BK28.out (by decide))) | (show (Addr.add _ _).block ≠ _;rw [add_block];exact Kd.own_blk (Kd.R_ne Z11.out BK28.out (by decide))) | (dsimp only;exact Kd.own_blk (Kd.R_ne Z11.out BK28.out (by decide)))) _).trans (hHeld.2.2.2.2.2.1)),((cell_far (p:=⟨gb28,_,none⟩) (by first | exact Kd.own_blk (Kd.R_ne Z11.out BK28.out (by decide)) | (rw [add_block];exact Kd.own_blk (Kd.R_ne Z11.out BK28.out (by decide))) | (show (Addr.add _ _).block ≠ _;rw [add_block];exact Kd.own_blk (Kd.R_ne Z11.out BK28.out (by decide))) | (dsimp only;exact Kd.own_blk (Kd.R_ne Z11.out BK28.out (by decide)))) _).trans (hHeld.2.2.2.2.2.2.1)),((cell_far (p:=⟨gb28,_,none⟩) (by first | exact Kd.own_blk (Kd.R_ne Z11.out BK28.out (by decide)) | (rw [add_block];exact Kd.own_blk (Kd.R_ne Z11.out BK28.out (by decide))) | (show (Addr.add _ _).block ≠ _;rw [add_block];exact Kd.own_blk (Kd.R_ne Z11.out BK28.out (by decide))) | (dsimp only;exact Kd.own_blk (Kd.R_ne Z11.out BK28.out (by decide)))) _).trans (hHeld.2.2.2.2.2.2.2))⟩ (fun hHeld=>?_)
             clear hK K
             refine pure_ (i:=15) (N:=some 12) (v:=?_) (a':=?_) #[true,true,true,true,true,true,true,true,true,true,true,true,true,true,true,true] rfl rfl (any_of HT_.out (by kernel_rfl)) (fun _ _ _ h=>h) (Or.inl ⟨by rfl,?_⟩) ?_ ?_
             rotate_left
             ·intro w'
              go_simp
              with_reducible rfl
             rotate_left
             ·simp only [Act.put,s1_,s2_,s3_,i64_w,i32_w]
              rfl
             refine done_ (done_of HT_.out (by kernel_rfl)) ?_
             have hnb315:=NB15_9.out
             have hnc315:=NB9_15.out
             have hnb316:=NB15_10.out
             have hnc316:=NB10_15.out
             have hnb317:=NB15_20.out
             have hnc317:=NB20_15.out
             have hnb318:=NB15_28.out
             have hnc318:=NB28_15.out
             have hcz319_0 : w312.cell? ⟨gb15,0,none⟩ = some (.slice Ao17 t11.length co17):=(blk_cell BK15.out 0).trans rfl
             have hfz319_0:=blk_frozen BK15.out 0
             have p29 : 0 ≤ (t7 : Int):=of_decide_eq_true (by first | (with_reducible assumption) | assumption)
             have q29 : t7 < (t11.length : Int):=of_decide_eq_true (by first | (with_reducible assumption) | assumption)
             obtain ⟨ad29,e29,hx29_0,hx29_1,hx29_2,hx29_3,hx29_4⟩:=at_T43 (Kd.R_reads' Z16.out).2.2 t7 p29 q29
             cases e29
             have hn29_0 : ad29.block ≠ gb28:=Kd.own_blk (Kd.R_ne Z16.out BK28.out (by decide))
             replace hx29_0:=(cell_far (p:=⟨gb28,0,none⟩) (by first | (rw [add_block];exact hn29_0) | (show (Addr.add _ _).block ≠ _;rw [add_block];exact hn29_0) | exact hn29_0) (.slice Ao313 t24.length co313)).trans hx29_0
             replace hx29_1:=(cell_far (p:=⟨gb28,0,none⟩) (by first | (rw [add_block];exact hn29_0) | (show (Addr.add _ _).block ≠ _;rw [add_block];exact hn29_0) | exact hn29_0) (.slice Ao313 t24.length co313)).trans hx29_1
             replace hx29_2:=(cell_far (p:=⟨gb28,0,none⟩) (by first | (rw [add_block];exact hn29_0) | (show (Addr.add _ _).block ≠ _;rw [add_block];exact hn29_0) | exact hn29_0) (.slice Ao313 t24.length co313)).trans hx29_2
             replace hx29_3:=(cell_far (p:=⟨gb28,0,none⟩) (by first | (rw [add_block];exact hn29_0) | (show (Addr.add _ _).block ≠ _;rw [add_block];exact hn29_0) | exact hn29_0) (.slice Ao313 t24.length co313)).trans hx29_3
             replace hx29_4:=(cell_far (p:=⟨gb28,0,none⟩) (by first | (rw [add_block];exact hn29_0) | (show (Addr.add _ _).block ≠ _;rw [add_block];exact hn29_0) | exact hn29_0) (.slice Ao313 t24.length co313)).trans hx29_4
             clear hn29_0
             replace p29:=eq_true p29
             replace q29:=eq_true q29
             try go_wp2_with (first | ((with_reducible refine gate_dst (N:=13) rfl ?_);refine box_event ?hg (N:=13) ?hd (cs:=#[.int .i64 0,.int .i64 0,.int .i64 0,.int .i64 0,.bool false]) (t:=43) ?hr ?_;(case hd=>rfl);(case hg=>rfl);(case hr=>first | (go_simp;done) | (go_simp;rfl));intro gb30 hg w320 hbox hb;have n0_:=a0_ (Kd.R_below (by (with_reducible repeat (first | apply Kd.R_alloc | apply Kd.R_drewN | apply Kd.R_drew));exact (Kd.R_mono (Kd.R_far (p:=⟨gb28,0,none⟩) (Kd.R_types Z10.out BK28.out (by decide)) (fun _ hk=>hk.2) (.slice Ao313 t24.length co313)) (fun _ h_=>h_.1))) hb);have n1_:=a0_ (Kd.R_below (Kd.R_elderB (by (with_reducible repeat (first | apply Kd.R_alloc | apply Kd.R_drewN | apply Kd.R_drew));exact (Kd.R_mono (Kd.R_far (p:=⟨gb28,0,none⟩) (Kd.R_types Z11.out BK28.out (by decide)) (fun _ hk=>hk.2) (.slice Ao313 t24.length co313)) (fun _ h_=>h_.1))) gb30 (Nat.le_of_eq hg.symm)) hb);have n2_:=a0_ (Kd.R_below (Kd.R_elderB (by (with_reducible repeat (first | apply Kd.R_alloc | apply Kd.R_drewN | apply Kd.R_drew));exact (Kd.R_mono (Kd.R_far (p:=⟨gb28,0,none⟩) (Kd.R_types Z16.out BK28.out (by decide)) (fun _ hk=>hk.2) (.slice Ao313 t24.length co313)) (fun _ h_=>h_.1))) gb30 (Nat.le_of_eq hg.symm)) hb);have n3_:=a0_ (Kd.R_below (Kd.R_elderB (by (with_reducible repeat (first | apply Kd.R_alloc | apply Kd.R_drewN | apply Kd.R_drew));exact (Kd.R_mono (Kd.R_far (p:=⟨gb28,0,none⟩) (Kd.R_types Z21.out BK28.out (by decide)) (fun _ hk=>hk.2) (.slice Ao313 t24.length co313)) (fun _ h_=>h_.1))) gb30 (Nat.le_of_eq hg.symm)) hb);have n4_:=a0_ (Kd.R_below (Kd.R_elderB (by (with_reducible repeat (first | apply Kd.R_alloc | apply Kd.R_drewN | apply Kd.R_drew));exact (Kd.R_mono (Kd.R_far (p:=⟨gb28,0,none⟩) (Kd.R_types HO26.out BK28.out (by decide)) (fun _ hk=>hk.2) (.slice Ao313 t24.length co313)) (fun _ h_=>h_.1))) gb30 (Nat.le_of_eq hg.symm)) hb);have n5_:=kf_ BK9 NB9_28 hb;have n6_:=kf_ BK10 NB10_28 hb;have n7_:=kf_ BK15 NB15_28 hb;have n8_:=kf_ BK20 NB20_28 hb;have n9_:=a0_ (blk_below (g:=gb28) (o:=.cells #[.slice Ao313 t24.length co313] 28 (0,0)) (by (with_reducible repeat (first | refine blk_drewN ?_ _ | refine blk_drew ?_ | refine blk_alloc ?_ _));refine blk_put (cs:=#[.slice none 0 0]) ?_ 0 _ rfl;(with_reducible repeat (first | refine blk_drewN ?_ _ | refine blk_drew ?_ | refine blk_alloc ?_ _));exact BK28.out) hb);have n10_:=a0_ (below_step hb_ hb);have n11_:=a0_ (hbox);have n12_:=a0_ ((by rw [hg];exact (below_size hb_) : w.heap.size ≤ gb30));have n13_:=a0_ ((by rw [hg];exact (below_size hb_) : w.heap.size ≤ gb30));have n14_:=a0_ ((by rw [hg];exact Nat.ne_of_lt (blk_lt (g:=gb9) (o:=.cells #[.slice Ao10 t1.length co10] 25 (0,0)) (bff_ BK9.out)) : gb9 ≠ gb30));have n15_:=a0_ ((by rw [hg];exact Nat.ne_of_gt (blk_lt (g:=gb9) (o:=.cells #[.slice Ao10 t1.length co10] 25 (0,0)) (bff_ BK9.out)) : gb30 ≠ gb9));have n16_:=a0_ ((by rw [hg];exact Nat.ne_of_lt (blk_lt (g:=gb10) (o:=.cells #[.slice (some ad23) t4.length co13] 28 (0,0)) (bff_ BK10.out)) : gb10 ≠ gb30));have n17_:=a0_ ((by rw [hg];exact Nat.ne_of_gt (blk_lt (g:=gb10) (o:=.cells #[.slice (some ad23) t4.length co13] 28 (0,0)) (bff_ BK10.out)) : gb30 ≠ gb10));have n18_:=a0_ ((by rw [hg];exact Nat.ne_of_lt (blk_lt (g:=gb15) (o:=.cells #[.slice (some ad29) t11.length co17] 28 (0,0)) (bff_ BK15.out)) : gb15 ≠ gb30));have n19_:=a0_ ((by rw [hg];exact Nat.ne_of_gt (blk_lt (g:=gb15) (o:=.cells #[.slice (some ad29) t11.length co17] 28 (0,0)) (bff_ BK15.out)) : gb30 ≠ gb15));have n20_:=a0_ ((by rw [hg];exact Nat.ne_of_lt (blk_lt (g:=gb20) (o:=.cells #[.slice Ao25 t16.length co25] 28 (0,0)) (bff_ BK20.out)) : gb20 ≠ gb30));have n21_:=a0_ ((by rw [hg];exact Nat.ne_of_gt (blk_lt (g:=gb20) (o:=.cells #[.slice Ao25 t16.length co25] 28 (0,0)) (bff_ BK20.out)) : gb30 ≠ gb20));have n22_:=a0_ ((by rw [hg];exact Nat.ne_of_lt (blk_lt (g:=gb28) (o:=.cells #[.slice Ao313 t24.length co313] 28 (0,0)) (by (with_reducible repeat (first | refine blk_drewN ?_ _ | refine blk_drew ?_ | refine blk_alloc ?_ _));refine blk_put (cs:=#[.slice none 0 0]) ?_ 0 _ rfl;(with_reducible repeat (first | refine blk_drewN ?_ _ | refine blk_drew ?_ | refine blk_alloc ?_ _));exact BK28.out)) : gb28 ≠ gb30));have n23_:=a0_ ((by rw [hg];exact Nat.ne_of_gt (blk_lt (g:=gb28) (o:=.cells #[.slice Ao313 t24.length co313] 28 (0,0)) (by (with_reducible repeat (first | refine blk_drewN ?_ _ | refine blk_drew ?_ | refine blk_alloc ?_ _));refine blk_put (cs:=#[.slice none 0 0]) ?_ 0 _ rfl;(with_reducible repeat (first | refine blk_drewN ?_ _ | refine blk_drew ?_ | refine blk_alloc ?_ _));exact BK28.out)) : gb30 ≠ gb28));clear Z10 Z11;clear Z16 Z21;clear HO26 BK9;clear BK10 BK15;clear BK20 BK28 HB;have Z10:=n0_;have Z11:=n1_;have Z16:=n2_;have Z21:=n3_;have HO26:=n4_;have BK9:=n5_;have BK10:=n6_;have BK15:=n7_;have BK20:=n8_;have BK28:=n9_;have HB:=n10_;have BK30:=n11_;have GW30:=n12_;have GE30:=n13_;have NB9_30:=n14_;have NB30_9:=n15_;have NB10_30:=n16_;have NB30_10:=n17_;have NB15_30:=n18_;have NB30_15:=n19_;have NB20_30:=n20_;have NB30_20:=n21_;have NB28_30:=n22_;have NB30_28:=n23_;clear n0_ n1_ n2_ n3_ n4_ n5_ n6_ n7_ n8_ n9_ n10_ n11_ n12_ n13_ n14_ n15_ n16_ n17_ n18_ n19_ n20_ n21_ n22_ n23_;clear hb hbox hg;have hnb321:=NB30_9.out;have hnc321:=NB9_30.out;have hnb322:=NB30_10.out;have hnc322:=NB10_30.out;have hnb323:=NB30_15.out;have hnc323:=NB15_30.out;have hnb324:=NB30_20.out;have hnc324:=NB20_30.out;have hnb325:=NB30_28.out;have hnc325:=NB28_30.out;have hcz326_0 : w320.cell? ⟨gb30,0,none⟩ = some (.int .i64 0):=(blk_cell BK30.out 0).trans rfl;have hcz326_1 : w320.cell? ⟨gb30,1,none⟩ = some (.int .i64 0):=(blk_cell BK30.out 1).trans rfl;have hcz326_2 : w320.cell? ⟨gb30,2,none⟩ = some (.int .i64 0):=(blk_cell BK30.out 2).trans rfl;have hcz326_3 : w320.cell? ⟨gb30,3,none⟩ = some (.int .i64 0):=(blk_cell BK30.out 3).trans rfl;have hcz326_4 : w320.cell? ⟨gb30,4,none⟩ = some (.bool false):=(blk_cell BK30.out 4).trans rfl;have hfz326_0:=blk_frozen BK30.out 0;have hfz326_1:=blk_frozen BK30.out 1;have hfz326_2:=blk_frozen BK30.out 2;have hfz326_3:=blk_frozen BK30.out 3;have hfz326_4:=blk_frozen BK30.out 4;have hnb327:=NB9_10.out;have hnc327:=NB10_9.out;have hnb328:=NB9_20.out;have hnc328:=NB20_9.out;have hnb329:=NB9_28.out;have hnc329:=NB28_9.out;have hcz330_0 : w320.cell? ⟨gb9,0,none⟩ = some (.slice Ao10 t1.length co10):=(blk_cell BK9.out 0).trans rfl;have hfz330_0:=blk_frozen BK9.out 0;have hcz331_0 : w320.cell? ⟨gb15,0,none⟩ = some (.slice (some ad29) t11.length co17):=(blk_cell BK15.out 0).trans rfl;have hfz331_0:=blk_frozen BK15.out 0) | ((with_reducible refine gate_callee (f:=14) rfl ?_);refine goesL_ (some 83) rfl rfl Try.func14 (by kernel_rfl) rfl #[.agg #[.slice Ao10 t1.length co10],.agg #[.slice (some ad29) t11.length co17],.int .i64 t7] rfl lm_ ?_;(with_reducible refine (impl_ShownNext.calls _ _ t1 _ _ t11 t7 t31 _ ?side1 ?side2 ?side3 ?side4 A80.out).mono ?_);(case side1=>refine (Kd.R_reads' (e:=87) (base:=w.heap.size) (ok:=fun k_=>True) (n:=t1.length) (c:=co10) ?_).2.2;exact (by (with_reducible repeat (first | apply Kd.R_alloc | apply Kd.R_drewN | apply Kd.R_drew));exact (Kd.R_mono (Kd.R_far (p:=⟨gb30,4,none⟩) (Kd.R_far (p:=⟨gb30,3,none⟩) (Kd.R_far (p:=⟨gb30,2,none⟩) (Kd.R_far (p:=⟨gb30,1,none⟩) (Kd.R_far (p:=⟨gb30,0,none⟩) (Kd.R_types Z10.out BK30.out (by decide)) (fun _ hk=>hk.2) (.int .i64 ((rd_T43 t11 t7).f0))) (fun _ hk=>hk.2) (.int .i64 ((rd_T43 t11 t7).f1))) (fun _ hk=>hk.2) (.int .i64 ((rd_T43 t11 t7).f2))) (fun _ hk=>hk.2) (.int .i64 ((rd_T43 t11 t7).f3))) (fun _ hk=>hk.2) (.bool ((rd_T43 t11 t7).f4))) (fun _ h_=>h_.1))));(case side2=>exact (Kd.R_reads' Z10.out).2.1);(case side3=>refine (Kd.R_reads' (e:=43) (base:=w.heap.size) (ok:=fun k_=>((some k_ ≠ (.slice Ao313 t24.length co313 : Value).ownBlock ∧ (some k_ ≠ (.slice (some ad23) t4.length co13 : Value).ownBlock ∧ some k_ ≠ (.slice Ao25 t16.length co25 : Value).ownBlock)) ∧ k_ ≠ gb30)) (n:=t11.length) (c:=co17) ?_).2.2;exact (by (with_reducible repeat (first | apply Kd.R_alloc | apply Kd.R_drewN | apply Kd.R_drew));exact (Kd.R_mono (Kd.R_far (p:=⟨gb30,4,none⟩) (Kd.R_far (p:=⟨gb30,3,none⟩) (Kd.R_far (p:=⟨gb30,2,none⟩) (Kd.R_far (p:=⟨gb30,1,none⟩) (Kd.R_far (p:=⟨gb30,0,none⟩) (Kd.R_mono Z16.out (fun k_ hk=>(⟨hk,hk.2⟩ : _ ∧ k_ ≠ gb30))) (fun _ hk=>hk.2) (.int .i64 ((rd_T43 t11 t7).f0))) (fun _ hk=>hk.2) (.int .i64 ((rd_T43 t11 t7).f1))) (fun _ hk=>hk.2) (.int .i64 ((rd_T43 t11 t7).f2))) (fun _ hk=>hk.2) (.int .i64 ((rd_T43 t11 t7).f3))) (fun _ hk=>hk.2) (.bool ((rd_T43 t11 t7).f4))) (fun _ h_=>h_.1))));(case side4=>exact (Kd.R_reads' Z16.out).2.1);rintro e w332 ⟨rfl,hb⟩;refine ⟨_,rfl,?_⟩;replace Z10:=a0_ (Kd.R_below (by (with_reducible repeat (first | apply Kd.R_alloc | apply Kd.R_drewN | apply Kd.R_drew));exact (Kd.R_mono (Kd.R_far (p:=⟨gb30,4,none⟩) (Kd.R_far (p:=⟨gb30,3,none⟩) (Kd.R_far (p:=⟨gb30,2,none⟩) (Kd.R_far (p:=⟨gb30,1,none⟩) (Kd.R_far (p:=⟨gb30,0,none⟩) (Kd.R_types Z10.out BK30.out (by decide)) (fun _ hk=>hk.2) (.int .i64 ((rd_T43 t11 t7).f0))) (fun _ hk=>hk.2) (.int .i64 ((rd_T43 t11 t7).f1))) (fun _ hk=>hk.2) (.int .i64 ((rd_T43 t11 t7).f2))) (fun _ hk=>hk.2) (.int .i64 ((rd_T43 t11 t7).f3))) (fun _ hk=>hk.2) (.bool ((rd_T43 t11 t7).f4))) (fun _ h_=>h_.1))) hb);replace Z11:=a0_ (Kd.R_below (by (with_reducible repeat (first | apply Kd.R_alloc | apply Kd.R_drewN | apply Kd.R_drew));exact (Kd.R_mono (Kd.R_far (p:=⟨gb30,4,none⟩) (Kd.R_far (p:=⟨gb30,3,none⟩) (Kd.R_far (p:=⟨gb30,2,none⟩) (Kd.R_far (p:=⟨gb30,1,none⟩) (Kd.R_far (p:=⟨gb30,0,none⟩) (Kd.R_mono Z11.out (fun k_ hk=>(⟨hk,hk.2⟩ : _ ∧ k_ ≠ gb30))) (fun _ hk=>hk.2) (.int .i64 ((rd_T43 t11 t7).f0))) (fun _ hk=>hk.2) (.int .i64 ((rd_T43 t11 t7).f1))) (fun _ hk=>hk.2) (.int .i64 ((rd_T43 t11 t7).f2))) (fun _ hk=>hk.2) (.int .i64 ((rd_T43 t11 t7).f3))) (fun _ hk=>hk.2) (.bool ((rd_T43 t11 t7).f4))) (fun _ h_=>h_.1))) hb);replace Z16:=a0_ (Kd.R_below (by (with_reducible repeat (first | apply Kd.R_alloc | apply Kd.R_drewN | apply Kd.R_drew));exact (Kd.R_mono (Kd.R_far (p:=⟨gb30,4,none⟩) (Kd.R_far (p:=⟨gb30,3,none⟩) (Kd.R_far (p:=⟨gb30,2,none⟩) (Kd.R_far (p:=⟨gb30,1,none⟩) (Kd.R_far (p:=⟨gb30,0,none⟩) (Kd.R_mono Z16.out (fun k_ hk=>(⟨hk,hk.2⟩ : _ ∧ k_ ≠ gb30))) (fun _ hk=>hk.2) (.int .i64 ((rd_T43 t11 t7).f0))) (fun _ hk=>hk.2) (.int .i64 ((rd_T43 t11 t7).f1))) (fun _ hk=>hk.2) (.int .i64 ((rd_T43 t11 t7).f2))) (fun _ hk=>hk.2) (.int .i64 ((rd_T43 t11 t7).f3))) (fun _ hk=>hk.2) (.bool ((rd_T43 t11 t7).f4))) (fun _ h_=>h_.1))) hb);replace Z21:=a0_ (Kd.R_below (by (with_reducible repeat (first | apply Kd.R_alloc | apply Kd.R_drewN | apply Kd.R_drew));exact (Kd.R_mono (Kd.R_far (p:=⟨gb30,4,none⟩) (Kd.R_far (p:=⟨gb30,3,none⟩) (Kd.R_far (p:=⟨gb30,2,none⟩) (Kd.R_far (p:=⟨gb30,1,none⟩) (Kd.R_far (p:=⟨gb30,0,none⟩) (Kd.R_mono Z21.out (fun k_ hk=>(⟨hk,hk.2⟩ : _ ∧ k_ ≠ gb30))) (fun _ hk=>hk.2) (.int .i64 ((rd_T43 t11 t7).f0))) (fun _ hk=>hk.2) (.int .i64 ((rd_T43 t11 t7).f1))) (fun _ hk=>hk.2) (.int .i64 ((rd_T43 t11 t7).f2))) (fun _ hk=>hk.2) (.int .i64 ((rd_T43 t11 t7).f3))) (fun _ hk=>hk.2) (.bool ((rd_T43 t11 t7).f4))) (fun _ h_=>h_.1))) hb);replace HO26:=a0_ (Kd.R_below (by (with_reducible repeat (first | apply Kd.R_alloc | apply Kd.R_drewN | apply Kd.R_drew));exact (Kd.R_mono (Kd.R_far (p:=⟨gb30,4,none⟩) (Kd.R_far (p:=⟨gb30,3,none⟩) (Kd.R_far (p:=⟨gb30,2,none⟩) (Kd.R_far (p:=⟨gb30,1,none⟩) (Kd.R_far (p:=⟨gb30,0,none⟩) (Kd.R_mono HO26.out (fun k_ hk=>(⟨hk,hk.2⟩ : _ ∧ k_ ≠ gb30))) (fun _ hk=>hk.2) (.int .i64 ((rd_T43 t11 t7).f0))) (fun _ hk=>hk.2) (.int .i64 ((rd_T43 t11 t7).f1))) (fun _ hk=>hk.2) (.int .i64 ((rd_T43 t11 t7).f2))) (fun _ hk=>hk.2) (.int .i64 ((rd_T43 t11 t7).f3))) (fun _ hk=>hk.2) (.bool ((rd_T43 t11 t7).f4))) (fun _ h_=>h_.1))) hb);replace BK9:=a0_ (blk_below (g:=gb9) (o:=.cells #[.slice Ao10 t1.length co10] 25 (0,0)) (bff_ BK9.out) hb);replace BK10:=a0_ (blk_below (g:=gb10) (o:=.cells #[.slice (some ad23) t4.length co13] 28 (0,0)) (bff_ BK10.out) hb);replace BK15:=a0_ (blk_below (g:=gb15) (o:=.cells #[.slice (some ad29) t11.length co17] 28 (0,0)) (bff_ BK15.out) hb);replace BK20:=a0_ (blk_below (g:=gb20) (o:=.cells #[.slice Ao25 t16.length co25] 28 (0,0)) (bff_ BK20.out) hb);replace BK28:=a0_ (blk_below (g:=gb28) (o:=.cells #[.slice Ao313 t24.length co313] 28 (0,0)) (bff_ BK28.out) hb);replace BK30:=a0_ (blk_below (g:=gb30) (o:=.cells #[.int .i64 ((rd_T43 t11 t7).f0),.int .i64 ((rd_T43 t11 t7).f1),.int .i64 ((rd_T43 t11 t7).f2),.int .i64 ((rd_T43 t11 t7).f3),.bool ((rd_T43 t11 t7).f4)] 43 (0,0)) (by (with_reducible repeat (first | refine blk_drewN ?_ _ | refine blk_drew ?_ | refine blk_alloc ?_ _));refine blk_put (cs:=#[.int .i64 ((rd_T43 t11 t7).f0),.int .i64 ((rd_T43 t11 t7).f1),.int .i64 ((rd_T43 t11 t7).f2),.int .i64 ((rd_T43 t11 t7).f3),.bool false]) ?_ 4 _ rfl;(with_reducible repeat (first | refine blk_drewN ?_ _ | refine blk_drew ?_ | refine blk_alloc ?_ _));refine blk_put (cs:=#[.int .i64 ((rd_T43 t11 t7).f0),.int .i64 ((rd_T43 t11 t7).f1),.int .i64 ((rd_T43 t11 t7).f2),.int .i64 0,.bool false]) ?_ 3 _ rfl;(with_reducible repeat (first | refine blk_drewN ?_ _ | refine blk_drew ?_ | refine blk_alloc ?_ _));refine blk_put (cs:=#[.int .i64 ((rd_T43 t11 t7).f0),.int .i64 ((rd_T43 t11 t7).f1),.int .i64 0,.int .i64 0,.bool false]) ?_ 2 _ rfl;(with_reducible repeat (first | refine blk_drewN ?_ _ | refine blk_drew ?_ | refine blk_alloc ?_ _));refine blk_put (cs:=#[.int .i64 ((rd_T43 t11 t7).f0),.int .i64 0,.int .i64 0,.int .i64 0,.bool false]) ?_ 1 _ rfl;(with_reducible repeat (first | refine blk_drewN ?_ _ | refine blk_drew ?_ | refine blk_alloc ?_ _));refine blk_put (cs:=#[.int .i64 0,.int .i64 0,.int .i64 0,.int .i64 0,.bool false]) ?_ 0 _ rfl;(with_reducible repeat (first | refine blk_drewN ?_ _ | refine blk_drew ?_ | refine blk_alloc ?_ _));exact BK30.out) hb);replace HB:=a0_ (below_step hb_ hb);(try clear hb);have hnb333:=NB28_10.out;have hnc333:=NB10_28.out;have hnb334:=NB28_20.out;have hnc334:=NB20_28.out;have hcz335_0 : w332.cell? ⟨gb28,0,none⟩ = some (.slice Ao313 t24.length co313):=(blk_cell BK28.out 0).trans rfl;have hfz335_0:=blk_frozen BK28.out 0;have hnb336:=NB10_20.out;have hnc336:=NB20_10.out;have hcz337_0 : w332.cell? ⟨gb10,0,none⟩ = some (.slice (some ad23) t4.length co13):=(blk_cell BK10.out 0).trans rfl;have hfz337_0:=blk_frozen BK10.out 0) | (go_at_call 19;(with_reducible refine (laws_equalHeap.calls kj5 _ _ t24 _ _ t4 true _ ?side1 ?side2 ?side3 ?side4 A82.out).mono ?_);(case side1=>exact cc_ (Kd.R_reads' HO26.out).2.2);(case side2=>exact (Kd.R_reads' HO26.out).2.1);(case side3=>exact cc_ (Kd.R_reads' Z11.out).2.2);(case side4=>exact (Kd.R_reads' Z11.out).2.1);rintro e w338 ⟨rfl,hb⟩;replace Z10:=rb_ Z10 hb;replace Z11:=rb_ Z11 hb;replace Z16:=rb_ Z16 hb;replace Z21:=rb_ Z21 hb;replace HO26:=rb_ HO26 hb;replace BK9:=kb_ BK9 hb;replace BK10:=kb_ BK10 hb;replace BK15:=kb_ BK15 hb;replace BK20:=kb_ BK20 hb;replace BK28:=kb_ BK28 hb;replace BK30:=kb_ BK30 hb;replace HB:=a0_ (below_step hb_ hb);(try clear hb);have hcz339_0 : w338.cell? ⟨gb30,0,none⟩ = some (.int .i64 ((rd_T43 t11 t7).f0)):=(blk_cell BK30.out 0).trans rfl;have hcz339_1 : w338.cell? ⟨gb30,1,none⟩ = some (.int .i64 ((rd_T43 t11 t7).f1)):=(blk_cell BK30.out 1).trans rfl;have hcz339_2 : w338.cell? ⟨gb30,2,none⟩ = some (.int .i64 ((rd_T43 t11 t7).f2)):=(blk_cell BK30.out 2).trans rfl;have hcz339_3 : w338.cell? ⟨gb30,3,none⟩ = some (.int .i64 ((rd_T43 t11 t7).f3)):=(blk_cell BK30.out 3).trans rfl;have hcz339_4 : w338.cell? ⟨gb30,4,none⟩ = some (.bool ((rd_T43 t11 t7).f4)):=(blk_cell BK30.out 4).trans rfl;have hfz339_0:=blk_frozen BK30.out 0;have hfz339_1:=blk_frozen BK30.out 1;have hfz339_2:=blk_frozen BK30.out 2;have hfz339_3:=blk_frozen BK30.out 3;have hfz339_4:=blk_frozen BK30.out 4))
             go_ret
             exact ⟨by first | rfl | (simp [errW_none,errW_some] <;> rfl) | (simp [*,errW_none,errW_some] <;> rfl),hb_⟩
           ·rw [if_neg c244] at H
            have c244b0 : decide (((rd_T43 t11 t7).f2) < 0) = false:=decide_eq_false c244
            clear c244
            exact absurd ((Option.some.inj H).trans hrt) (by decide)
         ·replace c83:=Bool.eq_false_iff.mpr c83
          subst c83
          have H1 : (some false) = some r:=by rw [if_neg (show ¬ (false = true) by decide)] at H;exact H
          clear H
          have H:=H1
          clear H1
          exact absurd ((Option.some.inj H).trans hrt) (by decide)
        ·replace c81:=Bool.eq_false_iff.mpr c81
         subst c81
         have H1 : (some false) = some r:=by rw [if_neg (show ¬ (false = true) by decide)] at H;exact H
         clear H
         have H:=H1
         clear H1
         exact absurd ((Option.some.inj H).trans hrt) (by decide)
       ·rw [if_neg c79] at H
        exact absurd H (by simp)
      ·rw [if_neg c77] at H
       exact absurd H (by simp)
     ·rw [if_neg c76] at H
      exact absurd H (by simp)
def laws_FnHideContext.Pure : Prop:=∀ (l0 : List Int),l0.length ≤ maxLen → l0.length * 1 ≤ 140737488351232 → (∀ x ∈ l0,(Lit.int .u8 x).wf = true) → ∃ k,laws_FnHideContext.f k l0 = some true
theorem laws_FnHideContext.walk (P : laws_FnHideContext.Pure) (a0 : Option Addr) (len0 cap0 : Nat) (z0 : List Int) (w : World) (w0 : (a0 = none ∧ len0 = 0 ∧ cap0 = 0 ∧ z0 = []) ∨ ∃ x,a0 = some x ∧ len0 ≤ cap0 ∧ cap0 ≤ maxLen ∧ z0.length = cap0 ∧ (∀ i,i < z0.length → w.cell? (x.add i) = some (.int .u8 (z0.getD i 0))) ∧ ∀ n ∈ z0,(Lit.int .u8 n).wf = true) (y0 : len0 * 1 ≤ 140737488351232) :
  Calls Try.prog 5 #[.slice a0 len0 cap0] w fun e w'=>e = .returned (.bool true) ∧ Below w.heap.size w w':=by
 obtain ⟨l0,rfl,hr0,hm0,hw0,hc0⟩:=ReadsInt.ofRowC w0
 obtain ⟨k,h⟩:=P l0 hm0 y0 hw0
 refine (laws_FnHideContext.calls k _ _ l0 true w (Kd.C_of_reads (d:=(0 : Int)) (h1:=fun _=>rfl) hr0) hc0 h rfl).mono ?_
 rintro e w' ⟨rfl,hd⟩
 exact ⟨rfl,hd⟩
end Go.Proofs.Ytmiholmfbjalfaa.P
namespace Go.Proofs.Ytmiholmfbjalfaa.P
open Go.RowKit Go.Proofs.YtmiholmfbjalfaaW.PrintWords Go.Proofs.YtmiholmfbjalfaaW.PrintLast Go.Proofs.YtmiholmfbjalfaaW.PrintMore
attribute [local go_sem] max2_int min2_int max_two min_two max_three min_three max_four min_four
set_option linter.unusedVariables false
set_option linter.unusedSimpArgs false
theorem chain_link (next : Int → Int) : ∀ (d : Nat) (out : List Int) (x : Int) (k : Nat),k + 1 < (chainL next d out x).length → (chainL next d out x).getD (k + 1) 0 = next ((chainL next d out x).getD k 0):=by
 intro d
 induction d with
 | zero=>intro out x k hk;simp [chainL] at hk
 | succ d ih =>
  intro out x k hk
  rw [chainL] at hk ⊢
  by_cases hc : 0 ≤ x ∧ out.contains x = false
  ·rw [if_pos hc] at hk ⊢
   rw [List.length_cons] at hk
   cases k with
   | zero =>
    cases d with
    | zero=>simp [chainL] at hk
    | succ d =>
     rw [chainL] at hk ⊢
     by_cases hc2 : 0 ≤ next x ∧ (out ++ [x]).contains (next x) = false
     ·rw [if_pos hc2]
      simp
     ·rw [if_neg hc2] at hk
      simp at hk
   | succ k=>exact ih (out ++ [x]) (next x) k (by omega)
  ·rw [if_neg hc] at hk
   simp at hk
theorem chain_nodup (next : Int → Int) : ∀ (d : Nat) (out : List Int) (x : Int),(chainL next d out x).Nodup:=by
 intro d
 induction d with
 | zero=>intro out x;exact List.nodup_nil
 | succ d ih =>
  intro out x
  rw [chainL]
  split
  ·refine List.nodup_cons.2 ⟨fun hm=>?_,ih _ _⟩
   have:=(chain_mem next d (out ++ [x]) (next x) x hm).2
   rw [show (out ++ [x]).contains x = true by rw [List.contains_iff_mem];simp] at this
   cases this
  ·exact List.nodup_nil
theorem chain_last (next : Int → Int) (N : Nat) (hn : ∀ x : Int,0 ≤ x → x < (N : Int) → next x < (N : Int)) : ∀ (d : Nat) (out : List Int) (x : Int),x < (N : Int) → restN N out ≤ d → chainL next d out x ≠ [] → next (lastI (chainL next d out x)) < 0 ∨ next (lastI (chainL next d out x)) ∈ out ++ chainL next d out x:=by
 intro d
 induction d with
 | zero=>intro out x _ _ hne;exact absurd rfl hne
 | succ d ih =>
  intro out x hx hr hne
  rw [chainL] at hne ⊢
  by_cases hc : 0 ≤ x ∧ out.contains x = false
  ·rw [if_pos hc] at hne ⊢
   have hlt:=restN_lt hc.1 hx hc.2
   cases hq : chainL next d (out ++ [x]) (next x) with
   | nil =>
    have e : lastI [x] = x:=by simp [lastI]
    rw [e]
    by_cases h0 : 0 ≤ next x
    ·right
     have hin : (out ++ [x]).contains (next x) = true:=by
      cases hz : (out ++ [x]).contains (next x) with
      | true=>rfl
      | false =>
       cases d with
       | zero =>
        have:=restN_zero (n:=N) (out:=out ++ [x]) h0 (hn x hc.1 hx) (by omega)
        rw [this] at hz
        cases hz
       | succ d =>
        rw [chainL,if_pos ⟨h0,hz⟩] at hq
        cases hq
     rwa [List.contains_iff_mem] at hin
    ·left;omega
   | cons z r =>
    rw [lastI_cons,← hq]
    rcases ih (out ++ [x]) (next x) (hn x hc.1 hx) (by omega) (by rw [hq];simp) with h2 | h2
    ·exact Or.inl h2
    ·right
     rw [List.append_assoc] at h2
     exact h2
  ·rw [if_neg hc] at hne
   exact absurd rfl hne
theorem shwL_chain (h : List Fau) (f : Int) : shwL h f = chainL (shwN h) h.length [] f:=by
 unfold shwL
 rw [walkL_chain]
 rfl
section
variable {t : List Cls} {h : List Fau} {f : Int}
theorem shw_rng (hv : vH t h = true) (x : Int) (h0 : 0 ≤ x) (h1 : x < (h.length : Int)) : -1 ≤ shwN h x ∧ shwN h x < (h.length : Int):=fsH_shw (vH_parts hv).1 x h0 h1
theorem shw_head (h0 : 0 ≤ f) (h1 : f < (h.length : Int)) : (shwL h f).getD 0 0 = f:=by
 rw [shwL_chain]
 obtain ⟨n,hn⟩ : ∃ n,h.length = n + 1:=⟨h.length - 1,by omega⟩
 rw [hn,chainL,if_pos ⟨h0,by simp⟩]
 rfl
theorem shw_link (k : Nat) (hk : k + 1 < (shwL h f).length) : (shwL h f).getD (k + 1) 0 = shwN h ((shwL h f).getD k 0):=by
 rw [shwL_chain] at hk ⊢
 exact chain_link _ _ _ _ k hk
theorem shw_new (k : Nat) (hk : k < (shwL h f).length) : ((shwL h f).take k).contains ((shwL h f).getD k 0) = false:=by
 cases hq : ((shwL h f).take k).contains ((shwL h f).getD k 0) with
 | false=>rfl
 | true =>
  rw [List.contains_iff_mem,List.mem_take_iff_getElem] at hq
  obtain ⟨j,hj,e⟩:=hq
  have hnd:=chain_nodup (shwN h) h.length [] f
  rw [← shwL_chain] at hnd
  rw [List.getD_eq_getElem?_getD,List.getElem?_eq_getElem hk] at e
  have:=(List.getElem_inj hnd).1 e
  omega
theorem shw_last (hv : vH t h = true) (h0 : 0 ≤ f) (h1 : f < (h.length : Int)) : shwN h (lastI (shwL h f)) = -1 ∨ (shwL h f).contains (shwN h (lastI (shwL h f))) = true:=by
 have hp:=shwL_pos h f h0 h1
 have hm:=shwL_mem (fun x a b=>(shw_rng hv x a b).2) f h1 _ (lastI_mem hp)
 have hr:=shw_rng hv _ hm.1 hm.2
 have hc:=chain_last (shwN h) h.length (fun x a b=>(shw_rng hv x a b).2) h.length [] f h1 (restN_le _ _)
 rw [← shwL_chain] at hc
 rcases hc (fun hh=>by rw [hh] at hp;simp at hp) with h2 | h2
 ·left;omega
 ·right;rw [List.contains_iff_mem];exact h2
theorem ctx_last (hv : vH t h = true) (h0 : 0 ≤ f) (h1 : f < (h.length : Int)) : ctxN h (lastI (ctxL h f)) = -1:=by
 have hp:=ctxL_pos h f h0 h1
 have hm:=ctxL_mem (fun x a b=>(fsH_ctx (vH_parts hv).1 x a b).2) f h1 _ (lastI_mem hp)
 have hr:=fsH_ctx (vH_parts hv).1 _ hm.1 hm.2
 have:=all_at (vH_parts hv).2.1 f.toNat (by omega)
 unfold endB at this
 rw [show ((f.toNat : Nat) : Int) = f by omega] at this
 have:=of_decide_eq_true this
 omega
theorem ctx_head (h0 : 0 ≤ f) (h1 : f < (h.length : Int)) : (ctxL h f).getD 0 0 = f:=by
 unfold ctxL
 rw [walkL_chain]
 obtain ⟨n,hn⟩ : ∃ n,h.length = n + 1:=⟨h.length - 1,by omega⟩
 rw [hn,chainL,if_pos ⟨h0,by simp⟩]
 rfl
end
theorem hasF_mk {h : List Fau} {f : Int} (h0 : 0 ≤ f) (h1 : f < (h.length : Int)) : hasF h f = true:=by
 unfold hasF
 rw [Bool.and_eq_true,decide_eq_true_eq,decide_eq_true_eq]
 omega
theorem good_mk {t : List Cls} {h : List Fau} {f : Int} (hv : vH t h = true) (h0 : 0 ≤ f) (h1 : f < (h.length : Int)) : (vH t h && hasF h f) = true:=by
 rw [hv,hasF_mk h0 h1]
 rfl
end Go.Proofs.Ytmiholmfbjalfaa.P
namespace Go.Proofs.Ytmiholmfbjalfaa.Pure
open Go.RowKit Go.Proofs.Ytmiholmfbjalfaa.P
open Go.Proofs.YtmiholmfbjalfaaW.PrintWords (rd rdOf wrap_succ wrap_pred wrap_in toL_beq idxP)
set_option linter.unusedVariables false
theorem FnHideContext : laws_FnHideContext.Pure:=by
 intro l0 _ _ hw
 refine Ev.out (F:=fun k=>laws_FnHideContext.f k l0) ?_
 unfold laws_FnHideContext.f
 by_cases hbig : (l0.length : Int) > 1048576
 ·exact Ev.pos hbig (Ev.const rfl)
 refine Ev.neg hbig ?_
 obtain ⟨t,h,f,b,hd,ht,hs,hh⟩:=spec_DrawHideContext_ev l0 hw
 have hI:=impl_HideContext_ev t h f b hs (by omega)
 have hS:=spec_HideContext_ev t h f b hs (by omega) (by omega)
 by_cases hc : (vH t h && hasF h f) = true
 ·obtain ⟨o,ho⟩ : ∃ o : List Fau,o = h.set f.toNat ⟨(fauAt h f).f0,(fauAt h f).f1,(fauAt h f).f2,(fauAt h f).f3,b⟩:=⟨_,rfl⟩
  have hr : hidP t h f b = (o,true):=by unfold hidP;rw [if_pos hc,ho]
  rw [hr] at hI hS
  have hl : o.length = h.length:=by rw [ho,List.length_set]
  obtain ⟨_,h0,h1⟩:=good_parts hc
  have hv:=(Bool.and_eq_true _ _ ▸ hc).1
  have hv2 : vH t o = true:=by rw [ho];exact vH_hide hv f b h0 h1
  have hof : fauAt o f = ⟨(fauAt h f).f0,(fauAt h f).f1,(fauAt h f).f2,(fauAt h f).f3,b⟩:=by rw [ho];exact fauAt_set_eq h0 h1
  have hgo : (vH t o && hasF o f) = true:=good_mk hv2 h0 (by rw [hl];exact h1)
  have hlt : f.toNat < h.length:=by omega
  have ha : hidP t o f (rd_T43 h f).f4 = (h,true):=by
   unfold hidP
   rw [if_pos hgo,hof,ho,List.set_set]
   have e : (⟨(fauAt h f).f0,(fauAt h f).f1,(fauAt h f).f2,(fauAt h f).f3,(rd_T43 h f).f4⟩ : Fau) = h[f.toNat]:=by
    have e2 : fauAt h f = h[f.toNat]:=by unfold fauAt;rw [List.getD_eq_getElem?_getD,List.getElem?_eq_getElem hlt];rfl
    have e3 : rd_T43 h f = fauAt h f:=rfl
    rw [e3,e2]
   rw [e,List.set_getElem_self]
  have hI2:=impl_HideContext_ev t o f (rd_T43 h f).f4 hs (by omega)
  rw [ha] at hI2
  have hN:=impl_ShownNext_ev t o f hs (by omega)
  have hn : shwP t o f = if 0 ≤ (fauAt h f).f2 then (fauAt h f).f2 else if b = true then -1 else (fauAt h f).f3:=by
   unfold shwP
   rw [if_pos hgo]
   unfold shwN
   have : o.getD f.toNat z43 = fauAt o f:=rfl
   rw [this,hof]
  rw [hn] at hN
  have r2 : (rd_T43 o f).f2 = (fauAt h f).f2:=by
   have : rd_T43 o f = fauAt o f:=rfl
   rw [this,hof]
  have r3 : (rd_T43 o f).f3 = (fauAt h f).f3:=by
   have : rd_T43 o f = fauAt o f:=rfl
   rw [this,hof]
  refine Ev.bind hd (Ev.bind (Ev.const hI) (Ev.bind hS (Ev.bind (laws_equalHeap_ev _ (show o.length ≤ 9223372036854775806 by omega)) (Ev.pos rfl (Ev.neg (by simp) (Ev.succ ?_))))))
  simp only [laws_FnHideContext.j0,r2,r3]
  refine Ev.neg (by simp) (Ev.pos h0 (Ev.pos h1 (Ev.bind (Ev.const hI2) (Ev.pos (by omega) (Ev.bind (Ev.const hN) (Ev.pos rfl (Ev.bind (laws_equalHeap_ev _ (show h.length ≤ 9223372036854775806 by omega)) (Ev.pos rfl ?_))))))))
  by_cases hc2 : 0 ≤ (fauAt h f).f2
  ·exact Ev.pos hc2 (Ev.pos (if_pos hc2) (Ev.const rfl))
  ·refine Ev.neg hc2 (Ev.pos (by omega) ?_)
   cases b with
   | true=>exact Ev.pos rfl (Ev.pos (by rw [if_neg hc2,if_pos rfl]) (Ev.const rfl))
   | false=>exact Ev.neg (by simp) (Ev.const (by rw [if_neg hc2,if_neg (by simp)];simp))
 ·have hr : hidP t h f b = ([],false):=by unfold hidP;rw [if_neg hc]
  rw [hr] at hI hS
  refine Ev.bind hd (Ev.bind (Ev.const hI) (Ev.bind hS (Ev.bind (laws_equalHeap_ev _ (by simp)) (Ev.pos rfl (Ev.neg (by simp) (Ev.succ ?_))))))
  simp only [laws_FnHideContext.j0]
  exact Ev.pos (by rfl) (Ev.bind (laws_equalHeap_ev _ (by simp)) (Ev.pos rfl (Ev.const rfl)))
end Go.Proofs.Ytmiholmfbjalfaa.Pure
