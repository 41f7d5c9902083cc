/- Texts under the proof of FnRaiseWhile: helper words, the functions' contracts and the plain laws. No condition. -/
import Derived.Test.YtmiholmfbjalfaaQFnRaiseWhilea
import Derived.Test.YtmiholmfbjalfaaQFnRaiseWhiled
import Derived.Test.YtmiholmfbjalfaaQFnRaiseWhilee
import Derived.Test.YtmiholmfbjalfaaQFnRaiseWhileb
namespace Go.Proofs.Ytmiholmfbjalfaa.P
open Go.RowKit Go.Proofs.YtmiholmfbjalfaaW.PrintWords Go.Proofs.YtmiholmfbjalfaaW.PrintLast Go.Proofs.YtmiholmfbjalfaaW.PrintMore
attribute [local go_sem] max2_int min2_int max_two min_two max_three min_three max_four min_four
set_option linter.unusedVariables false
set_option linter.unusedSimpArgs false
def laws_FnRaiseWhile.j0 : Nat → Int → Int → Bool → Bool → Bool → List (S87) → List (S43) → List (S43) → List (S43) → Option (Bool)
 | 0,_,_,_,_,_,_,_,_,_=>none
 | k + 1,x5,x6,x8,x10,x51,x10000,x11000,x16000,x21000=>if x51 = true then ((laws_equalHeap.f k x16000 x21000).bind fun t22=>(if t22 = true then (some (x8 == x10)) else (some false))) else ((impl_RaiseWhile.f x10000 x16000 x5 x6).bind fun bt23=>((impl_ValidHeap.f x10000 x16000).bind fun t28=>(if t28 = true then (if bt23.2 = true then ((laws_equalHeap.f k bt23.1 x16000).bind fun t29=>(if t29 = true then (if x5 = x6 then ((laws_equalHeap.f k x16000 x11000).bind fun t30=>(if t30 = true then (some true) else (some false))) else (if 0 ≤ x5 then (if x5 < (x16000.length : Int) then (some (((rd_T43 x16000 x5).f3) == x6)) else (none)) else (none))) else (some false))) else (some false)) else (some false))))
def laws_FnRaiseWhile.f (k : Nat) (l0 : List Int) : Option (Bool):=if (l0.length : Int) > 1048576 then (some true) else ((spec_DrawRaiseWhile.f k l0).bind fun bt1=>((impl_RaiseWhile.f bt1.1 bt1.2.1 bt1.2.2.1 bt1.2.2.2).bind fun bt11=>((spec_RaiseWhile.f k bt1.1 bt1.2.1 bt1.2.2.1 bt1.2.2.2).bind fun bt16=>((laws_equalHeap.f k bt11.1 bt16.1).bind fun t21=>(if t21 = true then (if (bt11.2 != bt16.2) = true then (laws_FnRaiseWhile.j0 k bt1.2.2.1 bt1.2.2.2 bt11.2 bt16.2 true bt1.1 bt1.2.1 bt11.1 bt16.1) else (laws_FnRaiseWhile.j0 k bt1.2.2.1 bt1.2.2.2 bt11.2 bt16.2 (!bt11.2) bt1.1 bt1.2.1 bt11.1 bt16.1)) else (laws_FnRaiseWhile.j0 k bt1.2.2.1 bt1.2.2.2 bt11.2 bt16.2 true bt1.1 bt1.2.1 bt11.1 bt16.1))))))
theorem laws_FnRaiseWhile.mono_l : ∀ k,(∀ y0 y1 y2 y3 y4 y5 y6 y7 y8,LeO (laws_FnRaiseWhile.j0 k y0 y1 y2 y3 y4 y5 y6 y7 y8) (laws_FnRaiseWhile.j0 (k + 1) y0 y1 y2 y3 y4 y5 y6 y7 y8))
 | 0=>fun _ _ _ _ _ _ _ _ _ r h=>by simp [laws_FnRaiseWhile.j0] at h
 | k + 1=>by
  have ih0:=laws_FnRaiseWhile.mono_l k
  ·intro y0 y1 y2 y3 y4 y5 y6 y7 y8
   unfold laws_FnRaiseWhile.j0
   repeat' first
   | (with_reducible exact ih0 _ _ _ _ _ _ _ _ _)
   | (with_reducible exact laws_equalHeap.mono _ _ _)
   | (with_reducible exact spec_DrawRaiseWhile.mono _ _)
   | (with_reducible exact spec_RaiseWhile.mono _ _ _ _ _)
   | (with_reducible exact LeO.refl _)
   | (with_reducible exact LeO.none _)
   | (with_reducible refine LeO.ite ?_ ?_)
   | (with_reducible refine LeO.bind ?_ (fun _=>?_))
   | exact ih0 _ _ _ _ _ _ _ _ _
   | exact laws_equalHeap.mono _ _ _
   | exact spec_DrawRaiseWhile.mono _ _
   | exact spec_RaiseWhile.mono _ _ _ _ _
   | exact LeO.none _
   | refine LeO.ite ?_ ?_
   | refine LeO.bind ?_ (fun _=>?_)
theorem laws_FnRaiseWhile.mono : ∀ a0 k,LeO (laws_FnRaiseWhile.f k a0) (laws_FnRaiseWhile.f (k + 1) a0):=by
 intro a0 k
 have ih0:=laws_FnRaiseWhile.mono_l k
 unfold laws_FnRaiseWhile.f
 repeat' first
   | (with_reducible exact ih0 _ _ _ _ _ _ _ _ _)
   | (with_reducible exact laws_equalHeap.mono _ _ _)
   | (with_reducible exact spec_DrawRaiseWhile.mono _ _)
   | (with_reducible exact spec_RaiseWhile.mono _ _ _ _ _)
   | (with_reducible exact LeO.refl _)
   | (with_reducible exact LeO.none _)
   | (with_reducible refine LeO.ite ?_ ?_)
   | (with_reducible refine LeO.bind ?_ (fun _=>?_))
   | exact ih0 _ _ _ _ _ _ _ _ _
   | exact laws_equalHeap.mono _ _ _
   | exact spec_DrawRaiseWhile.mono _ _
   | exact spec_RaiseWhile.mono _ _ _ _ _
   | exact LeO.none _
   | refine LeO.ite ?_ ?_
   | refine LeO.bind ?_ (fun _=>?_)
set_option maxHeartbeats 8000000 in
set_option maxRecDepth 100000 in
theorem laws_FnRaiseWhile.calls (k : Nat) (A0 : Option Addr) (c0 : Nat) (l0 : List Int) (r : Bool) (w : World) (hr0 : Kd.C (Kd.int .u8) w A0 l0.length l0) (hc0 : l0.length ≤ c0) (h : laws_FnRaiseWhile.f k l0 = some r) :
  Calls Try.prog 7 #[.slice A0 l0.length c0] w fun e w'=>e = .returned (.bool r) ∧ Below w.heap.size w w':=by
 have hu25:=Try.underlying25
 have hu28:=Try.underlying28
 have HR0:=a0_ hr0
 have HC0:=a0_ hc0
 clear hr0 hc0
 have HB:=a0_ (Below.refl w.heap.size w)
 have H : (if (l0.length : Int) > 1048576 then (some true) else ((spec_DrawRaiseWhile.f k l0).bind fun bt1=>((impl_RaiseWhile.f bt1.1 bt1.2.1 bt1.2.2.1 bt1.2.2.2).bind fun bt11=>((spec_RaiseWhile.f k bt1.1 bt1.2.1 bt1.2.2.1 bt1.2.2.2).bind fun bt16=>((laws_equalHeap.f k bt11.1 bt16.1).bind fun t21=>(if t21 = true then (if (bt11.2 != bt16.2) = true then (laws_FnRaiseWhile.j0 k bt1.2.2.1 bt1.2.2.2 bt11.2 bt16.2 true bt1.1 bt1.2.1 bt11.1 bt16.1) else (laws_FnRaiseWhile.j0 k bt1.2.2.1 bt1.2.2.2 bt11.2 bt16.2 (!bt11.2) bt1.1 bt1.2.1 bt11.1 bt16.1)) else (laws_FnRaiseWhile.j0 k bt1.2.2.1 bt1.2.2.2 bt11.2 bt16.2 true bt1.1 bt1.2.1 bt11.1 bt16.1))))))) = some r:=h
 clear h
 by_cases c2 : (l0.length : Int) > 1048576
 ·rw [if_pos c2] at H
  have c2b0 : decide (1048576 < (l0.length : Int)) = true:=decide_eq_true c2
  have c2b1 : decide (1048576 < l0.length) = true:=decide_eq_true (by omega)
  clear c2
  obtain rfl:=Option.some.inj H
  go_enter Try.func7,Try.ntmps7
  go_wp2
  go_ret
  exact ⟨by first | rfl | (simp [errW_none,errW_some] <;> rfl) | (simp [*,errW_none,errW_some] <;> rfl),hb_⟩
 ·rw [if_neg c2] at H
  have c2b0 : decide (1048576 < (l0.length : Int)) = false:=decide_eq_false c2
  have c2b1 : decide (1048576 < l0.length) = false:=decide_eq_false (by omega)
  clear c2
  replace H:=Option.bind_eq_some_iff.mp H
  obtain ⟨⟨t1,t4,t7,t8⟩,A30,H⟩:=H
  try dsimp only at H
  have A3:=a0_ A30
  clear A30
  replace H:=Option.bind_eq_some_iff.mp H
  obtain ⟨⟨t11,t14⟩,A40,H⟩:=H
  try dsimp only at H
  have A4:=a0_ A40
  clear A40
  replace H:=Option.bind_eq_some_iff.mp H
  obtain ⟨⟨t16,t19⟩,A50,H⟩:=H
  try dsimp only at H
  have A5:=a0_ A50
  clear A50
  have HC6:=a0_ H
  clear H
  go_enter Try.func7,Try.ntmps7
  go_upto_region 6 with (first | ((with_reducible refine gate_callee (f:=27) rfl ?_);refine goesL_ (some 18) rfl rfl Try.func27 (by kernel_rfl) rfl #[.slice A0 l0.length c0] rfl lm_ ?_;(with_reducible refine (spec_DrawRaiseWhile.calls k _ _ l0 t1 t4 t7 t8 _ ?side1 ?side2 A3.out).mono ?_);(case side1=>repeat (first | exact HR0.out | (with_reducible refine Kd.C_alloc ?_ _) | (with_reducible refine Kd.C_drewN ?_ _) | (with_reducible refine Kd.C_drew ?_)));(case side2=>exact HC0.out);rintro e w7 ⟨v2,v5,rfl,ho0,ho1,hb⟩;refine ⟨_,rfl,?_⟩;have HO3:=a0_ (Kd.R_lower ho0 (below_size hb_));have HO6:=a0_ (Kd.R_lower ho1 (below_size hb_));replace HB:=a0_ (below_step hb_ hb);(try clear hb);(try clear ho0);(try clear ho1)) | ((with_reducible refine gate_dst (N:=3) rfl ?_);refine box_event ?hg (N:=3) ?hd (cs:=#[.slice none 0 0]) (t:=25) ?hr ?_;(case hd=>rfl);(case hg=>rfl);(case hr=>first | (go_simp;done) | (go_simp;rfl));intro gb9 hg w8 hbox hb;replace HO3:=rb_ HO3 hb;replace HO6:=rb_ HO6 hb;have BK9:=a0_ (hbox);have GW9:=a0_ ((by rw [hg];exact (below_size hb_) : w.heap.size ≤ gb9));have GE9:=a0_ ((by rw [hg];exact (below_size hb_) : w.heap.size ≤ gb9));replace HB:=a0_ (below_step hb_ hb);clear hb hbox hg) | ((with_reducible refine gate_dst (N:=4) rfl ?_);refine box_event ?hg (N:=4) ?hd (cs:=#[.slice none 0 0]) (t:=28) ?hr ?_;(case hd=>rfl);(case hg=>rfl);(case hr=>first | (go_simp;done) | (go_simp;rfl));intro gb10 hg w9 hbox hb;have n0_:=rb_ HO3 hb;have n1_:=rb_ HO6 hb;have n2_:=kb_ BK9 hb;have n3_:=a0_ (below_step hb_ hb);have n4_:=a0_ (hbox);have n5_:=a0_ ((by rw [hg];exact (below_size hb_) : w.heap.size ≤ gb10));have n6_:=a0_ ((by rw [hg];exact (below_size hb_) : w.heap.size ≤ gb10));have n7_:=a0_ ((by rw [hg];exact Nat.ne_of_lt (blk_lt (bb_ BK9.out)) : gb9 ≠ gb10));have n8_:=a0_ ((by rw [hg];exact Nat.ne_of_gt (blk_lt (bb_ BK9.out)) : gb10 ≠ gb9));clear HO3 HO6;clear BK9 HB;have HO3:=n0_;have HO6:=n1_;have BK9:=n2_;have HB:=n3_;have BK10:=n4_;have GW10:=n5_;have GE10:=n6_;have NB9_10:=n7_;have NB10_9:=n8_;clear n0_ n1_ n2_ n3_ n4_ n5_ n6_ n7_ n8_;clear hb hbox hg;obtain ⟨Ao10,co10,eo10⟩:=Kd.R_slice HO3.out;subst eo10;have hnb11:=NB9_10.out;have hnc11:=NB10_9.out;have hcz12_0 : w9.cell? ⟨gb9,0,none⟩ = some (.slice none 0 0):=(blk_cell BK9.out 0).trans rfl;have hfz12_0:=blk_frozen BK9.out 0;obtain ⟨Ao13,co13,eo13⟩:=Kd.R_slice HO6.out;subst eo13;have hcz14_0 : w9.cell? ⟨gb10,0,none⟩ = some (.slice none 0 0):=(blk_cell BK10.out 0).trans rfl;have hfz14_0:=blk_frozen BK10.out 0) | ((with_reducible refine gate_callee (f:=28) rfl ?_);refine goesL_ (some 28) rfl rfl Try.func28 (by kernel_rfl) rfl #[.agg #[.slice Ao10 t1.length co10],.agg #[.slice Ao13 t4.length co13],.int .i64 t7,.int .i64 t8] rfl lm_ ?_;(with_reducible refine (impl_RaiseWhile.calls _ _ t1 _ _ t4 t7 t8 t11 t14 _ ?side1 ?side2 ?side3 ?side4 A4.out).mono ?_);(case side1=>refine (Kd.R_reads' (e:=87) (base:=w.heap.size) (ok:=fun k_=>True) (n:=t1.length) (c:=co10) ?_).2.2;exact (by (with_reducible repeat (first | apply Kd.R_alloc | apply Kd.R_drewN | apply Kd.R_drew));exact (Kd.R_mono (Kd.R_mono (Kd.R_far (p:=⟨gb10,0,none⟩) (Kd.R_far (p:=⟨gb9,0,none⟩) (Kd.R_types (Kd.R_types HO3.out BK9.out (by decide)) BK10.out (by decide)) (fun _ hk=>hk.1.2) (.slice Ao10 t1.length co10)) (fun _ hk=>hk.2) (.slice Ao13 t4.length co13)) (fun _ h_=>h_.1)) (fun _ h_=>h_.1))));(case side2=>exact (Kd.R_reads' HO3.out).2.1);(case side3=>refine (Kd.R_reads' (e:=43) (base:=w.heap.size) (ok:=fun k_=>True) (n:=t4.length) (c:=co13) ?_).2.2;exact (by (with_reducible repeat (first | apply Kd.R_alloc | apply Kd.R_drewN | apply Kd.R_drew));exact (Kd.R_mono (Kd.R_mono (Kd.R_far (p:=⟨gb10,0,none⟩) (Kd.R_far (p:=⟨gb9,0,none⟩) (Kd.R_types (Kd.R_types HO6.out BK9.out (by decide)) BK10.out (by decide)) (fun _ hk=>hk.1.2) (.slice Ao10 t1.length co10)) (fun _ hk=>hk.2) (.slice Ao13 t4.length co13)) (fun _ h_=>h_.1)) (fun _ h_=>h_.1))));(case side4=>exact (Kd.R_reads' HO6.out).2.1);rintro e w15 ⟨v12,rfl,ho0,hb⟩;refine ⟨_,rfl,?_⟩;have n0_:=a0_ (Kd.R_below (by (with_reducible repeat (first | apply Kd.R_alloc | apply Kd.R_drewN | apply Kd.R_drew));exact (Kd.R_mono (Kd.R_mono (Kd.R_far (p:=⟨gb10,0,none⟩) (Kd.R_far (p:=⟨gb9,0,none⟩) (Kd.R_types (Kd.R_types HO3.out BK9.out (by decide)) BK10.out (by decide)) (fun _ hk=>hk.1.2) (.slice Ao10 t1.length co10)) (fun _ hk=>hk.2) (.slice Ao13 t4.length co13)) (fun _ h_=>h_.1)) (fun _ h_=>h_.1))) hb);have n1_:=a0_ (Kd.R_elder' (by (with_reducible repeat (first | apply Kd.R_alloc | apply Kd.R_drewN | apply Kd.R_drew));exact (Kd.R_mono (Kd.R_mono (Kd.R_far (p:=⟨gb10,0,none⟩) (Kd.R_far (p:=⟨gb9,0,none⟩) (Kd.R_types (Kd.R_types HO6.out BK9.out (by decide)) BK10.out (by decide)) (fun _ hk=>hk.1.2) (.slice Ao10 t1.length co10)) (fun _ hk=>hk.2) (.slice Ao13 t4.length co13)) (fun _ h_=>h_.1)) (fun _ h_=>h_.1))) (Kd.R_base ho0) hb);have n2_:=a0_ (Kd.R_lower (Kd.R_new' ho0 (Kd.R_lt (by (with_reducible repeat (first | apply Kd.R_alloc | apply Kd.R_drewN | apply Kd.R_drew));exact (Kd.R_mono (Kd.R_mono (Kd.R_far (p:=⟨gb10,0,none⟩) (Kd.R_far (p:=⟨gb9,0,none⟩) (Kd.R_types (Kd.R_types HO6.out BK9.out (by decide)) BK10.out (by decide)) (fun _ hk=>hk.1.2) (.slice Ao10 t1.length co10)) (fun _ hk=>hk.2) (.slice Ao13 t4.length co13)) (fun _ h_=>h_.1)) (fun _ h_=>h_.1))))) (below_size hb_));have n3_:=a0_ (blk_below (g:=gb9) (o:=.cells #[.slice Ao10 t1.length co10] 25 (0,0)) (by (with_reducible repeat (first | refine blk_drewN ?_ _ | refine blk_drew ?_ | refine blk_alloc ?_ _));refine blk_far ?_ NB9_10.out _;(with_reducible repeat (first | refine blk_drewN ?_ _ | refine blk_drew ?_ | refine blk_alloc ?_ _));refine blk_put (cs:=#[.slice none 0 0]) ?_ 0 _ rfl;(with_reducible repeat (first | refine blk_drewN ?_ _ | refine blk_drew ?_ | refine blk_alloc ?_ _));exact BK9.out) hb);have n4_:=a0_ (blk_below (g:=gb10) (o:=.cells #[.slice Ao13 t4.length co13] 28 (0,0)) (by (with_reducible repeat (first | refine blk_drewN ?_ _ | refine blk_drew ?_ | refine blk_alloc ?_ _));refine blk_put (cs:=#[.slice none 0 0]) ?_ 0 _ rfl;(with_reducible repeat (first | refine blk_drewN ?_ _ | refine blk_drew ?_ | refine blk_alloc ?_ _));refine blk_far ?_ NB10_9.out _;(with_reducible repeat (first | refine blk_drewN ?_ _ | refine blk_drew ?_ | refine blk_alloc ?_ _));exact BK10.out) hb);have n5_:=a0_ (below_step hb_ hb);clear HO3 HO6;clear BK9 BK10 HB;have HO3:=n0_;have HO6:=n1_;have HO13:=n2_;have BK9:=n3_;have BK10:=n4_;have HB:=n5_;clear n0_ n1_ n2_ n3_ n4_ n5_;(try clear hb);(try clear ho0)) | ((with_reducible refine gate_dst (N:=7) rfl ?_);refine box_event ?hg (N:=7) ?hd (cs:=#[.slice none 0 0]) (t:=28) ?hr ?_;(case hd=>rfl);(case hg=>rfl);(case hr=>first | (go_simp;done) | (go_simp;rfl));intro gb15 hg w16 hbox hb;have n0_:=rb_ HO3 hb;have n1_:=rb_ HO6 hb;have n2_:=rb_ HO13 hb;have n3_:=kb_ BK9 hb;have n4_:=kb_ BK10 hb;have n5_:=a0_ (below_step hb_ hb);have n6_:=a0_ (hbox);have n7_:=a0_ ((by rw [hg];exact (below_size hb_) : w.heap.size ≤ gb15));have n8_:=a0_ ((by rw [hg];exact (below_size hb_) : w.heap.size ≤ gb15));have n9_:=a0_ ((by rw [hg];exact Nat.ne_of_lt (blk_lt (bb_ BK9.out)) : gb9 ≠ gb15));have n10_:=a0_ ((by rw [hg];exact Nat.ne_of_gt (blk_lt (bb_ BK9.out)) : gb15 ≠ gb9));have n11_:=a0_ ((by rw [hg];exact Nat.ne_of_lt (blk_lt (bb_ BK10.out)) : gb10 ≠ gb15));have n12_:=a0_ ((by rw [hg];exact Nat.ne_of_gt (blk_lt (bb_ BK10.out)) : gb15 ≠ gb10));clear HO3 HO6;clear HO13 BK9;clear BK10 HB;have HO3:=n0_;have HO6:=n1_;have HO13:=n2_;have BK9:=n3_;have BK10:=n4_;have HB:=n5_;have BK15:=n6_;have GW15:=n7_;have GE15:=n8_;have NB9_15:=n9_;have NB15_9:=n10_;have NB10_15:=n11_;have NB15_10:=n12_;clear n0_ n1_ n2_ n3_ n4_ n5_ n6_ n7_ n8_ n9_ n10_ n11_ n12_;clear hb hbox hg;obtain ⟨Ao17,co17,eo17⟩:=Kd.R_slice HO13.out;subst eo17;have hnb18:=NB15_9.out;have hnc18:=NB9_15.out;have hnb19:=NB15_10.out;have hnc19:=NB10_15.out;have hcz20_0 : w16.cell? ⟨gb15,0,none⟩ = some (.slice none 0 0):=(blk_cell BK15.out 0).trans rfl;have hfz20_0:=blk_frozen BK15.out 0;have hcz21_0 : w16.cell? ⟨gb9,0,none⟩ = some (.slice Ao10 t1.length co10):=(blk_cell BK9.out 0).trans rfl;have hfz21_0:=blk_frozen BK9.out 0;have hcz22_0 : w16.cell? ⟨gb10,0,none⟩ = some (.slice Ao13 t4.length co13):=(blk_cell BK10.out 0).trans rfl;have hfz22_0:=blk_frozen BK10.out 0) | ((with_reducible refine gate_callee (f:=29) rfl ?_);refine goesL_ (some 36) rfl rfl Try.func29 (by kernel_rfl) rfl #[.agg #[.slice Ao10 t1.length co10],.agg #[.slice Ao13 t4.length co13],.int .i64 t7,.int .i64 t8] rfl lm_ ?_;(with_reducible refine (spec_RaiseWhile.calls k _ _ t1 _ _ t4 t7 t8 t16 t19 _ ?side1 ?side2 ?side3 ?side4 A5.out).mono ?_);(case side1=>refine (Kd.R_reads' (e:=87) (base:=w.heap.size) (ok:=fun k_=>True) (n:=t1.length) (c:=co10) ?_).2.2;exact (by (with_reducible repeat (first | apply Kd.R_alloc | apply Kd.R_drewN | apply Kd.R_drew));exact (Kd.R_mono (Kd.R_far (p:=⟨gb15,0,none⟩) (Kd.R_types HO3.out BK15.out (by decide)) (fun _ hk=>hk.2) (.slice Ao17 t11.length co17)) (fun _ h_=>h_.1))));(case side2=>exact (Kd.R_reads' HO3.out).2.1);(case side3=>refine (Kd.R_reads' (e:=43) (base:=w.heap.size) (ok:=fun k_=>(True ∧ some k_ ≠ (.slice Ao17 t11.length co17 : Value).ownBlock)) (n:=t4.length) (c:=co13) ?_).2.2;exact (by (with_reducible repeat (first | apply Kd.R_alloc | apply Kd.R_drewN | apply Kd.R_drew));exact (Kd.R_mono (Kd.R_far (p:=⟨gb15,0,none⟩) (Kd.R_types HO6.out BK15.out (by decide)) (fun _ hk=>hk.2) (.slice Ao17 t11.length co17)) (fun _ h_=>h_.1))));(case side4=>exact (Kd.R_reads' HO6.out).2.1);rintro e w23 ⟨v17,rfl,ho0,hb⟩;refine ⟨_,rfl,?_⟩;have n0_:=a0_ (Kd.R_below (by (with_reducible repeat (first | apply Kd.R_alloc | apply Kd.R_drewN | apply Kd.R_drew));exact (Kd.R_mono (Kd.R_far (p:=⟨gb15,0,none⟩) (Kd.R_types HO3.out BK15.out (by decide)) (fun _ hk=>hk.2) (.slice Ao17 t11.length co17)) (fun _ h_=>h_.1))) hb);have n1_:=a0_ (Kd.R_elder' (by (with_reducible repeat (first | apply Kd.R_alloc | apply Kd.R_drewN | apply Kd.R_drew));exact (Kd.R_mono (Kd.R_far (p:=⟨gb15,0,none⟩) (Kd.R_types HO6.out BK15.out (by decide)) (fun _ hk=>hk.2) (.slice Ao17 t11.length co17)) (fun _ h_=>h_.1))) (Kd.R_base ho0) hb);have n2_:=a0_ (Kd.R_elder' (by (with_reducible repeat (first | apply Kd.R_alloc | apply Kd.R_drewN | apply Kd.R_drew));exact (Kd.R_mono (Kd.R_far (p:=⟨gb15,0,none⟩) (Kd.R_types HO13.out BK15.out (by decide)) (fun _ hk=>hk.2) (.slice Ao17 t11.length co17)) (fun _ h_=>h_.1))) (Kd.R_base ho0) hb);have n3_:=a0_ (Kd.R_lower (Kd.R_new' (Kd.R_new' ho0 (Kd.R_lt (by (with_reducible repeat (first | apply Kd.R_alloc | apply Kd.R_drewN | apply Kd.R_drew));exact (Kd.R_mono (Kd.R_far (p:=⟨gb15,0,none⟩) (Kd.R_types HO6.out BK15.out (by decide)) (fun _ hk=>hk.2) (.slice Ao17 t11.length co17)) (fun _ h_=>h_.1))))) (Kd.R_lt (by (with_reducible repeat (first | apply Kd.R_alloc | apply Kd.R_drewN | apply Kd.R_drew));exact (Kd.R_mono (Kd.R_far (p:=⟨gb15,0,none⟩) (Kd.R_types HO13.out BK15.out (by decide)) (fun _ hk=>hk.2) (.slice Ao17 t11.length co17)) (fun _ h_=>h_.1))))) (below_size hb_));have n4_:=kf_ BK9 NB9_15 hb;have n5_:=kf_ BK10 NB10_15 hb;have n6_:=a0_ (blk_below (g:=gb15) (o:=.cells #[.slice Ao17 t11.length co17] 28 (0,0)) (by (with_reducible repeat (first | refine blk_drewN ?_ _ | refine blk_drew ?_ | refine blk_alloc ?_ _));refine blk_put (cs:=#[.slice none 0 0]) ?_ 0 _ rfl;(with_reducible repeat (first | refine blk_drewN ?_ _ | refine blk_drew ?_ | refine blk_alloc ?_ _));exact BK15.out) hb);have n7_:=a0_ (below_step hb_ hb);clear HO3 HO6;clear HO13 BK9;clear BK10 BK15 HB;have HO3:=n0_;have HO6:=n1_;have HO13:=n2_;have HO18:=n3_;have BK9:=n4_;have BK10:=n5_;have BK15:=n6_;have HB:=n7_;clear n0_ n1_ n2_ n3_ n4_ n5_ n6_ n7_;(try clear hb);(try clear ho0)) | ((with_reducible refine gate_dst (N:=9) rfl ?_);refine box_event ?hg (N:=9) ?hd (cs:=#[.slice none 0 0]) (t:=28) ?hr ?_;(case hd=>rfl);(case hg=>rfl);(case hr=>first | (go_simp;done) | (go_simp;rfl));intro gb20 hg w24 hbox hb;have n0_:=rb_ HO3 hb;have n1_:=rb_ HO6 hb;have n2_:=rb_ HO13 hb;have n3_:=rb_ HO18 hb;have n4_:=kb_ BK9 hb;have n5_:=kb_ BK10 hb;have n6_:=kb_ BK15 hb;have n7_:=a0_ (below_step hb_ hb);have n8_:=a0_ (hbox);have n9_:=a0_ ((by rw [hg];exact (below_size hb_) : w.heap.size ≤ gb20));have n10_:=a0_ ((by rw [hg];exact (below_size hb_) : w.heap.size ≤ gb20));have n11_:=a0_ ((by rw [hg];exact Nat.ne_of_lt (blk_lt (bb_ BK9.out)) : gb9 ≠ gb20));have n12_:=a0_ ((by rw [hg];exact Nat.ne_of_gt (blk_lt (bb_ BK9.out)) : gb20 ≠ gb9));have n13_:=a0_ ((by rw [hg];exact Nat.ne_of_lt (blk_lt (bb_ BK10.out)) : gb10 ≠ gb20));have n14_:=a0_ ((by rw [hg];exact Nat.ne_of_gt (blk_lt (bb_ BK10.out)) : gb20 ≠ gb10));have n15_:=a0_ ((by rw [hg];exact Nat.ne_of_lt (blk_lt (bb_ BK15.out)) : gb15 ≠ gb20));have n16_:=a0_ ((by rw [hg];exact Nat.ne_of_gt (blk_lt (bb_ BK15.out)) : gb20 ≠ gb15));clear HO3 HO6;clear HO13 HO18;clear BK9 BK10;clear BK15 HB;have HO3:=n0_;have HO6:=n1_;have HO13:=n2_;have HO18:=n3_;have BK9:=n4_;have BK10:=n5_;have BK15:=n6_;have HB:=n7_;have BK20:=n8_;have GW20:=n9_;have GE20:=n10_;have NB9_20:=n11_;have NB20_9:=n12_;have NB10_20:=n13_;have NB20_10:=n14_;have NB15_20:=n15_;have NB20_15:=n16_;clear n0_ n1_ n2_ n3_ n4_ n5_ n6_ n7_ n8_ n9_ n10_ n11_ n12_ n13_ n14_ n15_ n16_;clear hb hbox hg;obtain ⟨Ao25,co25,eo25⟩:=Kd.R_slice HO18.out;subst eo25;have hnb26:=NB20_9.out;have hnc26:=NB9_20.out;have hnb27:=NB20_10.out;have hnc27:=NB10_20.out;have hnb28:=NB20_15.out;have hnc28:=NB15_20.out;have hcz29_0 : w24.cell? ⟨gb20,0,none⟩ = some (.slice none 0 0):=(blk_cell BK20.out 0).trans rfl;have hfz29_0:=blk_frozen BK20.out 0))
  (try simp only [Act.put,s1_,s2_,s3_])
  go_cut [51] (fun v51 wc=>∃ (kq : Nat) (x51_5 : Bool),v51 = .bool x51_5 ∧ Aside0 (laws_FnRaiseWhile.j0 kq t7 t8 t14 t19 x51_5 t1 t4 t11 t16 = some r) ∧ Aside0 (kq ≤ k) ∧ Aside0 (Kd.R k87 87 wc w.heap.size (fun _=>True) (.slice Ao10 t1.length co10) t1) ∧ Aside0 (Kd.R k43 43 wc w.heap.size (fun k_=>some k_ ≠ ((.slice Ao17 t11.length co17) : Value).ownBlock ∧ some k_ ≠ ((.slice Ao25 t16.length co25) : Value).ownBlock) (.slice Ao13 t4.length co13) t4) ∧ Aside0 (Kd.R k43 43 wc w.heap.size (fun k_=>some k_ ≠ ((.slice Ao13 t4.length co13) : Value).ownBlock ∧ some k_ ≠ ((.slice Ao25 t16.length co25) : Value).ownBlock) (.slice Ao17 t11.length co17) t11) ∧ Aside0 (Kd.R k43 43 wc w.heap.size (fun k_=>some k_ ≠ ((.slice Ao13 t4.length co13) : Value).ownBlock ∧ some k_ ≠ ((.slice Ao17 t11.length co17) : Value).ownBlock) (.slice Ao25 t16.length co25) t16) ∧ Aside0 (wc.heap[gb9]? = some (.cells #[(.slice Ao10 t1.length co10)] 25 (0,0))) ∧ Aside0 (wc.heap[gb10]? = some (.cells #[(.slice Ao13 t4.length co13)] 28 (0,0))) ∧ Aside0 (wc.heap[gb15]? = some (.cells #[(.slice Ao17 t11.length co17)] 28 (0,0))) ∧ Aside0 (wc.heap[gb20]? = some (.cells #[(.slice Ao25 t16.length co25)] 28 (0,0))) ∧ Aside0 (Below w.heap.size w wc))
  case first =>
   have H:=HC6.out
   clear HC6
   replace H:=Option.bind_eq_some_iff.mp H
   obtain ⟨t21,A300,H⟩:=H
   try dsimp only at H
   have A30:=a0_ A300
   clear A300
   by_cases c31 : t21 = true
   ·subst c31
    have H1 : (if (t14 != t19) = true then (laws_FnRaiseWhile.j0 k t7 t8 t14 t19 true t1 t4 t11 t16) else (laws_FnRaiseWhile.j0 k t7 t8 t14 t19 (!t14) t1 t4 t11 t16)) = some r:=by rw [if_pos rfl] at H;exact H
    clear H
    have H:=H1
    clear H1
    by_cases c32 : (t14 != t19) = true
    ·rw [if_pos c32] at H
     have c32b0 : (t14 != t19) = true:=c32
     (try (have c32b1 : decide (t14 = t19) = false:=by simpa using c32))
     (try (have c32b2 : (t14 == t19) = false:=by simpa using c32))
     (try (have c32b3 : ¬ (t14 = t19):=by simpa using c32))
     clear c32
     (first | rw [c32b0] | (simp only [i64_w,i32_w];rw [c32b0]) | skip)
     have H':=a0_ H
     clear H
     have hnb33:=NB15_9.out
     have hnc33:=NB9_15.out
     have hnb34:=NB15_10.out
     have hnc34:=NB10_15.out
     have hnb35:=NB15_20.out
     have hnc35:=NB20_15.out
     have hcz36_0 : w24.cell? ⟨gb15,0,none⟩ = some (.slice Ao17 t11.length co17):=(blk_cell BK15.out 0).trans rfl
     have hfz36_0:=blk_frozen BK15.out 0
     have hnb37:=NB20_9.out
     have hnc37:=NB9_20.out
     have hnb38:=NB20_10.out
     have hnc38:=NB10_20.out
     have hcz39_0 : w24.cell? ⟨gb20,0,none⟩ = some (.slice none 0 0):=(blk_cell BK20.out 0).trans rfl
     have hfz39_0:=blk_frozen BK20.out 0
     go_wp2_with (first | ((with_reducible refine gate_callee (f:=19) rfl ?_);refine goesL_ (some 41) rfl rfl Try.func19 (by kernel_rfl) rfl #[.agg #[.slice Ao17 t11.length co17],.agg #[.slice Ao25 t16.length co25]] rfl lm_ ?_;(with_reducible refine (laws_equalHeap.calls k _ _ t11 _ _ t16 true _ ?side1 ?side2 ?side3 ?side4 A30.out).mono ?_);(case side1=>refine (Kd.R_reads' (e:=43) (base:=w.heap.size) (ok:=fun k_=>((True ∧ some k_ ≠ (.slice Ao13 t4.length co13 : Value).ownBlock) ∧ some k_ ≠ (.slice Ao25 t16.length co25 : Value).ownBlock)) (n:=t11.length) (c:=co17) ?_).2.2;exact (by (with_reducible repeat (first | apply Kd.R_alloc | apply Kd.R_drewN | apply Kd.R_drew));exact (Kd.R_mono (Kd.R_far (p:=⟨gb20,0,none⟩) (Kd.R_types HO13.out BK20.out (by decide)) (fun _ hk=>hk.2) (.slice Ao25 t16.length co25)) (fun _ h_=>h_.1))));(case side2=>exact (Kd.R_reads' HO13.out).2.1);(case side3=>refine (Kd.R_reads' (e:=43) (base:=w.heap.size) (ok:=fun k_=>((True ∧ some k_ ≠ (.slice Ao13 t4.length co13 : Value).ownBlock) ∧ some k_ ≠ (.slice Ao17 t11.length co17 : Value).ownBlock)) (n:=t16.length) (c:=co25) ?_).2.2;exact (by (with_reducible repeat (first | apply Kd.R_alloc | apply Kd.R_drewN | apply Kd.R_drew));exact (Kd.R_mono (Kd.R_far (p:=⟨gb20,0,none⟩) (Kd.R_types HO18.out BK20.out (by decide)) (fun _ hk=>hk.2) (.slice Ao25 t16.length co25)) (fun _ h_=>h_.1))));(case side4=>exact (Kd.R_reads' HO18.out).2.1);rintro e w40 ⟨rfl,hb⟩;refine ⟨_,rfl,?_⟩;replace HO3:=a0_ (Kd.R_below (by (with_reducible repeat (first | apply Kd.R_alloc | apply Kd.R_drewN | apply Kd.R_drew));exact (Kd.R_mono (Kd.R_far (p:=⟨gb20,0,none⟩) (Kd.R_types HO3.out BK20.out (by decide)) (fun _ hk=>hk.2) (.slice Ao25 t16.length co25)) (fun _ h_=>h_.1))) hb);replace HO6:=a0_ (Kd.R_below (by (with_reducible repeat (first | apply Kd.R_alloc | apply Kd.R_drewN | apply Kd.R_drew));exact (Kd.R_mono (Kd.R_far (p:=⟨gb20,0,none⟩) (Kd.R_types HO6.out BK20.out (by decide)) (fun _ hk=>hk.2) (.slice Ao25 t16.length co25)) (fun _ h_=>h_.1))) hb);replace HO13:=a0_ (Kd.R_below (by (with_reducible repeat (first | apply Kd.R_alloc | apply Kd.R_drewN | apply Kd.R_drew));exact (Kd.R_mono (Kd.R_far (p:=⟨gb20,0,none⟩) (Kd.R_types HO13.out BK20.out (by decide)) (fun _ hk=>hk.2) (.slice Ao25 t16.length co25)) (fun _ h_=>h_.1))) hb);replace HO18:=a0_ (Kd.R_below (by (with_reducible repeat (first | apply Kd.R_alloc | apply Kd.R_drewN | apply Kd.R_drew));exact (Kd.R_mono (Kd.R_far (p:=⟨gb20,0,none⟩) (Kd.R_types HO18.out BK20.out (by decide)) (fun _ hk=>hk.2) (.slice Ao25 t16.length co25)) (fun _ h_=>h_.1))) hb);replace BK9:=kf_ BK9 NB9_20 hb;replace BK10:=kf_ BK10 NB10_20 hb;replace BK15:=kf_ BK15 NB15_20 hb;replace BK20:=a0_ (blk_below (g:=gb20) (o:=.cells #[.slice Ao25 t16.length co25] 28 (0,0)) (by (with_reducible repeat (first | refine blk_drewN ?_ _ | refine blk_drew ?_ | refine blk_alloc ?_ _));refine blk_put (cs:=#[.slice none 0 0]) ?_ 0 _ rfl;(with_reducible repeat (first | refine blk_drewN ?_ _ | refine blk_drew ?_ | refine blk_alloc ?_ _));exact BK20.out) hb);replace HB:=a0_ (below_step hb_ hb);(try clear hb);(try clear hb2);(try clear hk);(try clear hi)))
     go_meet
     case rel=>exact ⟨_,(true),(by first | rfl | (simp;done) | (simp [*];done)),H',⟨by first | omega | exact Nat.le_refl _⟩,⟨by (with_reducible repeat (first | apply Kd.R_alloc | apply Kd.R_drewN | apply Kd.R_drew));exact HO3.out⟩,⟨by (with_reducible repeat (first | apply Kd.R_alloc | apply Kd.R_drewN | apply Kd.R_drew));exact Kd.R_mono HO6.out (fun _ hk=>⟨hk.1.2,hk.2⟩)⟩,⟨by (with_reducible repeat (first | apply Kd.R_alloc | apply Kd.R_drewN | apply Kd.R_drew));exact Kd.R_mono HO13.out (fun _ hk=>⟨hk.1.2,hk.2⟩)⟩,⟨by (with_reducible repeat (first | apply Kd.R_alloc | apply Kd.R_drewN | apply Kd.R_drew));exact Kd.R_mono HO18.out (fun _ hk=>⟨hk.1.2,hk.2⟩)⟩,⟨by (with_reducible repeat (first | refine blk_drewN ?_ _ | refine blk_drew ?_ | refine blk_alloc ?_ _));exact BK9.out⟩,⟨by (with_reducible repeat (first | refine blk_drewN ?_ _ | refine blk_drew ?_ | refine blk_alloc ?_ _));exact BK10.out⟩,⟨by (with_reducible repeat (first | refine blk_drewN ?_ _ | refine blk_drew ?_ | refine blk_alloc ?_ _));exact BK15.out⟩,⟨by (with_reducible repeat (first | refine blk_drewN ?_ _ | refine blk_drew ?_ | refine blk_alloc ?_ _));exact BK20.out⟩,⟨hb_⟩⟩
    ·rw [if_neg c32] at H
     have c32b0 : (t14 != t19) = false:=by simpa using c32
     (try (have c32b1 : decide (t14 = t19) = true:=by simpa using c32))
     (try (have c32b2 : (t14 == t19) = true:=by simpa using c32))
     clear c32
     (first | rw [c32b0] | (simp only [i64_w,i32_w];rw [c32b0]) | skip)
     have H':=a0_ H
     clear H
     have hnb41:=NB15_9.out
     have hnc41:=NB9_15.out
     have hnb42:=NB15_10.out
     have hnc42:=NB10_15.out
     have hnb43:=NB15_20.out
     have hnc43:=NB20_15.out
     have hcz44_0 : w24.cell? ⟨gb15,0,none⟩ = some (.slice Ao17 t11.length co17):=(blk_cell BK15.out 0).trans rfl
     have hfz44_0:=blk_frozen BK15.out 0
     have hnb45:=NB20_9.out
     have hnc45:=NB9_20.out
     have hnb46:=NB20_10.out
     have hnc46:=NB10_20.out
     have hcz47_0 : w24.cell? ⟨gb20,0,none⟩ = some (.slice none 0 0):=(blk_cell BK20.out 0).trans rfl
     have hfz47_0:=blk_frozen BK20.out 0
     go_wp2_with (first | ((with_reducible refine gate_callee (f:=19) rfl ?_);refine goesL_ (some 41) rfl rfl Try.func19 (by kernel_rfl) rfl #[.agg #[.slice Ao17 t11.length co17],.agg #[.slice Ao25 t16.length co25]] rfl lm_ ?_;(with_reducible refine (laws_equalHeap.calls k _ _ t11 _ _ t16 true _ ?side1 ?side2 ?side3 ?side4 A30.out).mono ?_);(case side1=>refine (Kd.R_reads' (e:=43) (base:=w.heap.size) (ok:=fun k_=>((True ∧ some k_ ≠ (.slice Ao13 t4.length co13 : Value).ownBlock) ∧ some k_ ≠ (.slice Ao25 t16.length co25 : Value).ownBlock)) (n:=t11.length) (c:=co17) ?_).2.2;exact (by (with_reducible repeat (first | apply Kd.R_alloc | apply Kd.R_drewN | apply Kd.R_drew));exact (Kd.R_mono (Kd.R_far (p:=⟨gb20,0,none⟩) (Kd.R_types HO13.out BK20.out (by decide)) (fun _ hk=>hk.2) (.slice Ao25 t16.length co25)) (fun _ h_=>h_.1))));(case side2=>exact (Kd.R_reads' HO13.out).2.1);(case side3=>refine (Kd.R_reads' (e:=43) (base:=w.heap.size) (ok:=fun k_=>((True ∧ some k_ ≠ (.slice Ao13 t4.length co13 : Value).ownBlock) ∧ some k_ ≠ (.slice Ao17 t11.length co17 : Value).ownBlock)) (n:=t16.length) (c:=co25) ?_).2.2;exact (by (with_reducible repeat (first | apply Kd.R_alloc | apply Kd.R_drewN | apply Kd.R_drew));exact (Kd.R_mono (Kd.R_far (p:=⟨gb20,0,none⟩) (Kd.R_types HO18.out BK20.out (by decide)) (fun _ hk=>hk.2) (.slice Ao25 t16.length co25)) (fun _ h_=>h_.1))));(case side4=>exact (Kd.R_reads' HO18.out).2.1);rintro e w48 ⟨rfl,hb⟩;refine ⟨_,rfl,?_⟩;replace HO3:=a0_ (Kd.R_below (by (with_reducible repeat (first | apply Kd.R_alloc | apply Kd.R_drewN | apply Kd.R_drew));exact (Kd.R_mono (Kd.R_far (p:=⟨gb20,0,none⟩) (Kd.R_types HO3.out BK20.out (by decide)) (fun _ hk=>hk.2) (.slice Ao25 t16.length co25)) (fun _ h_=>h_.1))) hb);replace HO6:=a0_ (Kd.R_below (by (with_reducible repeat (first | apply Kd.R_alloc | apply Kd.R_drewN | apply Kd.R_drew));exact (Kd.R_mono (Kd.R_far (p:=⟨gb20,0,none⟩) (Kd.R_types HO6.out BK20.out (by decide)) (fun _ hk=>hk.2) (.slice Ao25 t16.length co25)) (fun _ h_=>h_.1))) hb);replace HO13:=a0_ (Kd.R_below (by (with_reducible repeat (first | apply Kd.R_alloc | apply Kd.R_drewN | apply Kd.R_drew));exact (Kd.R_mono (Kd.R_far (p:=⟨gb20,0,none⟩) (Kd.R_types HO13.out BK20.out (by decide)) (fun _ hk=>hk.2) (.slice Ao25 t16.length co25)) (fun _ h_=>h_.1))) hb);replace HO18:=a0_ (Kd.R_below (by (with_reducible repeat (first | apply Kd.R_alloc | apply Kd.R_drewN | apply Kd.R_drew));exact (Kd.R_mono (Kd.R_far (p:=⟨gb20,0,none⟩) (Kd.R_types HO18.out BK20.out (by decide)) (fun _ hk=>hk.2) (.slice Ao25 t16.length co25)) (fun _ h_=>h_.1))) hb);replace BK9:=kf_ BK9 NB9_20 hb;replace BK10:=kf_ BK10 NB10_20 hb;replace BK15:=kf_ BK15 NB15_20 hb;replace BK20:=a0_ (blk_below (g:=gb20) (o:=.cells #[.slice Ao25 t16.length co25] 28 (0,0)) (by (with_reducible repeat (first | refine blk_drewN ?_ _ | refine blk_drew ?_ | refine blk_alloc ?_ _));refine blk_put (cs:=#[.slice none 0 0]) ?_ 0 _ rfl;(with_reducible repeat (first | refine blk_drewN ?_ _ | refine blk_drew ?_ | refine blk_alloc ?_ _));exact BK20.out) hb);replace HB:=a0_ (below_step hb_ hb);(try clear hb);(try clear hb2);(try clear hk);(try clear hi)))
     go_meet
     case rel=>exact ⟨_,(!t14),(by first | rfl | (simp;done) | (simp [*];done)),H',⟨by first | omega | exact Nat.le_refl _⟩,⟨by (with_reducible repeat (first | apply Kd.R_alloc | apply Kd.R_drewN | apply Kd.R_drew));exact HO3.out⟩,⟨by (with_reducible repeat (first | apply Kd.R_alloc | apply Kd.R_drewN | apply Kd.R_drew));exact Kd.R_mono HO6.out (fun _ hk=>⟨hk.1.2,hk.2⟩)⟩,⟨by (with_reducible repeat (first | apply Kd.R_alloc | apply Kd.R_drewN | apply Kd.R_drew));exact Kd.R_mono HO13.out (fun _ hk=>⟨hk.1.2,hk.2⟩)⟩,⟨by (with_reducible repeat (first | apply Kd.R_alloc | apply Kd.R_drewN | apply Kd.R_drew));exact Kd.R_mono HO18.out (fun _ hk=>⟨hk.1.2,hk.2⟩)⟩,⟨by (with_reducible repeat (first | refine blk_drewN ?_ _ | refine blk_drew ?_ | refine blk_alloc ?_ _));exact BK9.out⟩,⟨by (with_reducible repeat (first | refine blk_drewN ?_ _ | refine blk_drew ?_ | refine blk_alloc ?_ _));exact BK10.out⟩,⟨by (with_reducible repeat (first | refine blk_drewN ?_ _ | refine blk_drew ?_ | refine blk_alloc ?_ _));exact BK15.out⟩,⟨by (with_reducible repeat (first | refine blk_drewN ?_ _ | refine blk_drew ?_ | refine blk_alloc ?_ _));exact BK20.out⟩,⟨hb_⟩⟩
   ·replace c31:=Bool.eq_false_iff.mpr c31
    subst c31
    have H1 : (laws_FnRaiseWhile.j0 k t7 t8 t14 t19 true t1 t4 t11 t16) = some r:=by rw [if_neg (show ¬ (false = true) by decide)] at H;exact H
    clear H
    have H:=H1
    clear H1
    have H':=a0_ H
    clear H
    have hnb49:=NB15_9.out
    have hnc49:=NB9_15.out
    have hnb50:=NB15_10.out
    have hnc50:=NB10_15.out
    have hnb51:=NB15_20.out
    have hnc51:=NB20_15.out
    have hcz52_0 : w24.cell? ⟨gb15,0,none⟩ = some (.slice Ao17 t11.length co17):=(blk_cell BK15.out 0).trans rfl
    have hfz52_0:=blk_frozen BK15.out 0
    have hnb53:=NB20_9.out
    have hnc53:=NB9_20.out
    have hnb54:=NB20_10.out
    have hnc54:=NB10_20.out
    have hcz55_0 : w24.cell? ⟨gb20,0,none⟩ = some (.slice none 0 0):=(blk_cell BK20.out 0).trans rfl
    have hfz55_0:=blk_frozen BK20.out 0
    go_wp2_with (first | ((with_reducible refine gate_callee (f:=19) rfl ?_);refine goesL_ (some 41) rfl rfl Try.func19 (by kernel_rfl) rfl #[.agg #[.slice Ao17 t11.length co17],.agg #[.slice Ao25 t16.length co25]] rfl lm_ ?_;(with_reducible refine (laws_equalHeap.calls k _ _ t11 _ _ t16 false _ ?side1 ?side2 ?side3 ?side4 A30.out).mono ?_);(case side1=>refine (Kd.R_reads' (e:=43) (base:=w.heap.size) (ok:=fun k_=>((True ∧ some k_ ≠ (.slice Ao13 t4.length co13 : Value).ownBlock) ∧ some k_ ≠ (.slice Ao25 t16.length co25 : Value).ownBlock)) (n:=t11.length) (c:=co17) ?_).2.2;exact (by (with_reducible repeat (first | apply Kd.R_alloc | apply Kd.R_drewN | apply Kd.R_drew));exact (Kd.R_mono (Kd.R_far (p:=⟨gb20,0,none⟩) (Kd.R_types HO13.out BK20.out (by decide)) (fun _ hk=>hk.2) (.slice Ao25 t16.length co25)) (fun _ h_=>h_.1))));(case side2=>exact (Kd.R_reads' HO13.out).2.1);(case side3=>refine (Kd.R_reads' (e:=43) (base:=w.heap.size) (ok:=fun k_=>((True ∧ some k_ ≠ (.slice Ao13 t4.length co13 : Value).ownBlock) ∧ some k_ ≠ (.slice Ao17 t11.length co17 : Value).ownBlock)) (n:=t16.length) (c:=co25) ?_).2.2;exact (by (with_reducible repeat (first | apply Kd.R_alloc | apply Kd.R_drewN | apply Kd.R_drew));exact (Kd.R_mono (Kd.R_far (p:=⟨gb20,0,none⟩) (Kd.R_types HO18.out BK20.out (by decide)) (fun _ hk=>hk.2) (.slice Ao25 t16.length co25)) (fun _ h_=>h_.1))));(case side4=>exact (Kd.R_reads' HO18.out).2.1);rintro e w56 ⟨rfl,hb⟩;refine ⟨_,rfl,?_⟩;replace HO3:=a0_ (Kd.R_below (by (with_reducible repeat (first | apply Kd.R_alloc | apply Kd.R_drewN | apply Kd.R_drew));exact (Kd.R_mono (Kd.R_far (p:=⟨gb20,0,none⟩) (Kd.R_types HO3.out BK20.out (by decide)) (fun _ hk=>hk.2) (.slice Ao25 t16.length co25)) (fun _ h_=>h_.1))) hb);replace HO6:=a0_ (Kd.R_below (by (with_reducible repeat (first | apply Kd.R_alloc | apply Kd.R_drewN | apply Kd.R_drew));exact (Kd.R_mono (Kd.R_far (p:=⟨gb20,0,none⟩) (Kd.R_types HO6.out BK20.out (by decide)) (fun _ hk=>hk.2) (.slice Ao25 t16.length co25)) (fun _ h_=>h_.1))) hb);replace HO13:=a0_ (Kd.R_below (by (with_reducible repeat (first | apply Kd.R_alloc | apply Kd.R_drewN | apply Kd.R_drew));exact (Kd.R_mono (Kd.R_far (p:=⟨gb20,0,none⟩) (Kd.R_types HO13.out BK20.out (by decide)) (fun _ hk=>hk.2) (.slice Ao25 t16.length co25)) (fun _ h_=>h_.1))) hb);replace HO18:=a0_ (Kd.R_below (by (with_reducible repeat (first | apply Kd.R_alloc | apply Kd.R_drewN | apply Kd.R_drew));exact (Kd.R_mono (Kd.R_far (p:=⟨gb20,0,none⟩) (Kd.R_types HO18.out BK20.out (by decide)) (fun _ hk=>hk.2) (.slice Ao25 t16.length co25)) (fun _ h_=>h_.1))) hb);replace BK9:=kf_ BK9 NB9_20 hb;replace BK10:=kf_ BK10 NB10_20 hb;replace BK15:=kf_ BK15 NB15_20 hb;replace BK20:=a0_ (blk_below (g:=gb20) (o:=.cells #[.slice Ao25 t16.length co25] 28 (0,0)) (by (with_reducible repeat (first | refine blk_drewN ?_ _ | refine blk_drew ?_ | refine blk_alloc ?_ _));refine blk_put (cs:=#[.slice none 0 0]) ?_ 0 _ rfl;(with_reducible repeat (first | refine blk_drewN ?_ _ | refine blk_drew ?_ | refine blk_alloc ?_ _));exact BK20.out) hb);replace HB:=a0_ (below_step hb_ hb);(try clear hb);(try clear hb2);(try clear hk);(try clear hi)))
    go_meet
    case rel=>exact ⟨_,(true),(by first | rfl | (simp;done) | (simp [*];done)),H',⟨by first | omega | exact Nat.le_refl _⟩,⟨by (with_reducible repeat (first | apply Kd.R_alloc | apply Kd.R_drewN | apply Kd.R_drew));exact HO3.out⟩,⟨by (with_reducible repeat (first | apply Kd.R_alloc | apply Kd.R_drewN | apply Kd.R_drew));exact Kd.R_mono HO6.out (fun _ hk=>⟨hk.1.2,hk.2⟩)⟩,⟨by (with_reducible repeat (first | apply Kd.R_alloc | apply Kd.R_drewN | apply Kd.R_drew));exact Kd.R_mono HO13.out (fun _ hk=>⟨hk.1.2,hk.2⟩)⟩,⟨by (with_reducible repeat (first | apply Kd.R_alloc | apply Kd.R_drewN | apply Kd.R_drew));exact Kd.R_mono HO18.out (fun _ hk=>⟨hk.1.2,hk.2⟩)⟩,⟨by (with_reducible repeat (first | refine blk_drewN ?_ _ | refine blk_drew ?_ | refine blk_alloc ?_ _));exact BK9.out⟩,⟨by (with_reducible repeat (first | refine blk_drewN ?_ _ | refine blk_drew ?_ | refine blk_alloc ?_ _));exact BK10.out⟩,⟨by (with_reducible repeat (first | refine blk_drewN ?_ _ | refine blk_drew ?_ | refine blk_alloc ?_ _));exact BK15.out⟩,⟨by (with_reducible repeat (first | refine blk_drewN ?_ _ | refine blk_drew ?_ | refine blk_alloc ?_ _));exact BK20.out⟩,⟨hb_⟩⟩
  case rest =>
   clear HC6
   try clear c1
   try clear c2
   try clear c2b0
   try clear c2b1
   try clear p2
   try clear c3
   try clear c4
   try clear c5
   try clear c7
   try clear c11
   try clear c18
   try clear c19
   try clear c26
   try clear c27
   try clear c28
   try clear c29
   try clear c31
   try clear c32
   try clear c32b0
   try clear c32b1
   try clear c32b2
   try clear c33
   try clear c34
   try clear c35
   try clear c37
   try clear c38
   try clear c41
   try clear c42
   try clear c43
   try clear c45
   try clear c46
   try clear c49
   try clear c50
   try clear c51
   try clear c53
   try clear c54
   try clear hcz12_0
   try clear hcz14_0
   try clear hcz20_0
   try clear hcz21_0
   try clear hcz22_0
   try clear hcz29_0
   try clear hcz36_0
   try clear hcz39_0
   try clear hcz44_0
   try clear hcz47_0
   try clear hcz52_0
   try clear hcz55_0
   try clear hfz12_0
   try clear hfz14_0
   try clear hfz20_0
   try clear hfz21_0
   try clear hfz22_0
   try clear hfz29_0
   try clear hfz36_0
   try clear hfz39_0
   try clear hfz44_0
   try clear hfz47_0
   try clear hfz52_0
   try clear hfz55_0
   obtain ⟨kq,x51_5,rfl,HA,HJ5,Z10,Z11,Z16,Z21,BK9,BK10,BK15,BK20,HB⟩:=hcut
   cases kq with
   | zero=>exact absurd HA.out (by simp [laws_FnRaiseWhile.j0])
   | succ kj5 =>
    have H:=HA.out
    clear HA
    simp only [laws_FnRaiseWhile.j0] at H
    by_cases c57 : x51_5 = true
    ·subst c57
     have H1 : ((laws_equalHeap.f kj5 t11 t16).bind fun t22=>(if t22 = true then (some (t14 == t19)) else (some false))) = some r:=by rw [if_pos rfl] at H;exact H
     clear H
     have H:=H1
     clear H1
     replace H:=Option.bind_eq_some_iff.mp H
     obtain ⟨t22,A580,H⟩:=H
     try dsimp only at H
     have A58:=a0_ A580
     clear A580
     by_cases c59 : t22 = true
     ·subst c59
      have H1 : (some (t14 == t19)) = some r:=by rw [if_pos rfl] at H;exact H
      clear H
      have H:=H1
      clear H1
      obtain rfl:=Option.some.inj H
      have hnb60:=NB15_9.out
      have hnc60:=NB9_15.out
      have hnb61:=NB15_10.out
      have hnc61:=NB10_15.out
      have hnb62:=NB15_20.out
      have hnc62:=NB20_15.out
      have hcz63_0 : wc.cell? ⟨gb15,0,none⟩ = some (.slice Ao17 t11.length co17):=(blk_cell BK15.out 0).trans rfl
      have hfz63_0:=blk_frozen BK15.out 0
      have hnb64:=NB20_9.out
      have hnc64:=NB9_20.out
      have hnb65:=NB20_10.out
      have hnc65:=NB10_20.out
      have hcz66_0 : wc.cell? ⟨gb20,0,none⟩ = some (.slice Ao25 t16.length co25):=(blk_cell BK20.out 0).trans rfl
      have hfz66_0:=blk_frozen BK20.out 0
      go_wp2_with (first | ((with_reducible refine gate_callee (f:=19) rfl ?_);refine goesL_ (some 54) rfl rfl Try.func19 (by kernel_rfl) rfl #[.agg #[.slice Ao17 t11.length co17],.agg #[.slice Ao25 t16.length co25]] rfl lm_ ?_;(with_reducible refine (laws_equalHeap.calls kj5 _ _ t11 _ _ t16 true _ ?side1 ?side2 ?side3 ?side4 A58.out).mono ?_);(case side1=>exact cc_ (Kd.R_reads' Z16.out).2.2);(case side2=>exact (Kd.R_reads' Z16.out).2.1);(case side3=>exact cc_ (Kd.R_reads' Z21.out).2.2);(case side4=>exact (Kd.R_reads' Z21.out).2.1);rintro e w67 ⟨rfl,hb⟩;refine ⟨_,rfl,?_⟩;replace Z10:=rb_ Z10 hb;replace Z11:=rb_ Z11 hb;replace Z16:=rb_ Z16 hb;replace Z21:=rb_ Z21 hb;replace BK9:=kb_ BK9 hb;replace BK10:=kb_ BK10 hb;replace BK15:=kb_ BK15 hb;replace BK20:=kb_ BK20 hb;replace HB:=a0_ (below_step hb_ hb);(try clear hb);(try clear hb2);(try clear hk);(try clear hi)))
      go_ret
      exact ⟨by first | rfl | (simp [errW_none,errW_some] <;> rfl) | (simp [*,errW_none,errW_some] <;> rfl),hb_⟩
     ·replace c59:=Bool.eq_false_iff.mpr c59
      subst c59
      have H1 : (some false) = some r:=by rw [if_neg (show ¬ (false = true) by decide)] at H;exact H
      clear H
      have H:=H1
      clear H1
      obtain rfl:=Option.some.inj H
      have hnb68:=NB15_9.out
      have hnc68:=NB9_15.out
      have hnb69:=NB15_10.out
      have hnc69:=NB10_15.out
      have hnb70:=NB15_20.out
      have hnc70:=NB20_15.out
      have hcz71_0 : wc.cell? ⟨gb15,0,none⟩ = some (.slice Ao17 t11.length co17):=(blk_cell BK15.out 0).trans rfl
      have hfz71_0:=blk_frozen BK15.out 0
      have hnb72:=NB20_9.out
      have hnc72:=NB9_20.out
      have hnb73:=NB20_10.out
      have hnc73:=NB10_20.out
      have hcz74_0 : wc.cell? ⟨gb20,0,none⟩ = some (.slice Ao25 t16.length co25):=(blk_cell BK20.out 0).trans rfl
      have hfz74_0:=blk_frozen BK20.out 0
      go_wp2_with (first | ((with_reducible refine gate_callee (f:=19) rfl ?_);refine goesL_ (some 54) rfl rfl Try.func19 (by kernel_rfl) rfl #[.agg #[.slice Ao17 t11.length co17],.agg #[.slice Ao25 t16.length co25]] rfl lm_ ?_;(with_reducible refine (laws_equalHeap.calls kj5 _ _ t11 _ _ t16 false _ ?side1 ?side2 ?side3 ?side4 A58.out).mono ?_);(case side1=>exact cc_ (Kd.R_reads' Z16.out).2.2);(case side2=>exact (Kd.R_reads' Z16.out).2.1);(case side3=>exact cc_ (Kd.R_reads' Z21.out).2.2);(case side4=>exact (Kd.R_reads' Z21.out).2.1);rintro e w75 ⟨rfl,hb⟩;refine ⟨_,rfl,?_⟩;replace Z10:=rb_ Z10 hb;replace Z11:=rb_ Z11 hb;replace Z16:=rb_ Z16 hb;replace Z21:=rb_ Z21 hb;replace BK9:=kb_ BK9 hb;replace BK10:=kb_ BK10 hb;replace BK15:=kb_ BK15 hb;replace BK20:=kb_ BK20 hb;replace HB:=a0_ (below_step hb_ hb);(try clear hb);(try clear hb2);(try clear hk);(try clear hi)))
      go_ret
      exact ⟨by first | rfl | (simp [errW_none,errW_some] <;> rfl) | (simp [*,errW_none,errW_some] <;> rfl),hb_⟩
    ·replace c57:=Bool.eq_false_iff.mpr c57
     subst c57
     have H1 : ((impl_RaiseWhile.f t1 t11 t7 t8).bind fun bt23=>((impl_ValidHeap.f t1 t11).bind fun t28=>(if t28 = true then (if bt23.2 = true then ((laws_equalHeap.f kj5 bt23.1 t11).bind fun t29=>(if t29 = true then (if t7 = t8 then ((laws_equalHeap.f kj5 t11 t4).bind fun t30=>(if t30 = true then (some true) else (some false))) else (if 0 ≤ t7 then (if t7 < (t11.length : Int) then (some (((rd_T43 t11 t7).f3) == t8)) else (none)) else (none))) else (some false))) else (some false)) else (some false)))) = some r:=by rw [if_neg (show ¬ (false = true) by decide)] at H;exact H
     clear H
     have H:=H1
     clear H1
     replace H:=Option.bind_eq_some_iff.mp H
     obtain ⟨⟨t23,t26⟩,A760,H⟩:=H
     try dsimp only at H
     have A76:=a0_ A760
     clear A760
     replace H:=Option.bind_eq_some_iff.mp H
     obtain ⟨t28,A770,H⟩:=H
     try dsimp only at H
     have A77:=a0_ A770
     clear A770
     by_cases c78 : t28 = true
     ·subst c78
      have H1 : (if t26 = true then ((laws_equalHeap.f kj5 t23 t11).bind fun t29=>(if t29 = true then (if t7 = t8 then ((laws_equalHeap.f kj5 t11 t4).bind fun t30=>(if t30 = true then (some true) else (some false))) else (if 0 ≤ t7 then (if t7 < (t11.length : Int) then (some (((rd_T43 t11 t7).f3) == t8)) else (none)) else (none))) else (some false))) else (some false)) = some r:=by rw [if_pos rfl] at H;exact H
      clear H
      have H:=H1
      clear H1
      by_cases c79 : t26 = true
      ·subst c79
       have H1 : ((laws_equalHeap.f kj5 t23 t11).bind fun t29=>(if t29 = true then (if t7 = t8 then ((laws_equalHeap.f kj5 t11 t4).bind fun t30=>(if t30 = true then (some true) else (some false))) else (if 0 ≤ t7 then (if t7 < (t11.length : Int) then (some (((rd_T43 t11 t7).f3) == t8)) else (none)) else (none))) else (some false))) = some r:=by rw [if_pos rfl] at H;exact H
       clear H
       have H:=H1
       clear H1
       replace H:=Option.bind_eq_some_iff.mp H
       obtain ⟨t29,A800,H⟩:=H
       try dsimp only at H
       have A80:=a0_ A800
       clear A800
       by_cases c81 : t29 = true
       ·subst c81
        have H1 : (if t7 = t8 then ((laws_equalHeap.f kj5 t11 t4).bind fun t30=>(if t30 = true then (some true) else (some false))) else (if 0 ≤ t7 then (if t7 < (t11.length : Int) then (some (((rd_T43 t11 t7).f3) == t8)) else (none)) else (none))) = some r:=by rw [if_pos rfl] at H;exact H
        clear H
        have H:=H1
        clear H1
        by_cases c82 : t7 = t8
        ·rw [if_pos c82] at H
         have c82b0 : (t7 == t8) = true:=beq_iff_eq.mpr c82
         have c82b1 : (t7 != t8) = false:=bne_eq_false_iff_eq.mpr c82
         clear c82
         replace H:=Option.bind_eq_some_iff.mp H
         obtain ⟨t30,A830,H⟩:=H
         replace H : (if t30 = true then (some true) else (some false)) = some r:=H
         have A83:=a0_ A830
         clear A830
         by_cases c84 : t30 = true
         ·subst c84
          have H1 : (some true) = some r:=by rw [if_pos rfl] at H;exact H
          clear H
          have H:=H1
          clear H1
          obtain rfl:=Option.some.inj H
          have hnb85:=NB9_10.out
          have hnc85:=NB10_9.out
          have hnb86:=NB9_15.out
          have hnc86:=NB15_9.out
          have hnb87:=NB9_20.out
          have hnc87:=NB20_9.out
          have hcz88_0 : wc.cell? ⟨gb9,0,none⟩ = some (.slice Ao10 t1.length co10):=(blk_cell BK9.out 0).trans rfl
          have hfz88_0:=blk_frozen BK9.out 0
          have hnb89:=NB15_10.out
          have hnc89:=NB10_15.out
          have hnb90:=NB15_20.out
          have hnc90:=NB20_15.out
          have hcz91_0 : wc.cell? ⟨gb15,0,none⟩ = some (.slice Ao17 t11.length co17):=(blk_cell BK15.out 0).trans rfl
          have hfz91_0:=blk_frozen BK15.out 0
          go_wp2_with (first | ((with_reducible refine gate_callee (f:=28) rfl ?_);refine goesL_ (some 65) rfl rfl Try.func28 (by kernel_rfl) rfl #[.agg #[.slice Ao10 t1.length co10],.agg #[.slice Ao17 t11.length co17],.int .i64 t7,.int .i64 t8] rfl lm_ ?_;(with_reducible refine (impl_RaiseWhile.calls _ _ t1 _ _ t11 t7 t8 t23 true _ ?side1 ?side2 ?side3 ?side4 A76.out).mono ?_);(case side1=>exact cc_ (Kd.R_reads' Z10.out).2.2);(case side2=>exact (Kd.R_reads' Z10.out).2.1);(case side3=>exact cc_ (Kd.R_reads' Z16.out).2.2);(case side4=>exact (Kd.R_reads' Z16.out).2.1);rintro e w92 ⟨v24,rfl,ho0,hb⟩;refine ⟨_,rfl,?_⟩;have n0_:=rb_ Z10 hb;have n1_:=a0_ (Kd.R_elder' (rr_ Z11.out) (Kd.R_base ho0) hb);have n2_:=a0_ (Kd.R_elder' (rr_ Z16.out) (Kd.R_base ho0) hb);have n3_:=a0_ (Kd.R_elder' (rr_ Z21.out) (Kd.R_base ho0) hb);have n4_:=a0_ (Kd.R_lower (Kd.R_new' (Kd.R_new' (Kd.R_new' ho0 (Kd.R_lt (rr_ Z11.out))) (Kd.R_lt (rr_ Z16.out))) (Kd.R_lt (rr_ Z21.out))) (below_size hb_));have n5_:=kb_ BK9 hb;have n6_:=kb_ BK10 hb;have n7_:=kb_ BK15 hb;have n8_:=kb_ BK20 hb;have n9_:=a0_ (below_step hb_ hb);clear Z10 Z11;clear Z16 Z21;clear BK9 BK10;clear BK15 BK20 HB;have Z10:=n0_;have Z11:=n1_;have Z16:=n2_;have Z21:=n3_;have HO25:=n4_;have BK9:=n5_;have BK10:=n6_;have BK15:=n7_;have BK20:=n8_;have HB:=n9_;clear n0_ n1_ n2_ n3_ n4_ n5_ n6_ n7_ n8_ n9_;(try clear hb);(try clear ho0)) | ((with_reducible refine gate_dst (N:=11) rfl ?_);refine box_event ?hg (N:=11) ?hd (cs:=#[.slice none 0 0]) (t:=28) ?hr ?_;(case hd=>rfl);(case hg=>rfl);(case hr=>first | (go_simp;done) | (go_simp;rfl));intro gb27 hg w93 hbox hb;have n0_:=rb_ Z10 hb;have n1_:=rb_ Z11 hb;have n2_:=rb_ Z16 hb;have n3_:=rb_ Z21 hb;have n4_:=rb_ HO25 hb;have n5_:=kb_ BK9 hb;have n6_:=kb_ BK10 hb;have n7_:=kb_ BK15 hb;have n8_:=kb_ BK20 hb;have n9_:=a0_ (below_step hb_ hb);have n10_:=a0_ (hbox);have n11_:=a0_ ((by rw [hg];exact (below_size hb_) : w.heap.size ≤ gb27));have n12_:=a0_ ((by rw [hg];exact (below_size hb_) : w.heap.size ≤ gb27));have n13_:=a0_ ((by rw [hg];exact Nat.ne_of_lt (blk_lt (bb_ BK9.out)) : gb9 ≠ gb27));have n14_:=a0_ ((by rw [hg];exact Nat.ne_of_gt (blk_lt (bb_ BK9.out)) : gb27 ≠ gb9));have n15_:=a0_ ((by rw [hg];exact Nat.ne_of_lt (blk_lt (bb_ BK10.out)) : gb10 ≠ gb27));have n16_:=a0_ ((by rw [hg];exact Nat.ne_of_gt (blk_lt (bb_ BK10.out)) : gb27 ≠ gb10));have n17_:=a0_ ((by rw [hg];exact Nat.ne_of_lt (blk_lt (bb_ BK15.out)) : gb15 ≠ gb27));have n18_:=a0_ ((by rw [hg];exact Nat.ne_of_gt (blk_lt (bb_ BK15.out)) : gb27 ≠ gb15));have n19_:=a0_ ((by rw [hg];exact Nat.ne_of_lt (blk_lt (bb_ BK20.out)) : gb20 ≠ gb27));have n20_:=a0_ ((by rw [hg];exact Nat.ne_of_gt (blk_lt (bb_ BK20.out)) : gb27 ≠ gb20));clear Z10 Z11;clear Z16 Z21;clear HO25 BK9;clear BK10 BK15;clear BK20 HB;have Z10:=n0_;have Z11:=n1_;have Z16:=n2_;have Z21:=n3_;have HO25:=n4_;have BK9:=n5_;have BK10:=n6_;have BK15:=n7_;have BK20:=n8_;have HB:=n9_;have BK27:=n10_;have GW27:=n11_;have GE27:=n12_;have NB9_27:=n13_;have NB27_9:=n14_;have NB10_27:=n15_;have NB27_10:=n16_;have NB15_27:=n17_;have NB27_15:=n18_;have NB20_27:=n19_;have NB27_20:=n20_;clear n0_ n1_ n2_ n3_ n4_ n5_ n6_ n7_ n8_ n9_ n10_ n11_ n12_ n13_ n14_ n15_ n16_ n17_ n18_ n19_ n20_;clear hb hbox hg;obtain ⟨Ao94,co94,eo94⟩:=Kd.R_slice HO25.out;subst eo94;have hnb95:=NB27_9.out;have hnc95:=NB9_27.out;have hnb96:=NB27_10.out;have hnc96:=NB10_27.out;have hnb97:=NB27_15.out;have hnc97:=NB15_27.out;have hnb98:=NB27_20.out;have hnc98:=NB20_27.out;have hcz99_0 : w93.cell? ⟨gb27,0,none⟩ = some (.slice none 0 0):=(blk_cell BK27.out 0).trans rfl;have hfz99_0:=blk_frozen BK27.out 0;have hcz100_0 : w93.cell? ⟨gb9,0,none⟩ = some (.slice Ao10 t1.length co10):=(blk_cell BK9.out 0).trans rfl;have hfz100_0:=blk_frozen BK9.out 0;have hcz101_0 : w93.cell? ⟨gb15,0,none⟩ = some (.slice Ao17 t11.length co17):=(blk_cell BK15.out 0).trans rfl;have hfz101_0:=blk_frozen BK15.out 0) | ((with_reducible refine gate_callee (f:=30) rfl ?_);refine goesL_ (some 70) rfl rfl Try.func30 (by kernel_rfl) rfl #[.agg #[.slice Ao10 t1.length co10],.agg #[.slice Ao17 t11.length co17]] rfl lm_ ?_;(with_reducible refine (impl_ValidHeap.calls _ _ t1 _ _ t11 true _ ?side1 ?side2 ?side3 ?side4 A77.out).mono ?_);(case side1=>refine (Kd.R_reads' (e:=87) (base:=w.heap.size) (ok:=fun k_=>True) (n:=t1.length) (c:=co10) ?_).2.2;exact (by (with_reducible repeat (first | apply Kd.R_alloc | apply Kd.R_drewN | apply Kd.R_drew));exact (Kd.R_mono (Kd.R_far (p:=⟨gb27,0,none⟩) (Kd.R_types Z10.out BK27.out (by decide)) (fun _ hk=>hk.2) (.slice Ao94 t23.length co94)) (fun _ h_=>h_.1))));(case side2=>exact (Kd.R_reads' Z10.out).2.1);(case side3=>refine (Kd.R_reads' (e:=43) (base:=w.heap.size) (ok:=fun k_=>((some k_ ≠ (.slice Ao13 t4.length co13 : Value).ownBlock ∧ some k_ ≠ (.slice Ao25 t16.length co25 : Value).ownBlock) ∧ some k_ ≠ (.slice Ao94 t23.length co94 : Value).ownBlock)) (n:=t11.length) (c:=co17) ?_).2.2;exact (by (with_reducible repeat (first | apply Kd.R_alloc | apply Kd.R_drewN | apply Kd.R_drew));exact (Kd.R_mono (Kd.R_far (p:=⟨gb27,0,none⟩) (Kd.R_types Z16.out BK27.out (by decide)) (fun _ hk=>hk.2) (.slice Ao94 t23.length co94)) (fun _ h_=>h_.1))));(case side4=>exact (Kd.R_reads' Z16.out).2.1);rintro e w102 ⟨rfl,hb⟩;refine ⟨_,rfl,?_⟩;replace Z10:=a0_ (Kd.R_below (by (with_reducible repeat (first | apply Kd.R_alloc | apply Kd.R_drewN | apply Kd.R_drew));exact (Kd.R_mono (Kd.R_far (p:=⟨gb27,0,none⟩) (Kd.R_types Z10.out BK27.out (by decide)) (fun _ hk=>hk.2) (.slice Ao94 t23.length co94)) (fun _ h_=>h_.1))) hb);replace Z11:=a0_ (Kd.R_below (by (with_reducible repeat (first | apply Kd.R_alloc | apply Kd.R_drewN | apply Kd.R_drew));exact (Kd.R_mono (Kd.R_far (p:=⟨gb27,0,none⟩) (Kd.R_types Z11.out BK27.out (by decide)) (fun _ hk=>hk.2) (.slice Ao94 t23.length co94)) (fun _ h_=>h_.1))) hb);replace Z16:=a0_ (Kd.R_below (by (with_reducible repeat (first | apply Kd.R_alloc | apply Kd.R_drewN | apply Kd.R_drew));exact (Kd.R_mono (Kd.R_far (p:=⟨gb27,0,none⟩) (Kd.R_types Z16.out BK27.out (by decide)) (fun _ hk=>hk.2) (.slice Ao94 t23.length co94)) (fun _ h_=>h_.1))) hb);replace Z21:=a0_ (Kd.R_below (by (with_reducible repeat (first | apply Kd.R_alloc | apply Kd.R_drewN | apply Kd.R_drew));exact (Kd.R_mono (Kd.R_far (p:=⟨gb27,0,none⟩) (Kd.R_types Z21.out BK27.out (by decide)) (fun _ hk=>hk.2) (.slice Ao94 t23.length co94)) (fun _ h_=>h_.1))) hb);replace HO25:=a0_ (Kd.R_below (by (with_reducible repeat (first | apply Kd.R_alloc | apply Kd.R_drewN | apply Kd.R_drew));exact (Kd.R_mono (Kd.R_far (p:=⟨gb27,0,none⟩) (Kd.R_types HO25.out BK27.out (by decide)) (fun _ hk=>hk.2) (.slice Ao94 t23.length co94)) (fun _ h_=>h_.1))) hb);replace BK9:=kf_ BK9 NB9_27 hb;replace BK10:=kf_ BK10 NB10_27 hb;replace BK15:=kf_ BK15 NB15_27 hb;replace BK20:=kf_ BK20 NB20_27 hb;replace BK27:=a0_ (blk_below (g:=gb27) (o:=.cells #[.slice Ao94 t23.length co94] 28 (0,0)) (by (with_reducible repeat (first | refine blk_drewN ?_ _ | refine blk_drew ?_ | refine blk_alloc ?_ _));refine blk_put (cs:=#[.slice none 0 0]) ?_ 0 _ rfl;(with_reducible repeat (first | refine blk_drewN ?_ _ | refine blk_drew ?_ | refine blk_alloc ?_ _));exact BK27.out) hb);replace HB:=a0_ (below_step hb_ hb);(try clear hb);have hcz103_0 : w102.cell? ⟨gb27,0,none⟩ = some (.slice Ao94 t23.length co94):=(blk_cell BK27.out 0).trans rfl;have hfz103_0:=blk_frozen BK27.out 0;have hcz104_0 : w102.cell? ⟨gb15,0,none⟩ = some (.slice Ao17 t11.length co17):=(blk_cell BK15.out 0).trans rfl;have hfz104_0:=blk_frozen BK15.out 0) | (go_at_call 19;(with_reducible refine (laws_equalHeap.calls kj5 _ _ t23 _ _ t11 true _ ?side1 ?side2 ?side3 ?side4 A80.out).mono ?_);(case side1=>exact cc_ (Kd.R_reads' HO25.out).2.2);(case side2=>exact (Kd.R_reads' HO25.out).2.1);(case side3=>exact cc_ (Kd.R_reads' Z16.out).2.2);(case side4=>exact (Kd.R_reads' Z16.out).2.1);rintro e w105 ⟨rfl,hb⟩;replace Z10:=rb_ Z10 hb;replace Z11:=rb_ Z11 hb;replace Z16:=rb_ Z16 hb;replace Z21:=rb_ Z21 hb;replace HO25:=rb_ HO25 hb;replace BK9:=kb_ BK9 hb;replace BK10:=kb_ BK10 hb;replace BK15:=kb_ BK15 hb;replace BK20:=kb_ BK20 hb;replace BK27:=kb_ BK27 hb;replace HB:=a0_ (below_step hb_ hb);(try clear hb);have hcz106_0 : w105.cell? ⟨gb15,0,none⟩ = some (.slice Ao17 t11.length co17):=(blk_cell BK15.out 0).trans rfl;have hfz106_0:=blk_frozen BK15.out 0;have hnb107:=NB10_20.out;have hnc107:=NB20_10.out;have hcz108_0 : w105.cell? ⟨gb10,0,none⟩ = some (.slice Ao13 t4.length co13):=(blk_cell BK10.out 0).trans rfl;have hfz108_0:=blk_frozen BK10.out 0) | (go_at_call 19;(with_reducible refine (laws_equalHeap.calls kj5 _ _ t11 _ _ t4 true _ ?side1 ?side2 ?side3 ?side4 A83.out).mono ?_);(case side1=>exact cc_ (Kd.R_reads' Z16.out).2.2);(case side2=>exact (Kd.R_reads' Z16.out).2.1);(case side3=>exact cc_ (Kd.R_reads' Z11.out).2.2);(case side4=>exact (Kd.R_reads' Z11.out).2.1);rintro e w109 ⟨rfl,hb⟩;replace Z10:=rb_ Z10 hb;replace Z11:=rb_ Z11 hb;replace Z16:=rb_ Z16 hb;replace Z21:=rb_ Z21 hb;replace HO25:=rb_ HO25 hb;replace BK9:=kb_ BK9 hb;replace BK10:=kb_ BK10 hb;replace BK15:=kb_ BK15 hb;replace BK20:=kb_ BK20 hb;replace BK27:=kb_ BK27 hb;replace HB:=a0_ (below_step hb_ hb);(try clear hb);(try clear hb2);(try clear hk);(try clear hi)))
          go_ret
          exact ⟨by first | rfl | (simp [errW_none,errW_some] <;> rfl) | (simp [*,errW_none,errW_some] <;> rfl),hb_⟩
         ·replace c84:=Bool.eq_false_iff.mpr c84
          subst c84
          have H1 : (some false) = some r:=by rw [if_neg (show ¬ (false = true) by decide)] at H;exact H
          clear H
          have H:=H1
          clear H1
          obtain rfl:=Option.some.inj H
          have hnb110:=NB9_10.out
          have hnc110:=NB10_9.out
          have hnb111:=NB9_15.out
          have hnc111:=NB15_9.out
          have hnb112:=NB9_20.out
          have hnc112:=NB20_9.out
          have hcz113_0 : wc.cell? ⟨gb9,0,none⟩ = some (.slice Ao10 t1.length co10):=(blk_cell BK9.out 0).trans rfl
          have hfz113_0:=blk_frozen BK9.out 0
          have hnb114:=NB15_10.out
          have hnc114:=NB10_15.out
          have hnb115:=NB15_20.out
          have hnc115:=NB20_15.out
          have hcz116_0 : wc.cell? ⟨gb15,0,none⟩ = some (.slice Ao17 t11.length co17):=(blk_cell BK15.out 0).trans rfl
          have hfz116_0:=blk_frozen BK15.out 0
          go_wp2_with (first | ((with_reducible refine gate_callee (f:=28) rfl ?_);refine goesL_ (some 65) rfl rfl Try.func28 (by kernel_rfl) rfl #[.agg #[.slice Ao10 t1.length co10],.agg #[.slice Ao17 t11.length co17],.int .i64 t7,.int .i64 t8] rfl lm_ ?_;(with_reducible refine (impl_RaiseWhile.calls _ _ t1 _ _ t11 t7 t8 t23 true _ ?side1 ?side2 ?side3 ?side4 A76.out).mono ?_);(case side1=>exact cc_ (Kd.R_reads' Z10.out).2.2);(case side2=>exact (Kd.R_reads' Z10.out).2.1);(case side3=>exact cc_ (Kd.R_reads' Z16.out).2.2);(case side4=>exact (Kd.R_reads' Z16.out).2.1);rintro e w117 ⟨v24,rfl,ho0,hb⟩;refine ⟨_,rfl,?_⟩;have n0_:=rb_ Z10 hb;have n1_:=a0_ (Kd.R_elder' (rr_ Z11.out) (Kd.R_base ho0) hb);have n2_:=a0_ (Kd.R_elder' (rr_ Z16.out) (Kd.R_base ho0) hb);have n3_:=a0_ (Kd.R_elder' (rr_ Z21.out) (Kd.R_base ho0) hb);have n4_:=a0_ (Kd.R_lower (Kd.R_new' (Kd.R_new' (Kd.R_new' ho0 (Kd.R_lt (rr_ Z11.out))) (Kd.R_lt (rr_ Z16.out))) (Kd.R_lt (rr_ Z21.out))) (below_size hb_));have n5_:=kb_ BK9 hb;have n6_:=kb_ BK10 hb;have n7_:=kb_ BK15 hb;have n8_:=kb_ BK20 hb;have n9_:=a0_ (below_step hb_ hb);clear Z10 Z11;clear Z16 Z21;clear BK9 BK10;clear BK15 BK20 HB;have Z10:=n0_;have Z11:=n1_;have Z16:=n2_;have Z21:=n3_;have HO25:=n4_;have BK9:=n5_;have BK10:=n6_;have BK15:=n7_;have BK20:=n8_;have HB:=n9_;clear n0_ n1_ n2_ n3_ n4_ n5_ n6_ n7_ n8_ n9_;(try clear hb);(try clear ho0)) | ((with_reducible refine gate_dst (N:=11) rfl ?_);refine box_event ?hg (N:=11) ?hd (cs:=#[.slice none 0 0]) (t:=28) ?hr ?_;(case hd=>rfl);(case hg=>rfl);(case hr=>first | (go_simp;done) | (go_simp;rfl));intro gb27 hg w118 hbox hb;have n0_:=rb_ Z10 hb;have n1_:=rb_ Z11 hb;have n2_:=rb_ Z16 hb;have n3_:=rb_ Z21 hb;have n4_:=rb_ HO25 hb;have n5_:=kb_ BK9 hb;have n6_:=kb_ BK10 hb;have n7_:=kb_ BK15 hb;have n8_:=kb_ BK20 hb;have n9_:=a0_ (below_step hb_ hb);have n10_:=a0_ (hbox);have n11_:=a0_ ((by rw [hg];exact (below_size hb_) : w.heap.size ≤ gb27));have n12_:=a0_ ((by rw [hg];exact (below_size hb_) : w.heap.size ≤ gb27));have n13_:=a0_ ((by rw [hg];exact Nat.ne_of_lt (blk_lt (bb_ BK9.out)) : gb9 ≠ gb27));have n14_:=a0_ ((by rw [hg];exact Nat.ne_of_gt (blk_lt (bb_ BK9.out)) : gb27 ≠ gb9));have n15_:=a0_ ((by rw [hg];exact Nat.ne_of_lt (blk_lt (bb_ BK10.out)) : gb10 ≠ gb27));have n16_:=a0_ ((by rw [hg];exact Nat.ne_of_gt (blk_lt (bb_ BK10.out)) : gb27 ≠ gb10));have n17_:=a0_ ((by rw [hg];exact Nat.ne_of_lt (blk_lt (bb_ BK15.out)) : gb15 ≠ gb27));have n18_:=a0_ ((by rw [hg];exact Nat.ne_of_gt (blk_lt (bb_ BK15.out)) : gb27 ≠ gb15));have n19_:=a0_ ((by rw [hg];exact Nat.ne_of_lt (blk_lt (bb_ BK20.out)) : gb20 ≠ gb27));have n20_:=a0_ ((by rw [hg];exact Nat.ne_of_gt (blk_lt (bb_ BK20.out)) : gb27 ≠ gb20));clear Z10 Z11;clear Z16 Z21;clear HO25 BK9;clear BK10 BK15;clear BK20 HB;have Z10:=n0_;have Z11:=n1_;have Z16:=n2_;have Z21:=n3_;have HO25:=n4_;have BK9:=n5_;have BK10:=n6_;have BK15:=n7_;have BK20:=n8_;have HB:=n9_;have BK27:=n10_;have GW27:=n11_;have GE27:=n12_;have NB9_27:=n13_;have NB27_9:=n14_;have NB10_27:=n15_;have NB27_10:=n16_;have NB15_27:=n17_;have NB27_15:=n18_;have NB20_27:=n19_;have NB27_20:=n20_;clear n0_ n1_ n2_ n3_ n4_ n5_ n6_ n7_ n8_ n9_ n10_ n11_ n12_ n13_ n14_ n15_ n16_ n17_ n18_ n19_ n20_;clear hb hbox hg;obtain ⟨Ao119,co119,eo119⟩:=Kd.R_slice HO25.out;subst eo119;have hnb120:=NB27_9.out;have hnc120:=NB9_27.out;have hnb121:=NB27_10.out;have hnc121:=NB10_27.out;have hnb122:=NB27_15.out;have hnc122:=NB15_27.out;have hnb123:=NB27_20.out;have hnc123:=NB20_27.out;have hcz124_0 : w118.cell? ⟨gb27,0,none⟩ = some (.slice none 0 0):=(blk_cell BK27.out 0).trans rfl;have hfz124_0:=blk_frozen BK27.out 0;have hcz125_0 : w118.cell? ⟨gb9,0,none⟩ = some (.slice Ao10 t1.length co10):=(blk_cell BK9.out 0).trans rfl;have hfz125_0:=blk_frozen BK9.out 0;have hcz126_0 : w118.cell? ⟨gb15,0,none⟩ = some (.slice Ao17 t11.length co17):=(blk_cell BK15.out 0).trans rfl;have hfz126_0:=blk_frozen BK15.out 0) | ((with_reducible refine gate_callee (f:=30) rfl ?_);refine goesL_ (some 70) rfl rfl Try.func30 (by kernel_rfl) rfl #[.agg #[.slice Ao10 t1.length co10],.agg #[.slice Ao17 t11.length co17]] rfl lm_ ?_;(with_reducible refine (impl_ValidHeap.calls _ _ t1 _ _ t11 true _ ?side1 ?side2 ?side3 ?side4 A77.out).mono ?_);(case side1=>refine (Kd.R_reads' (e:=87) (base:=w.heap.size) (ok:=fun k_=>True) (n:=t1.length) (c:=co10) ?_).2.2;exact (by (with_reducible repeat (first | apply Kd.R_alloc | apply Kd.R_drewN | apply Kd.R_drew));exact (Kd.R_mono (Kd.R_far (p:=⟨gb27,0,none⟩) (Kd.R_types Z10.out BK27.out (by decide)) (fun _ hk=>hk.2) (.slice Ao119 t23.length co119)) (fun _ h_=>h_.1))));(case side2=>exact (Kd.R_reads' Z10.out).2.1);(case side3=>refine (Kd.R_reads' (e:=43) (base:=w.heap.size) (ok:=fun k_=>((some k_ ≠ (.slice Ao13 t4.length co13 : Value).ownBlock ∧ some k_ ≠ (.slice Ao25 t16.length co25 : Value).ownBlock) ∧ some k_ ≠ (.slice Ao119 t23.length co119 : Value).ownBlock)) (n:=t11.length) (c:=co17) ?_).2.2;exact (by (with_reducible repeat (first | apply Kd.R_alloc | apply Kd.R_drewN | apply Kd.R_drew));exact (Kd.R_mono (Kd.R_far (p:=⟨gb27,0,none⟩) (Kd.R_types Z16.out BK27.out (by decide)) (fun _ hk=>hk.2) (.slice Ao119 t23.length co119)) (fun _ h_=>h_.1))));(case side4=>exact (Kd.R_reads' Z16.out).2.1);rintro e w127 ⟨rfl,hb⟩;refine ⟨_,rfl,?_⟩;replace Z10:=a0_ (Kd.R_below (by (with_reducible repeat (first | apply Kd.R_alloc | apply Kd.R_drewN | apply Kd.R_drew));exact (Kd.R_mono (Kd.R_far (p:=⟨gb27,0,none⟩) (Kd.R_types Z10.out BK27.out (by decide)) (fun _ hk=>hk.2) (.slice Ao119 t23.length co119)) (fun _ h_=>h_.1))) hb);replace Z11:=a0_ (Kd.R_below (by (with_reducible repeat (first | apply Kd.R_alloc | apply Kd.R_drewN | apply Kd.R_drew));exact (Kd.R_mono (Kd.R_far (p:=⟨gb27,0,none⟩) (Kd.R_types Z11.out BK27.out (by decide)) (fun _ hk=>hk.2) (.slice Ao119 t23.length co119)) (fun _ h_=>h_.1))) hb);replace Z16:=a0_ (Kd.R_below (by (with_reducible repeat (first | apply Kd.R_alloc | apply Kd.R_drewN | apply Kd.R_drew));exact (Kd.R_mono (Kd.R_far (p:=⟨gb27,0,none⟩) (Kd.R_types Z16.out BK27.out (by decide)) (fun _ hk=>hk.2) (.slice Ao119 t23.length co119)) (fun _ h_=>h_.1))) hb);replace Z21:=a0_ (Kd.R_below (by (with_reducible repeat (first | apply Kd.R_alloc | apply Kd.R_drewN | apply Kd.R_drew));exact (Kd.R_mono (Kd.R_far (p:=⟨gb27,0,none⟩) (Kd.R_types Z21.out BK27.out (by decide)) (fun _ hk=>hk.2) (.slice Ao119 t23.length co119)) (fun _ h_=>h_.1))) hb);replace HO25:=a0_ (Kd.R_below (by (with_reducible repeat (first | apply Kd.R_alloc | apply Kd.R_drewN | apply Kd.R_drew));exact (Kd.R_mono (Kd.R_far (p:=⟨gb27,0,none⟩) (Kd.R_types HO25.out BK27.out (by decide)) (fun _ hk=>hk.2) (.slice Ao119 t23.length co119)) (fun _ h_=>h_.1))) hb);replace BK9:=kf_ BK9 NB9_27 hb;replace BK10:=kf_ BK10 NB10_27 hb;replace BK15:=kf_ BK15 NB15_27 hb;replace BK20:=kf_ BK20 NB20_27 hb;replace BK27:=a0_ (blk_below (g:=gb27) (o:=.cells #[.slice Ao119 t23.length co119] 28 (0,0)) (by (with_reducible repeat (first | refine blk_drewN ?_ _ | refine blk_drew ?_ | refine blk_alloc ?_ _));refine blk_put (cs:=#[.slice none 0 0]) ?_ 0 _ rfl;(with_reducible repeat (first | refine blk_drewN ?_ _ | refine blk_drew ?_ | refine blk_alloc ?_ _));exact BK27.out) hb);replace HB:=a0_ (below_step hb_ hb);(try clear hb);have hcz128_0 : w127.cell? ⟨gb27,0,none⟩ = some (.slice Ao119 t23.length co119):=(blk_cell BK27.out 0).trans rfl;have hfz128_0:=blk_frozen BK27.out 0;have hcz129_0 : w127.cell? ⟨gb15,0,none⟩ = some (.slice Ao17 t11.length co17):=(blk_cell BK15.out 0).trans rfl;have hfz129_0:=blk_frozen BK15.out 0) | (go_at_call 19;(with_reducible refine (laws_equalHeap.calls kj5 _ _ t23 _ _ t11 true _ ?side1 ?side2 ?side3 ?side4 A80.out).mono ?_);(case side1=>exact cc_ (Kd.R_reads' HO25.out).2.2);(case side2=>exact (Kd.R_reads' HO25.out).2.1);(case side3=>exact cc_ (Kd.R_reads' Z16.out).2.2);(case side4=>exact (Kd.R_reads' Z16.out).2.1);rintro e w130 ⟨rfl,hb⟩;replace Z10:=rb_ Z10 hb;replace Z11:=rb_ Z11 hb;replace Z16:=rb_ Z16 hb;replace Z21:=rb_ Z21 hb;replace HO25:=rb_ HO25 hb;replace BK9:=kb_ BK9 hb;replace BK10:=kb_ BK10 hb;replace BK15:=kb_ BK15 hb;replace BK20:=kb_ BK20 hb;replace BK27:=kb_ BK27 hb;replace HB:=a0_ (below_step hb_ hb);(try clear hb);have hcz131_0 : w130.cell? ⟨gb15,0,none⟩ = some (.slice Ao17 t11.length co17):=(blk_cell BK15.out 0).trans rfl;have hfz131_0:=blk_frozen BK15.out 0;have hnb132:=NB10_20.out;have hnc132:=NB20_10.out;have hcz133_0 : w130.cell? ⟨gb10,0,none⟩ = some (.slice Ao13 t4.length co13):=(blk_cell BK10.out 0).trans rfl;have hfz133_0:=blk_frozen BK10.out 0) | (go_at_call 19;(with_reducible refine (laws_equalHeap.calls kj5 _ _ t11 _ _ t4 false _ ?side1 ?side2 ?side3 ?side4 A83.out).mono ?_);(case side1=>exact cc_ (Kd.R_reads' Z16.out).2.2);(case side2=>exact (Kd.R_reads' Z16.out).2.1);(case side3=>exact cc_ (Kd.R_reads' Z11.out).2.2);(case side4=>exact (Kd.R_reads' Z11.out).2.1);rintro e w134 ⟨rfl,hb⟩;replace Z10:=rb_ Z10 hb;replace Z11:=rb_ Z11 hb;replace Z16:=rb_ Z16 hb;replace Z21:=rb_ Z21 hb;replace HO25:=rb_ HO25 hb;replace BK9:=kb_ BK9 hb;replace BK10:=kb_ BK10 hb;replace BK15:=kb_ BK15 hb;replace BK20:=kb_ BK20 hb;replace BK27:=kb_ BK27 hb;replace HB:=a0_ (below_step hb_ hb);(try clear hb);(try clear hb2);(try clear hk);(try clear hi)))
          go_ret
          exact ⟨by first | rfl | (simp [errW_none,errW_some] <;> rfl) | (simp [*,errW_none,errW_some] <;> rfl),hb_⟩
        ·rw [if_neg c82] at H
         have c82b0 : (t7 == t8) = false:=beq_eq_false_iff_ne.mpr c82
         have c82b1 : (t7 != t8) = true:=bne_iff_ne.mpr c82
         by_cases c135 : 0 ≤ t7
         ·rw [if_pos c135] at H
          have c135b0 : decide (0 ≤ t7) = true:=decide_eq_true c135
          clear c135
          by_cases c136 : t7 < (t11.length : Int)
          ·rw [if_pos c136] at H
           have c136b0 : decide (t7 < (t11.length : Int)) = true:=decide_eq_true c136
           clear c136
           obtain rfl:=Option.some.inj H
           have hnb137:=NB9_10.out
           have hnc137:=NB10_9.out
           have hnb138:=NB9_15.out
           have hnc138:=NB15_9.out
           have hnb139:=NB9_20.out
           have hnc139:=NB20_9.out
           have hcz140_0 : wc.cell? ⟨gb9,0,none⟩ = some (.slice Ao10 t1.length co10):=(blk_cell BK9.out 0).trans rfl
           have hfz140_0:=blk_frozen BK9.out 0
           have hnb141:=NB15_10.out
           have hnc141:=NB10_15.out
           have hnb142:=NB15_20.out
           have hnc142:=NB20_15.out
           have hcz143_0 : wc.cell? ⟨gb15,0,none⟩ = some (.slice Ao17 t11.length co17):=(blk_cell BK15.out 0).trans rfl
           have hfz143_0:=blk_frozen BK15.out 0
           go_wp2_with (first | ((with_reducible refine gate_callee (f:=28) rfl ?_);refine goesL_ (some 65) rfl rfl Try.func28 (by kernel_rfl) rfl #[.agg #[.slice Ao10 t1.length co10],.agg #[.slice Ao17 t11.length co17],.int .i64 t7,.int .i64 t8] rfl lm_ ?_;(with_reducible refine (impl_RaiseWhile.calls _ _ t1 _ _ t11 t7 t8 t23 true _ ?side1 ?side2 ?side3 ?side4 A76.out).mono ?_);(case side1=>exact cc_ (Kd.R_reads' Z10.out).2.2);(case side2=>exact (Kd.R_reads' Z10.out).2.1);(case side3=>exact cc_ (Kd.R_reads' Z16.out).2.2);(case side4=>exact (Kd.R_reads' Z16.out).2.1);rintro e w144 ⟨v24,rfl,ho0,hb⟩;refine ⟨_,rfl,?_⟩;have n0_:=rb_ Z10 hb;have n1_:=a0_ (Kd.R_elder' (rr_ Z11.out) (Kd.R_base ho0) hb);have n2_:=a0_ (Kd.R_elder' (rr_ Z16.out) (Kd.R_base ho0) hb);have n3_:=a0_ (Kd.R_elder' (rr_ Z21.out) (Kd.R_base ho0) hb);have n4_:=a0_ (Kd.R_lower (Kd.R_new' (Kd.R_new' (Kd.R_new' ho0 (Kd.R_lt (rr_ Z11.out))) (Kd.R_lt (rr_ Z16.out))) (Kd.R_lt (rr_ Z21.out))) (below_size hb_));have n5_:=kb_ BK9 hb;have n6_:=kb_ BK10 hb;have n7_:=kb_ BK15 hb;have n8_:=kb_ BK20 hb;have n9_:=a0_ (below_step hb_ hb);clear Z10 Z11;clear Z16 Z21;clear BK9 BK10;clear BK15 BK20 HB;have Z10:=n0_;have Z11:=n1_;have Z16:=n2_;have Z21:=n3_;have HO25:=n4_;have BK9:=n5_;have BK10:=n6_;have BK15:=n7_;have BK20:=n8_;have HB:=n9_;clear n0_ n1_ n2_ n3_ n4_ n5_ n6_ n7_ n8_ n9_;(try clear hb);(try clear ho0)) | ((with_reducible refine gate_dst (N:=11) rfl ?_);refine box_event ?hg (N:=11) ?hd (cs:=#[.slice none 0 0]) (t:=28) ?hr ?_;(case hd=>rfl);(case hg=>rfl);(case hr=>first | (go_simp;done) | (go_simp;rfl));intro gb27 hg w145 hbox hb;have n0_:=rb_ Z10 hb;have n1_:=rb_ Z11 hb;have n2_:=rb_ Z16 hb;have n3_:=rb_ Z21 hb;have n4_:=rb_ HO25 hb;have n5_:=kb_ BK9 hb;have n6_:=kb_ BK10 hb;have n7_:=kb_ BK15 hb;have n8_:=kb_ BK20 hb;have n9_:=a0_ (below_step hb_ hb);have n10_:=a0_ (hbox);have n11_:=a0_ ((by rw [hg];exact (below_size hb_) : w.heap.size ≤ gb27));have n12_:=a0_ ((by rw [hg];exact (below_size hb_) : w.heap.size ≤ gb27));have n13_:=a0_ ((by rw [hg];exact Nat.ne_of_lt (blk_lt (bb_ BK9.out)) : gb9 ≠ gb27));have n14_:=a0_ ((by rw [hg];exact Nat.ne_of_gt (blk_lt (bb_ BK9.out)) : gb27 ≠ gb9));have n15_:=a0_ ((by rw [hg];exact Nat.ne_of_lt (blk_lt (bb_ BK10.out)) : gb10 ≠ gb27));have n16_:=a0_ ((by rw [hg];exact Nat.ne_of_gt (blk_lt (bb_ BK10.out)) : gb27 ≠ gb10));have n17_:=a0_ ((by rw [hg];exact Nat.ne_of_lt (blk_lt (bb_ BK15.out)) : gb15 ≠ gb27));have n18_:=a0_ ((by rw [hg];exact Nat.ne_of_gt (blk_lt (bb_ BK15.out)) : gb27 ≠ gb15));have n19_:=a0_ ((by rw [hg];exact Nat.ne_of_lt (blk_lt (bb_ BK20.out)) : gb20 ≠ gb27));have n20_:=a0_ ((by rw [hg];exact Nat.ne_of_gt (blk_lt (bb_ BK20.out)) : gb27 ≠ gb20));clear Z10 Z11;clear Z16 Z21;clear HO25 BK9;clear BK10 BK15;clear BK20 HB;have Z10:=n0_;have Z11:=n1_;have Z16:=n2_;have Z21:=n3_;have HO25:=n4_;have BK9:=n5_;have BK10:=n6_;have BK15:=n7_;have BK20:=n8_;have HB:=n9_;have BK27:=n10_;have GW27:=n11_;have GE27:=n12_;have NB9_27:=n13_;have NB27_9:=n14_;have NB10_27:=n15_;have NB27_10:=n16_;have NB15_27:=n17_;have NB27_15:=n18_;have NB20_27:=n19_;have NB27_20:=n20_;clear n0_ n1_ n2_ n3_ n4_ n5_ n6_ n7_ n8_ n9_ n10_ n11_ n12_ n13_ n14_ n15_ n16_ n17_ n18_ n19_ n20_;clear hb hbox hg;obtain ⟨Ao146,co146,eo146⟩:=Kd.R_slice HO25.out;subst eo146;have hnb147:=NB27_9.out;have hnc147:=NB9_27.out;have hnb148:=NB27_10.out;have hnc148:=NB10_27.out;have hnb149:=NB27_15.out;have hnc149:=NB15_27.out;have hnb150:=NB27_20.out;have hnc150:=NB20_27.out;have hcz151_0 : w145.cell? ⟨gb27,0,none⟩ = some (.slice none 0 0):=(blk_cell BK27.out 0).trans rfl;have hfz151_0:=blk_frozen BK27.out 0;have hcz152_0 : w145.cell? ⟨gb9,0,none⟩ = some (.slice Ao10 t1.length co10):=(blk_cell BK9.out 0).trans rfl;have hfz152_0:=blk_frozen BK9.out 0;have hcz153_0 : w145.cell? ⟨gb15,0,none⟩ = some (.slice Ao17 t11.length co17):=(blk_cell BK15.out 0).trans rfl;have hfz153_0:=blk_frozen BK15.out 0) | ((with_reducible refine gate_callee (f:=30) rfl ?_);refine goesL_ (some 70) rfl rfl Try.func30 (by kernel_rfl) rfl #[.agg #[.slice Ao10 t1.length co10],.agg #[.slice Ao17 t11.length co17]] rfl lm_ ?_;(with_reducible refine (impl_ValidHeap.calls _ _ t1 _ _ t11 true _ ?side1 ?side2 ?side3 ?side4 A77.out).mono ?_);(case side1=>refine (Kd.R_reads' (e:=87) (base:=w.heap.size) (ok:=fun k_=>True) (n:=t1.length) (c:=co10) ?_).2.2;exact (by (with_reducible repeat (first | apply Kd.R_alloc | apply Kd.R_drewN | apply Kd.R_drew));exact (Kd.R_mono (Kd.R_far (p:=⟨gb27,0,none⟩) (Kd.R_types Z10.out BK27.out (by decide)) (fun _ hk=>hk.2) (.slice Ao146 t23.length co146)) (fun _ h_=>h_.1))));(case side2=>exact (Kd.R_reads' Z10.out).2.1);(case side3=>refine (Kd.R_reads' (e:=43) (base:=w.heap.size) (ok:=fun k_=>((some k_ ≠ (.slice Ao13 t4.length co13 : Value).ownBlock ∧ some k_ ≠ (.slice Ao25 t16.length co25 : Value).ownBlock) ∧ some k_ ≠ (.slice Ao146 t23.length co146 : Value).ownBlock)) (n:=t11.length) (c:=co17) ?_).2.2;exact (by (with_reducible repeat (first | apply Kd.R_alloc | apply Kd.R_drewN | apply Kd.R_drew));exact (Kd.R_mono (Kd.R_far (p:=⟨gb27,0,none⟩) (Kd.R_types Z16.out BK27.out (by decide)) (fun _ hk=>hk.2) (.slice Ao146 t23.length co146)) (fun _ h_=>h_.1))));(case side4=>exact (Kd.R_reads' Z16.out).2.1);rintro e w154 ⟨rfl,hb⟩;refine ⟨_,rfl,?_⟩;replace Z10:=a0_ (Kd.R_below (by (with_reducible repeat (first | apply Kd.R_alloc | apply Kd.R_drewN | apply Kd.R_drew));exact (Kd.R_mono (Kd.R_far (p:=⟨gb27,0,none⟩) (Kd.R_types Z10.out BK27.out (by decide)) (fun _ hk=>hk.2) (.slice Ao146 t23.length co146)) (fun _ h_=>h_.1))) hb);replace Z11:=a0_ (Kd.R_below (by (with_reducible repeat (first | apply Kd.R_alloc | apply Kd.R_drewN | apply Kd.R_drew));exact (Kd.R_mono (Kd.R_far (p:=⟨gb27,0,none⟩) (Kd.R_types Z11.out BK27.out (by decide)) (fun _ hk=>hk.2) (.slice Ao146 t23.length co146)) (fun _ h_=>h_.1))) hb);replace Z16:=a0_ (Kd.R_below (by (with_reducible repeat (first | apply Kd.R_alloc | apply Kd.R_drewN | apply Kd.R_drew));exact (Kd.R_mono (Kd.R_far (p:=⟨gb27,0,none⟩) (Kd.R_types Z16.out BK27.out (by decide)) (fun _ hk=>hk.2) (.slice Ao146 t23.length co146)) (fun _ h_=>h_.1))) hb);replace Z21:=a0_ (Kd.R_below (by (with_reducible repeat (first | apply Kd.R_alloc | apply Kd.R_drewN | apply Kd.R_drew));exact (Kd.R_mono (Kd.R_far (p:=⟨gb27,0,none⟩) (Kd.R_types Z21.out BK27.out (by decide)) (fun _ hk=>hk.2) (.slice Ao146 t23.length co146)) (fun _ h_=>h_.1))) hb);replace HO25:=a0_ (Kd.R_below (by (with_reducible repeat (first | apply Kd.R_alloc | apply Kd.R_drewN | apply Kd.R_drew));exact (Kd.R_mono (Kd.R_far (p:=⟨gb27,0,none⟩) (Kd.R_types HO25.out BK27.out (by decide)) (fun _ hk=>hk.2) (.slice Ao146 t23.length co146)) (fun _ h_=>h_.1))) hb);replace BK9:=kf_ BK9 NB9_27 hb;replace BK10:=kf_ BK10 NB10_27 hb;replace BK15:=kf_ BK15 NB15_27 hb;replace BK20:=kf_ BK20 NB20_27 hb;replace BK27:=a0_ (blk_below (g:=gb27) (o:=.cells #[.slice Ao146 t23.length co146] 28 (0,0)) (by (with_reducible repeat (first | refine blk_drewN ?_ _ | refine blk_drew ?_ | refine blk_alloc ?_ _));refine blk_put (cs:=#[.slice none 0 0]) ?_ 0 _ rfl;(with_reducible repeat (first | refine blk_drewN ?_ _ | refine blk_drew ?_ | refine blk_alloc ?_ _));exact BK27.out) hb);replace HB:=a0_ (below_step hb_ hb);(try clear hb);have hcz155_0 : w154.cell? ⟨gb27,0,none⟩ = some (.slice Ao146 t23.length co146):=(blk_cell BK27.out 0).trans rfl;have hfz155_0:=blk_frozen BK27.out 0;have hcz156_0 : w154.cell? ⟨gb15,0,none⟩ = some (.slice Ao17 t11.length co17):=(blk_cell BK15.out 0).trans rfl;have hfz156_0:=blk_frozen BK15.out 0) | (go_at_call 19;(with_reducible refine (laws_equalHeap.calls kj5 _ _ t23 _ _ t11 true _ ?side1 ?side2 ?side3 ?side4 A80.out).mono ?_);(case side1=>exact cc_ (Kd.R_reads' HO25.out).2.2);(case side2=>exact (Kd.R_reads' HO25.out).2.1);(case side3=>exact cc_ (Kd.R_reads' Z16.out).2.2);(case side4=>exact (Kd.R_reads' Z16.out).2.1);rintro e w157 ⟨rfl,hb⟩;replace Z10:=rb_ Z10 hb;replace Z11:=rb_ Z11 hb;replace Z16:=rb_ Z16 hb;replace Z21:=rb_ Z21 hb;replace HO25:=rb_ HO25 hb;replace BK9:=kb_ BK9 hb;replace BK10:=kb_ BK10 hb;replace BK15:=kb_ BK15 hb;replace BK20:=kb_ BK20 hb;replace BK27:=kb_ BK27 hb;replace HB:=a0_ (below_step hb_ hb);(try clear hb);have hcz158_0 : w157.cell? ⟨gb15,0,none⟩ = some (.slice Ao17 t11.length co17):=(blk_cell BK15.out 0).trans rfl;have hfz158_0:=blk_frozen BK15.out 0;have p31 : 0 ≤ (t7 : Int):=of_decide_eq_true (by first | (with_reducible assumption) | assumption);have q31 : t7 < (t11.length : Int):=of_decide_eq_true (by first | (with_reducible assumption) | assumption);obtain ⟨ad31,e31,hx31_0,hx31_1,hx31_2,hx31_3,hx31_4⟩:=at_T43 (Kd.R_reads' Z16.out).2.2 t7 p31 q31;cases e31;replace p31:=eq_true p31;replace q31:=eq_true q31))
           go_ret
           exact ⟨by first | rfl | (simp [errW_none,errW_some] <;> rfl) | (simp [*,errW_none,errW_some] <;> rfl),hb_⟩
          ·rw [if_neg c136] at H
           exact absurd H (by simp)
         ·rw [if_neg c135] at H
          exact absurd H (by simp)
       ·replace c81:=Bool.eq_false_iff.mpr c81
        subst c81
        have H1 : (some false) = some r:=by rw [if_neg (show ¬ (false = true) by decide)] at H;exact H
        clear H
        have H:=H1
        clear H1
        obtain rfl:=Option.some.inj H
        have hnb159:=NB9_10.out
        have hnc159:=NB10_9.out
        have hnb160:=NB9_15.out
        have hnc160:=NB15_9.out
        have hnb161:=NB9_20.out
        have hnc161:=NB20_9.out
        have hcz162_0 : wc.cell? ⟨gb9,0,none⟩ = some (.slice Ao10 t1.length co10):=(blk_cell BK9.out 0).trans rfl
        have hfz162_0:=blk_frozen BK9.out 0
        have hnb163:=NB15_10.out
        have hnc163:=NB10_15.out
        have hnb164:=NB15_20.out
        have hnc164:=NB20_15.out
        have hcz165_0 : wc.cell? ⟨gb15,0,none⟩ = some (.slice Ao17 t11.length co17):=(blk_cell BK15.out 0).trans rfl
        have hfz165_0:=blk_frozen BK15.out 0
        go_wp2_with (first | ((with_reducible refine gate_callee (f:=28) rfl ?_);refine goesL_ (some 65) rfl rfl Try.func28 (by kernel_rfl) rfl #[.agg #[.slice Ao10 t1.length co10],.agg #[.slice Ao17 t11.length co17],.int .i64 t7,.int .i64 t8] rfl lm_ ?_;(with_reducible refine (impl_RaiseWhile.calls _ _ t1 _ _ t11 t7 t8 t23 true _ ?side1 ?side2 ?side3 ?side4 A76.out).mono ?_);(case side1=>exact cc_ (Kd.R_reads' Z10.out).2.2);(case side2=>exact (Kd.R_reads' Z10.out).2.1);(case side3=>exact cc_ (Kd.R_reads' Z16.out).2.2);(case side4=>exact (Kd.R_reads' Z16.out).2.1);rintro e w166 ⟨v24,rfl,ho0,hb⟩;refine ⟨_,rfl,?_⟩;have n0_:=rb_ Z10 hb;have n1_:=a0_ (Kd.R_elder' (rr_ Z11.out) (Kd.R_base ho0) hb);have n2_:=a0_ (Kd.R_elder' (rr_ Z16.out) (Kd.R_base ho0) hb);have n3_:=a0_ (Kd.R_elder' (rr_ Z21.out) (Kd.R_base ho0) hb);have n4_:=a0_ (Kd.R_lower (Kd.R_new' (Kd.R_new' (Kd.R_new' ho0 (Kd.R_lt (rr_ Z11.out))) (Kd.R_lt (rr_ Z16.out))) (Kd.R_lt (rr_ Z21.out))) (below_size hb_));have n5_:=kb_ BK9 hb;have n6_:=kb_ BK10 hb;have n7_:=kb_ BK15 hb;have n8_:=kb_ BK20 hb;have n9_:=a0_ (below_step hb_ hb);clear Z10 Z11;clear Z16 Z21;clear BK9 BK10;clear BK15 BK20 HB;have Z10:=n0_;have Z11:=n1_;have Z16:=n2_;have Z21:=n3_;have HO25:=n4_;have BK9:=n5_;have BK10:=n6_;have BK15:=n7_;have BK20:=n8_;have HB:=n9_;clear n0_ n1_ n2_ n3_ n4_ n5_ n6_ n7_ n8_ n9_;(try clear hb);(try clear ho0)) | ((with_reducible refine gate_dst (N:=11) rfl ?_);refine box_event ?hg (N:=11) ?hd (cs:=#[.slice none 0 0]) (t:=28) ?hr ?_;(case hd=>rfl);(case hg=>rfl);(case hr=>first | (go_simp;done) | (go_simp;rfl));intro gb27 hg w167 hbox hb;have n0_:=rb_ Z10 hb;have n1_:=rb_ Z11 hb;have n2_:=rb_ Z16 hb;have n3_:=rb_ Z21 hb;have n4_:=rb_ HO25 hb;have n5_:=kb_ BK9 hb;have n6_:=kb_ BK10 hb;have n7_:=kb_ BK15 hb;have n8_:=kb_ BK20 hb;have n9_:=a0_ (below_step hb_ hb);have n10_:=a0_ (hbox);have n11_:=a0_ ((by rw [hg];exact (below_size hb_) : w.heap.size ≤ gb27));have n12_:=a0_ ((by rw [hg];exact (below_size hb_) : w.heap.size ≤ gb27));have n13_:=a0_ ((by rw [hg];exact Nat.ne_of_lt (blk_lt (bb_ BK9.out)) : gb9 ≠ gb27));have n14_:=a0_ ((by rw [hg];exact Nat.ne_of_gt (blk_lt (bb_ BK9.out)) : gb27 ≠ gb9));have n15_:=a0_ ((by rw [hg];exact Nat.ne_of_lt (blk_lt (bb_ BK10.out)) : gb10 ≠ gb27));have n16_:=a0_ ((by rw [hg];exact Nat.ne_of_gt (blk_lt (bb_ BK10.out)) : gb27 ≠ gb10));have n17_:=a0_ ((by rw [hg];exact Nat.ne_of_lt (blk_lt (bb_ BK15.out)) : gb15 ≠ gb27));have n18_:=a0_ ((by rw [hg];exact Nat.ne_of_gt (blk_lt (bb_ BK15.out)) : gb27 ≠ gb15));have n19_:=a0_ ((by rw [hg];exact Nat.ne_of_lt (blk_lt (bb_ BK20.out)) : gb20 ≠ gb27));have n20_:=a0_ ((by rw [hg];exact Nat.ne_of_gt (blk_lt (bb_ BK20.out)) : gb27 ≠ gb20));clear Z10 Z11;clear Z16 Z21;clear HO25 BK9;clear BK10 BK15;clear BK20 HB;have Z10:=n0_;have Z11:=n1_;have Z16:=n2_;have Z21:=n3_;have HO25:=n4_;have BK9:=n5_;have BK10:=n6_;have BK15:=n7_;have BK20:=n8_;have HB:=n9_;have BK27:=n10_;have GW27:=n11_;have GE27:=n12_;have NB9_27:=n13_;have NB27_9:=n14_;have NB10_27:=n15_;have NB27_10:=n16_;have NB15_27:=n17_;have NB27_15:=n18_;have NB20_27:=n19_;have NB27_20:=n20_;clear n0_ n1_ n2_ n3_ n4_ n5_ n6_ n7_ n8_ n9_ n10_ n11_ n12_ n13_ n14_ n15_ n16_ n17_ n18_ n19_ n20_;clear hb hbox hg;obtain ⟨Ao168,co168,eo168⟩:=Kd.R_slice HO25.out;subst eo168;have hnb169:=NB27_9.out;have hnc169:=NB9_27.out;have hnb170:=NB27_10.out;have hnc170:=NB10_27.out;have hnb171:=NB27_15.out;have hnc171:=NB15_27.out;have hnb172:=NB27_20.out;have hnc172:=NB20_27.out;have hcz173_0 : w167.cell? ⟨gb27,0,none⟩ = some (.slice none 0 0):=(blk_cell BK27.out 0).trans rfl;have hfz173_0:=blk_frozen BK27.out 0;have hcz174_0 : w167.cell? ⟨gb9,0,none⟩ = some (.slice Ao10 t1.length co10):=(blk_cell BK9.out 0).trans rfl;have hfz174_0:=blk_frozen BK9.out 0;have hcz175_0 : w167.cell? ⟨gb15,0,none⟩ = some (.slice Ao17 t11.length co17):=(blk_cell BK15.out 0).trans rfl;have hfz175_0:=blk_frozen BK15.out 0) | ((with_reducible refine gate_callee (f:=30) rfl ?_);refine goesL_ (some 70) rfl rfl Try.func30 (by kernel_rfl) rfl #[.agg #[.slice Ao10 t1.length co10],.agg #[.slice Ao17 t11.length co17]] rfl lm_ ?_;(with_reducible refine (impl_ValidHeap.calls _ _ t1 _ _ t11 true _ ?side1 ?side2 ?side3 ?side4 A77.out).mono ?_);(case side1=>refine (Kd.R_reads' (e:=87) (base:=w.heap.size) (ok:=fun k_=>True) (n:=t1.length) (c:=co10) ?_).2.2;exact (by (with_reducible repeat (first | apply Kd.R_alloc | apply Kd.R_drewN | apply Kd.R_drew));exact (Kd.R_mono (Kd.R_far (p:=⟨gb27,0,none⟩) (Kd.R_types Z10.out BK27.out (by decide)) (fun _ hk=>hk.2) (.slice Ao168 t23.length co168)) (fun _ h_=>h_.1))));(case side2=>exact (Kd.R_reads' Z10.out).2.1);(case side3=>refine (Kd.R_reads' (e:=43) (base:=w.heap.size) (ok:=fun k_=>((some k_ ≠ (.slice Ao13 t4.length co13 : Value).ownBlock ∧ some k_ ≠ (.slice Ao25 t16.length co25 : Value).ownBlock) ∧ some k_ ≠ (.slice Ao168 t23.length co168 : Value).ownBlock)) (n:=t11.length) (c:=co17) ?_).2.2;exact (by (with_reducible repeat (first | apply Kd.R_alloc | apply Kd.R_drewN | apply Kd.R_drew));exact (Kd.R_mono (Kd.R_far (p:=⟨gb27,0,none⟩) (Kd.R_types Z16.out BK27.out (by decide)) (fun _ hk=>hk.2) (.slice Ao168 t23.length co168)) (fun _ h_=>h_.1))));(case side4=>exact (Kd.R_reads' Z16.out).2.1);rintro e w176 ⟨rfl,hb⟩;refine ⟨_,rfl,?_⟩;replace Z10:=a0_ (Kd.R_below (by (with_reducible repeat (first | apply Kd.R_alloc | apply Kd.R_drewN | apply Kd.R_drew));exact (Kd.R_mono (Kd.R_far (p:=⟨gb27,0,none⟩) (Kd.R_types Z10.out BK27.out (by decide)) (fun _ hk=>hk.2) (.slice Ao168 t23.length co168)) (fun _ h_=>h_.1))) hb);replace Z11:=a0_ (Kd.R_below (by (with_reducible repeat (first | apply Kd.R_alloc | apply Kd.R_drewN | apply Kd.R_drew));exact (Kd.R_mono (Kd.R_far (p:=⟨gb27,0,none⟩) (Kd.R_types Z11.out BK27.out (by decide)) (fun _ hk=>hk.2) (.slice Ao168 t23.length co168)) (fun _ h_=>h_.1))) hb);replace Z16:=a0_ (Kd.R_below (by (with_reducible repeat (first | apply Kd.R_alloc | apply Kd.R_drewN | apply Kd.R_drew));exact (Kd.R_mono (Kd.R_far (p:=⟨gb27,0,none⟩) (Kd.R_types Z16.out BK27.out (by decide)) (fun _ hk=>hk.2) (.slice Ao168 t23.length co168)) (fun _ h_=>h_.1))) hb);replace Z21:=a0_ (Kd.R_below (by (with_reducible repeat (first | apply Kd.R_alloc | apply Kd.R_drewN | apply Kd.R_drew));exact (Kd.R_mono (Kd.R_far (p:=⟨gb27,0,none⟩) (Kd.R_types Z21.out BK27.out (by decide)) (fun _ hk=>hk.2) (.slice Ao168 t23.length co168)) (fun _ h_=>h_.1))) hb);replace HO25:=a0_ (Kd.R_below (by (with_reducible repeat (first | apply Kd.R_alloc | apply Kd.R_drewN | apply Kd.R_drew));exact (Kd.R_mono (Kd.R_far (p:=⟨gb27,0,none⟩) (Kd.R_types HO25.out BK27.out (by decide)) (fun _ hk=>hk.2) (.slice Ao168 t23.length co168)) (fun _ h_=>h_.1))) hb);replace BK9:=kf_ BK9 NB9_27 hb;replace BK10:=kf_ BK10 NB10_27 hb;replace BK15:=kf_ BK15 NB15_27 hb;replace BK20:=kf_ BK20 NB20_27 hb;replace BK27:=a0_ (blk_below (g:=gb27) (o:=.cells #[.slice Ao168 t23.length co168] 28 (0,0)) (by (with_reducible repeat (first | refine blk_drewN ?_ _ | refine blk_drew ?_ | refine blk_alloc ?_ _));refine blk_put (cs:=#[.slice none 0 0]) ?_ 0 _ rfl;(with_reducible repeat (first | refine blk_drewN ?_ _ | refine blk_drew ?_ | refine blk_alloc ?_ _));exact BK27.out) hb);replace HB:=a0_ (below_step hb_ hb);(try clear hb);have hcz177_0 : w176.cell? ⟨gb27,0,none⟩ = some (.slice Ao168 t23.length co168):=(blk_cell BK27.out 0).trans rfl;have hfz177_0:=blk_frozen BK27.out 0;have hcz178_0 : w176.cell? ⟨gb15,0,none⟩ = some (.slice Ao17 t11.length co17):=(blk_cell BK15.out 0).trans rfl;have hfz178_0:=blk_frozen BK15.out 0) | (go_at_call 19;(with_reducible refine (laws_equalHeap.calls kj5 _ _ t23 _ _ t11 false _ ?side1 ?side2 ?side3 ?side4 A80.out).mono ?_);(case side1=>exact cc_ (Kd.R_reads' HO25.out).2.2);(case side2=>exact (Kd.R_reads' HO25.out).2.1);(case side3=>exact cc_ (Kd.R_reads' Z16.out).2.2);(case side4=>exact (Kd.R_reads' Z16.out).2.1);rintro e w179 ⟨rfl,hb⟩;replace Z10:=rb_ Z10 hb;replace Z11:=rb_ Z11 hb;replace Z16:=rb_ Z16 hb;replace Z21:=rb_ Z21 hb;replace HO25:=rb_ HO25 hb;replace BK9:=kb_ BK9 hb;replace BK10:=kb_ BK10 hb;replace BK15:=kb_ BK15 hb;replace BK20:=kb_ BK20 hb;replace BK27:=kb_ BK27 hb;replace HB:=a0_ (below_step hb_ hb);(try clear hb);(try clear hb2);(try clear hk);(try clear hi)))
        go_ret
        exact ⟨by first | rfl | (simp [errW_none,errW_some] <;> rfl) | (simp [*,errW_none,errW_some] <;> rfl),hb_⟩
      ·replace c79:=Bool.eq_false_iff.mpr c79
       subst c79
       have H1 : (some false) = some r:=by rw [if_neg (show ¬ (false = true) by decide)] at H;exact H
       clear H
       have H:=H1
       clear H1
       obtain rfl:=Option.some.inj H
       have hnb180:=NB9_10.out
       have hnc180:=NB10_9.out
       have hnb181:=NB9_15.out
       have hnc181:=NB15_9.out
       have hnb182:=NB9_20.out
       have hnc182:=NB20_9.out
       have hcz183_0 : wc.cell? ⟨gb9,0,none⟩ = some (.slice Ao10 t1.length co10):=(blk_cell BK9.out 0).trans rfl
       have hfz183_0:=blk_frozen BK9.out 0
       have hnb184:=NB15_10.out
       have hnc184:=NB10_15.out
       have hnb185:=NB15_20.out
       have hnc185:=NB20_15.out
       have hcz186_0 : wc.cell? ⟨gb15,0,none⟩ = some (.slice Ao17 t11.length co17):=(blk_cell BK15.out 0).trans rfl
       have hfz186_0:=blk_frozen BK15.out 0
       go_wp2_with (first | ((with_reducible refine gate_callee (f:=28) rfl ?_);refine goesL_ (some 65) rfl rfl Try.func28 (by kernel_rfl) rfl #[.agg #[.slice Ao10 t1.length co10],.agg #[.slice Ao17 t11.length co17],.int .i64 t7,.int .i64 t8] rfl lm_ ?_;(with_reducible refine (impl_RaiseWhile.calls _ _ t1 _ _ t11 t7 t8 t23 false _ ?side1 ?side2 ?side3 ?side4 A76.out).mono ?_);(case side1=>exact cc_ (Kd.R_reads' Z10.out).2.2);(case side2=>exact (Kd.R_reads' Z10.out).2.1);(case side3=>exact cc_ (Kd.R_reads' Z16.out).2.2);(case side4=>exact (Kd.R_reads' Z16.out).2.1);rintro e w187 ⟨v24,rfl,ho0,hb⟩;refine ⟨_,rfl,?_⟩;have n0_:=rb_ Z10 hb;have n1_:=a0_ (Kd.R_elder' (rr_ Z11.out) (Kd.R_base ho0) hb);have n2_:=a0_ (Kd.R_elder' (rr_ Z16.out) (Kd.R_base ho0) hb);have n3_:=a0_ (Kd.R_elder' (rr_ Z21.out) (Kd.R_base ho0) hb);have n4_:=a0_ (Kd.R_lower (Kd.R_new' (Kd.R_new' (Kd.R_new' ho0 (Kd.R_lt (rr_ Z11.out))) (Kd.R_lt (rr_ Z16.out))) (Kd.R_lt (rr_ Z21.out))) (below_size hb_));have n5_:=kb_ BK9 hb;have n6_:=kb_ BK10 hb;have n7_:=kb_ BK15 hb;have n8_:=kb_ BK20 hb;have n9_:=a0_ (below_step hb_ hb);clear Z10 Z11;clear Z16 Z21;clear BK9 BK10;clear BK15 BK20 HB;have Z10:=n0_;have Z11:=n1_;have Z16:=n2_;have Z21:=n3_;have HO25:=n4_;have BK9:=n5_;have BK10:=n6_;have BK15:=n7_;have BK20:=n8_;have HB:=n9_;clear n0_ n1_ n2_ n3_ n4_ n5_ n6_ n7_ n8_ n9_;(try clear hb);(try clear ho0)) | ((with_reducible refine gate_dst (N:=11) rfl ?_);refine box_event ?hg (N:=11) ?hd (cs:=#[.slice none 0 0]) (t:=28) ?hr ?_;(case hd=>rfl);(case hg=>rfl);(case hr=>first | (go_simp;done) | (go_simp;rfl));intro gb27 hg w188 hbox hb;have n0_:=rb_ Z10 hb;have n1_:=rb_ Z11 hb;have n2_:=rb_ Z16 hb;have n3_:=rb_ Z21 hb;have n4_:=rb_ HO25 hb;have n5_:=kb_ BK9 hb;have n6_:=kb_ BK10 hb;have n7_:=kb_ BK15 hb;have n8_:=kb_ BK20 hb;have n9_:=a0_ (below_step hb_ hb);have n10_:=a0_ (hbox);have n11_:=a0_ ((by rw [hg];exact (below_size hb_) : w.heap.size ≤ gb27));have n12_:=a0_ ((by rw [hg];exact (below_size hb_) : w.heap.size ≤ gb27));have n13_:=a0_ ((by rw [hg];exact Nat.ne_of_lt (blk_lt (bb_ BK9.out)) : gb9 ≠ gb27));have n14_:=a0_ ((by rw [hg];exact Nat.ne_of_gt (blk_lt (bb_ BK9.out)) : gb27 ≠ gb9));have n15_:=a0_ ((by rw [hg];exact Nat.ne_of_lt (blk_lt (bb_ BK10.out)) : gb10 ≠ gb27));have n16_:=a0_ ((by rw [hg];exact Nat.ne_of_gt (blk_lt (bb_ BK10.out)) : gb27 ≠ gb10));have n17_:=a0_ ((by rw [hg];exact Nat.ne_of_lt (blk_lt (bb_ BK15.out)) : gb15 ≠ gb27));have n18_:=a0_ ((by rw [hg];exact Nat.ne_of_gt (blk_lt (bb_ BK15.out)) : gb27 ≠ gb15));have n19_:=a0_ ((by rw [hg];exact Nat.ne_of_lt (blk_lt (bb_ BK20.out)) : gb20 ≠ gb27));have n20_:=a0_ ((by rw [hg];exact Nat.ne_of_gt (blk_lt (bb_ BK20.out)) : gb27 ≠ gb20));clear Z10 Z11;clear Z16 Z21;clear HO25 BK9;clear BK10 BK15;clear BK20 HB;have Z10:=n0_;have Z11:=n1_;have Z16:=n2_;have Z21:=n3_;have HO25:=n4_;have BK9:=n5_;have BK10:=n6_;have BK15:=n7_;have BK20:=n8_;have HB:=n9_;have BK27:=n10_;have GW27:=n11_;have GE27:=n12_;have NB9_27:=n13_;have NB27_9:=n14_;have NB10_27:=n15_;have NB27_10:=n16_;have NB15_27:=n17_;have NB27_15:=n18_;have NB20_27:=n19_;have NB27_20:=n20_;clear n0_ n1_ n2_ n3_ n4_ n5_ n6_ n7_ n8_ n9_ n10_ n11_ n12_ n13_ n14_ n15_ n16_ n17_ n18_ n19_ n20_;clear hb hbox hg;obtain ⟨Ao189,co189,eo189⟩:=Kd.R_slice HO25.out;subst eo189;have hnb190:=NB27_9.out;have hnc190:=NB9_27.out;have hnb191:=NB27_10.out;have hnc191:=NB10_27.out;have hnb192:=NB27_15.out;have hnc192:=NB15_27.out;have hnb193:=NB27_20.out;have hnc193:=NB20_27.out;have hcz194_0 : w188.cell? ⟨gb27,0,none⟩ = some (.slice none 0 0):=(blk_cell BK27.out 0).trans rfl;have hfz194_0:=blk_frozen BK27.out 0;have hcz195_0 : w188.cell? ⟨gb9,0,none⟩ = some (.slice Ao10 t1.length co10):=(blk_cell BK9.out 0).trans rfl;have hfz195_0:=blk_frozen BK9.out 0;have hcz196_0 : w188.cell? ⟨gb15,0,none⟩ = some (.slice Ao17 t11.length co17):=(blk_cell BK15.out 0).trans rfl;have hfz196_0:=blk_frozen BK15.out 0) | ((with_reducible refine gate_callee (f:=30) rfl ?_);refine goesL_ (some 70) rfl rfl Try.func30 (by kernel_rfl) rfl #[.agg #[.slice Ao10 t1.length co10],.agg #[.slice Ao17 t11.length co17]] rfl lm_ ?_;(with_reducible refine (impl_ValidHeap.calls _ _ t1 _ _ t11 true _ ?side1 ?side2 ?side3 ?side4 A77.out).mono ?_);(case side1=>refine (Kd.R_reads' (e:=87) (base:=w.heap.size) (ok:=fun k_=>True) (n:=t1.length) (c:=co10) ?_).2.2;exact (by (with_reducible repeat (first | apply Kd.R_alloc | apply Kd.R_drewN | apply Kd.R_drew));exact (Kd.R_mono (Kd.R_far (p:=⟨gb27,0,none⟩) (Kd.R_types Z10.out BK27.out (by decide)) (fun _ hk=>hk.2) (.slice Ao189 t23.length co189)) (fun _ h_=>h_.1))));(case side2=>exact (Kd.R_reads' Z10.out).2.1);(case side3=>refine (Kd.R_reads' (e:=43) (base:=w.heap.size) (ok:=fun k_=>((some k_ ≠ (.slice Ao13 t4.length co13 : Value).ownBlock ∧ some k_ ≠ (.slice Ao25 t16.length co25 : Value).ownBlock) ∧ some k_ ≠ (.slice Ao189 t23.length co189 : Value).ownBlock)) (n:=t11.length) (c:=co17) ?_).2.2;exact (by (with_reducible repeat (first | apply Kd.R_alloc | apply Kd.R_drewN | apply Kd.R_drew));exact (Kd.R_mono (Kd.R_far (p:=⟨gb27,0,none⟩) (Kd.R_types Z16.out BK27.out (by decide)) (fun _ hk=>hk.2) (.slice Ao189 t23.length co189)) (fun _ h_=>h_.1))));(case side4=>exact (Kd.R_reads' Z16.out).2.1);rintro e w197 ⟨rfl,hb⟩;refine ⟨_,rfl,?_⟩;replace Z10:=a0_ (Kd.R_below (by (with_reducible repeat (first | apply Kd.R_alloc | apply Kd.R_drewN | apply Kd.R_drew));exact (Kd.R_mono (Kd.R_far (p:=⟨gb27,0,none⟩) (Kd.R_types Z10.out BK27.out (by decide)) (fun _ hk=>hk.2) (.slice Ao189 t23.length co189)) (fun _ h_=>h_.1))) hb);replace Z11:=a0_ (Kd.R_below (by (with_reducible repeat (first | apply Kd.R_alloc | apply Kd.R_drewN | apply Kd.R_drew));exact (Kd.R_mono (Kd.R_far (p:=⟨gb27,0,none⟩) (Kd.R_types Z11.out BK27.out (by decide)) (fun _ hk=>hk.2) (.slice Ao189 t23.length co189)) (fun _ h_=>h_.1))) hb);replace Z16:=a0_ (Kd.R_below (by (with_reducible repeat (first | apply Kd.R_alloc | apply Kd.R_drewN | apply Kd.R_drew));exact (Kd.R_mono (Kd.R_far (p:=⟨gb27,0,none⟩) (Kd.R_types Z16.out BK27.out (by decide)) (fun _ hk=>hk.2) (.slice Ao189 t23.length co189)) (fun _ h_=>h_.1))) hb);replace Z21:=a0_ (Kd.R_below (by (with_reducible repeat (first | apply Kd.R_alloc | apply Kd.R_drewN | apply Kd.R_drew));exact (Kd.R_mono (Kd.R_far (p:=⟨gb27,0,none⟩) (Kd.R_types Z21.out BK27.out (by decide)) (fun _ hk=>hk.2) (.slice Ao189 t23.length co189)) (fun _ h_=>h_.1))) hb);replace HO25:=a0_ (Kd.R_below (by (with_reducible repeat (first | apply Kd.R_alloc | apply Kd.R_drewN | apply Kd.R_drew));exact (Kd.R_mono (Kd.R_far (p:=⟨gb27,0,none⟩) (Kd.R_types HO25.out BK27.out (by decide)) (fun _ hk=>hk.2) (.slice Ao189 t23.length co189)) (fun _ h_=>h_.1))) hb);replace BK9:=kf_ BK9 NB9_27 hb;replace BK10:=kf_ BK10 NB10_27 hb;replace BK15:=kf_ BK15 NB15_27 hb;replace BK20:=kf_ BK20 NB20_27 hb;replace BK27:=a0_ (blk_below (g:=gb27) (o:=.cells #[.slice Ao189 t23.length co189] 28 (0,0)) (by (with_reducible repeat (first | refine blk_drewN ?_ _ | refine blk_drew ?_ | refine blk_alloc ?_ _));refine blk_put (cs:=#[.slice none 0 0]) ?_ 0 _ rfl;(with_reducible repeat (first | refine blk_drewN ?_ _ | refine blk_drew ?_ | refine blk_alloc ?_ _));exact BK27.out) hb);replace HB:=a0_ (below_step hb_ hb);(try clear hb);(try clear hb2);(try clear hk);(try clear hi)))
       go_ret
       exact ⟨by first | rfl | (simp [errW_none,errW_some] <;> rfl) | (simp [*,errW_none,errW_some] <;> rfl),hb_⟩
     ·replace c78:=Bool.eq_false_iff.mpr c78
      subst c78
      have H1 : (some false) = some r:=by rw [if_neg (show ¬ (false = true) by decide)] at H;exact H
      clear H
      have H:=H1
      clear H1
      obtain rfl:=Option.some.inj H
      have hnb198:=NB9_10.out
      have hnc198:=NB10_9.out
      have hnb199:=NB9_15.out
      have hnc199:=NB15_9.out
      have hnb200:=NB9_20.out
      have hnc200:=NB20_9.out
      have hcz201_0 : wc.cell? ⟨gb9,0,none⟩ = some (.slice Ao10 t1.length co10):=(blk_cell BK9.out 0).trans rfl
      have hfz201_0:=blk_frozen BK9.out 0
      have hnb202:=NB15_10.out
      have hnc202:=NB10_15.out
      have hnb203:=NB15_20.out
      have hnc203:=NB20_15.out
      have hcz204_0 : wc.cell? ⟨gb15,0,none⟩ = some (.slice Ao17 t11.length co17):=(blk_cell BK15.out 0).trans rfl
      have hfz204_0:=blk_frozen BK15.out 0
      go_wp2_with (first | ((with_reducible refine gate_callee (f:=28) rfl ?_);refine goesL_ (some 65) rfl rfl Try.func28 (by kernel_rfl) rfl #[.agg #[.slice Ao10 t1.length co10],.agg #[.slice Ao17 t11.length co17],.int .i64 t7,.int .i64 t8] rfl lm_ ?_;(with_reducible refine (impl_RaiseWhile.calls _ _ t1 _ _ t11 t7 t8 t23 t26 _ ?side1 ?side2 ?side3 ?side4 A76.out).mono ?_);(case side1=>exact cc_ (Kd.R_reads' Z10.out).2.2);(case side2=>exact (Kd.R_reads' Z10.out).2.1);(case side3=>exact cc_ (Kd.R_reads' Z16.out).2.2);(case side4=>exact (Kd.R_reads' Z16.out).2.1);rintro e w205 ⟨v24,rfl,ho0,hb⟩;refine ⟨_,rfl,?_⟩;have n0_:=rb_ Z10 hb;have n1_:=a0_ (Kd.R_elder' (rr_ Z11.out) (Kd.R_base ho0) hb);have n2_:=a0_ (Kd.R_elder' (rr_ Z16.out) (Kd.R_base ho0) hb);have n3_:=a0_ (Kd.R_elder' (rr_ Z21.out) (Kd.R_base ho0) hb);have n4_:=a0_ (Kd.R_lower (Kd.R_new' (Kd.R_new' (Kd.R_new' ho0 (Kd.R_lt (rr_ Z11.out))) (Kd.R_lt (rr_ Z16.out))) (Kd.R_lt (rr_ Z21.out))) (below_size hb_));have n5_:=kb_ BK9 hb;have n6_:=kb_ BK10 hb;have n7_:=kb_ BK15 hb;have n8_:=kb_ BK20 hb;have n9_:=a0_ (below_step hb_ hb);clear Z10 Z11;clear Z16 Z21;clear BK9 BK10;clear BK15 BK20 HB;have Z10:=n0_;have Z11:=n1_;have Z16:=n2_;have Z21:=n3_;have HO25:=n4_;have BK9:=n5_;have BK10:=n6_;have BK15:=n7_;have BK20:=n8_;have HB:=n9_;clear n0_ n1_ n2_ n3_ n4_ n5_ n6_ n7_ n8_ n9_;(try clear hb);(try clear ho0)) | ((with_reducible refine gate_dst (N:=11) rfl ?_);refine box_event ?hg (N:=11) ?hd (cs:=#[.slice none 0 0]) (t:=28) ?hr ?_;(case hd=>rfl);(case hg=>rfl);(case hr=>first | (go_simp;done) | (go_simp;rfl));intro gb27 hg w206 hbox hb;have n0_:=rb_ Z10 hb;have n1_:=rb_ Z11 hb;have n2_:=rb_ Z16 hb;have n3_:=rb_ Z21 hb;have n4_:=rb_ HO25 hb;have n5_:=kb_ BK9 hb;have n6_:=kb_ BK10 hb;have n7_:=kb_ BK15 hb;have n8_:=kb_ BK20 hb;have n9_:=a0_ (below_step hb_ hb);have n10_:=a0_ (hbox);have n11_:=a0_ ((by rw [hg];exact (below_size hb_) : w.heap.size ≤ gb27));have n12_:=a0_ ((by rw [hg];exact (below_size hb_) : w.heap.size ≤ gb27));have n13_:=a0_ ((by rw [hg];exact Nat.ne_of_lt (blk_lt (bb_ BK9.out)) : gb9 ≠ gb27));have n14_:=a0_ ((by rw [hg];exact Nat.ne_of_gt (blk_lt (bb_ BK9.out)) : gb27 ≠ gb9));have n15_:=a0_ ((by rw [hg];exact Nat.ne_of_lt (blk_lt (bb_ BK10.out)) : gb10 ≠ gb27));have n16_:=a0_ ((by rw [hg];exact Nat.ne_of_gt (blk_lt (bb_ BK10.out)) : gb27 ≠ gb10));have n17_:=a0_ ((by rw [hg];exact Nat.ne_of_lt (blk_lt (bb_ BK15.out)) : gb15 ≠ gb27));have n18_:=a0_ ((by rw [hg];exact Nat.ne_of_gt (blk_lt (bb_ BK15.out)) : gb27 ≠ gb15));have n19_:=a0_ ((by rw [hg];exact Nat.ne_of_lt (blk_lt (bb_ BK20.out)) : gb20 ≠ gb27));have n20_:=a0_ ((by rw [hg];exact Nat.ne_of_gt (blk_lt (bb_ BK20.out)) : gb27 ≠ gb20));clear Z10 Z11;clear Z16 Z21;clear HO25 BK9;clear BK10 BK15;clear BK20 HB;have Z10:=n0_;have Z11:=n1_;have Z16:=n2_;have Z21:=n3_;have HO25:=n4_;have BK9:=n5_;have BK10:=n6_;have BK15:=n7_;have BK20:=n8_;have HB:=n9_;have BK27:=n10_;have GW27:=n11_;have GE27:=n12_;have NB9_27:=n13_;have NB27_9:=n14_;have NB10_27:=n15_;have NB27_10:=n16_;have NB15_27:=n17_;have NB27_15:=n18_;have NB20_27:=n19_;have NB27_20:=n20_;clear n0_ n1_ n2_ n3_ n4_ n5_ n6_ n7_ n8_ n9_ n10_ n11_ n12_ n13_ n14_ n15_ n16_ n17_ n18_ n19_ n20_;clear hb hbox hg;obtain ⟨Ao207,co207,eo207⟩:=Kd.R_slice HO25.out;subst eo207;have hnb208:=NB27_9.out;have hnc208:=NB9_27.out;have hnb209:=NB27_10.out;have hnc209:=NB10_27.out;have hnb210:=NB27_15.out;have hnc210:=NB15_27.out;have hnb211:=NB27_20.out;have hnc211:=NB20_27.out;have hcz212_0 : w206.cell? ⟨gb27,0,none⟩ = some (.slice none 0 0):=(blk_cell BK27.out 0).trans rfl;have hfz212_0:=blk_frozen BK27.out 0;have hcz213_0 : w206.cell? ⟨gb9,0,none⟩ = some (.slice Ao10 t1.length co10):=(blk_cell BK9.out 0).trans rfl;have hfz213_0:=blk_frozen BK9.out 0;have hcz214_0 : w206.cell? ⟨gb15,0,none⟩ = some (.slice Ao17 t11.length co17):=(blk_cell BK15.out 0).trans rfl;have hfz214_0:=blk_frozen BK15.out 0) | ((with_reducible refine gate_callee (f:=30) rfl ?_);refine goesL_ (some 70) rfl rfl Try.func30 (by kernel_rfl) rfl #[.agg #[.slice Ao10 t1.length co10],.agg #[.slice Ao17 t11.length co17]] rfl lm_ ?_;(with_reducible refine (impl_ValidHeap.calls _ _ t1 _ _ t11 false _ ?side1 ?side2 ?side3 ?side4 A77.out).mono ?_);(case side1=>refine (Kd.R_reads' (e:=87) (base:=w.heap.size) (ok:=fun k_=>True) (n:=t1.length) (c:=co10) ?_).2.2;exact (by (with_reducible repeat (first | apply Kd.R_alloc | apply Kd.R_drewN | apply Kd.R_drew));exact (Kd.R_mono (Kd.R_far (p:=⟨gb27,0,none⟩) (Kd.R_types Z10.out BK27.out (by decide)) (fun _ hk=>hk.2) (.slice Ao207 t23.length co207)) (fun _ h_=>h_.1))));(case side2=>exact (Kd.R_reads' Z10.out).2.1);(case side3=>refine (Kd.R_reads' (e:=43) (base:=w.heap.size) (ok:=fun k_=>((some k_ ≠ (.slice Ao13 t4.length co13 : Value).ownBlock ∧ some k_ ≠ (.slice Ao25 t16.length co25 : Value).ownBlock) ∧ some k_ ≠ (.slice Ao207 t23.length co207 : Value).ownBlock)) (n:=t11.length) (c:=co17) ?_).2.2;exact (by (with_reducible repeat (first | apply Kd.R_alloc | apply Kd.R_drewN | apply Kd.R_drew));exact (Kd.R_mono (Kd.R_far (p:=⟨gb27,0,none⟩) (Kd.R_types Z16.out BK27.out (by decide)) (fun _ hk=>hk.2) (.slice Ao207 t23.length co207)) (fun _ h_=>h_.1))));(case side4=>exact (Kd.R_reads' Z16.out).2.1);rintro e w215 ⟨rfl,hb⟩;refine ⟨_,rfl,?_⟩;replace Z10:=a0_ (Kd.R_below (by (with_reducible repeat (first | apply Kd.R_alloc | apply Kd.R_drewN | apply Kd.R_drew));exact (Kd.R_mono (Kd.R_far (p:=⟨gb27,0,none⟩) (Kd.R_types Z10.out BK27.out (by decide)) (fun _ hk=>hk.2) (.slice Ao207 t23.length co207)) (fun _ h_=>h_.1))) hb);replace Z11:=a0_ (Kd.R_below (by (with_reducible repeat (first | apply Kd.R_alloc | apply Kd.R_drewN | apply Kd.R_drew));exact (Kd.R_mono (Kd.R_far (p:=⟨gb27,0,none⟩) (Kd.R_types Z11.out BK27.out (by decide)) (fun _ hk=>hk.2) (.slice Ao207 t23.length co207)) (fun _ h_=>h_.1))) hb);replace Z16:=a0_ (Kd.R_below (by (with_reducible repeat (first | apply Kd.R_alloc | apply Kd.R_drewN | apply Kd.R_drew));exact (Kd.R_mono (Kd.R_far (p:=⟨gb27,0,none⟩) (Kd.R_types Z16.out BK27.out (by decide)) (fun _ hk=>hk.2) (.slice Ao207 t23.length co207)) (fun _ h_=>h_.1))) hb);replace Z21:=a0_ (Kd.R_below (by (with_reducible repeat (first | apply Kd.R_alloc | apply Kd.R_drewN | apply Kd.R_drew));exact (Kd.R_mono (Kd.R_far (p:=⟨gb27,0,none⟩) (Kd.R_types Z21.out BK27.out (by decide)) (fun _ hk=>hk.2) (.slice Ao207 t23.length co207)) (fun _ h_=>h_.1))) hb);replace HO25:=a0_ (Kd.R_below (by (with_reducible repeat (first | apply Kd.R_alloc | apply Kd.R_drewN | apply Kd.R_drew));exact (Kd.R_mono (Kd.R_far (p:=⟨gb27,0,none⟩) (Kd.R_types HO25.out BK27.out (by decide)) (fun _ hk=>hk.2) (.slice Ao207 t23.length co207)) (fun _ h_=>h_.1))) hb);replace BK9:=kf_ BK9 NB9_27 hb;replace BK10:=kf_ BK10 NB10_27 hb;replace BK15:=kf_ BK15 NB15_27 hb;replace BK20:=kf_ BK20 NB20_27 hb;replace BK27:=a0_ (blk_below (g:=gb27) (o:=.cells #[.slice Ao207 t23.length co207] 28 (0,0)) (by (with_reducible repeat (first | refine blk_drewN ?_ _ | refine blk_drew ?_ | refine blk_alloc ?_ _));refine blk_put (cs:=#[.slice none 0 0]) ?_ 0 _ rfl;(with_reducible repeat (first | refine blk_drewN ?_ _ | refine blk_drew ?_ | refine blk_alloc ?_ _));exact BK27.out) hb);replace HB:=a0_ (below_step hb_ hb);(try clear hb);(try clear hb2);(try clear hk);(try clear hi)))
      go_ret
      exact ⟨by first | rfl | (simp [errW_none,errW_some] <;> rfl) | (simp [*,errW_none,errW_some] <;> rfl),hb_⟩
def laws_FnRaiseWhile.Pure : Prop:=∀ (l0 : List Int),l0.length ≤ maxLen → l0.length * 1 ≤ 140737488351232 → (∀ x ∈ l0,(Lit.int .u8 x).wf = true) → ∃ k,laws_FnRaiseWhile.f k l0 = some true
theorem laws_FnRaiseWhile.walk (P : laws_FnRaiseWhile.Pure) (a0 : Option Addr) (len0 cap0 : Nat) (z0 : List Int) (w : World) (w0 : (a0 = none ∧ len0 = 0 ∧ cap0 = 0 ∧ z0 = []) ∨ ∃ x,a0 = some x ∧ len0 ≤ cap0 ∧ cap0 ≤ maxLen ∧ z0.length = cap0 ∧ (∀ i,i < z0.length → w.cell? (x.add i) = some (.int .u8 (z0.getD i 0))) ∧ ∀ n ∈ z0,(Lit.int .u8 n).wf = true) (y0 : len0 * 1 ≤ 140737488351232) :
  Calls Try.prog 7 #[.slice a0 len0 cap0] w fun e w'=>e = .returned (.bool true) ∧ Below w.heap.size w w':=by
 obtain ⟨l0,rfl,hr0,hm0,hw0,hc0⟩:=ReadsInt.ofRowC w0
 obtain ⟨k,h⟩:=P l0 hm0 y0 hw0
 refine (laws_FnRaiseWhile.calls k _ _ l0 true w (Kd.C_of_reads (d:=(0 : Int)) (h1:=fun _=>rfl) hr0) hc0 h).mono ?_
 rintro e w' ⟨rfl,hd⟩
 exact ⟨rfl,hd⟩
end Go.Proofs.Ytmiholmfbjalfaa.P
namespace Go.Proofs.Ytmiholmfbjalfaa.Pure
open Go.RowKit Go.Proofs.Ytmiholmfbjalfaa.P
open Go.Proofs.YtmiholmfbjalfaaW.PrintWords (rd rdOf wrap_succ wrap_pred wrap_in toL_beq idxP)
set_option linter.unusedVariables false
theorem FnRaiseWhile : laws_FnRaiseWhile.Pure:=by
 intro l0 _ _ hw
 refine Ev.out (F:=fun k=>laws_FnRaiseWhile.f k l0) ?_
 unfold laws_FnRaiseWhile.f
 by_cases hbig : (l0.length : Int) > 1048576
 ·exact Ev.pos hbig (Ev.const rfl)
 refine Ev.neg hbig ?_
 obtain ⟨t,h,f,g,hd,ht,hs,hh⟩:=spec_DrawRaiseWhile_ev l0 hw
 have hI:=impl_RaiseWhile_ev t h f g hs (by omega)
 have hS:=spec_RaiseWhile_ev t h f g hs (by omega) (by omega)
 by_cases hc : ((vH t h && hasF h f) && hasF h g) = true
 ·have hr : raiP t h f g = (whlP h f g,true):=by unfold raiP;rw [if_pos hc]
  rw [hr] at hI hS
  have hl:=whlP_len h f g
  rw [Bool.and_eq_true] at hc
  obtain ⟨_,h0,h1⟩:=good_parts hc.1
  obtain ⟨g0,g1⟩:=hasF_in hc.2
  have hv:=(Bool.and_eq_true _ _ ▸ hc.1).1
  have hv2:=vH_whl hv h0 h1 g0 g1
  have ha:=whl_again hv h0 h1 g0 g1
  have hI2:=impl_RaiseWhile_ev t (whlP h f g) f g hs (by omega)
  have hr2 : raiP t (whlP h f g) f g = (whlP h f g,true):=by
   unfold raiP
   rw [if_pos,ha]
   rw [hv2]
   have e : ∀ x,hasF (whlP h f g) x = hasF h x:=fun x=>by unfold hasF;rw [hl]
   rw [e,e,hc.2]
   have:=hc.1
   rw [Bool.and_eq_true] at this
   rw [this.2]
   rfl
  rw [hr2] at hI2
  refine Ev.bind hd (Ev.bind (Ev.const hI) (Ev.bind hS (Ev.bind (laws_equalHeap_ev _ (show (whlP h f g).length ≤ 9223372036854775806 by omega)) (Ev.pos rfl (Ev.neg (by simp) (Ev.succ ?_))))))
  simp only [laws_FnRaiseWhile.j0]
  refine Ev.neg (by simp) (Ev.bind (Ev.const hI2) (Ev.bind (Ev.const (impl_ValidHeap_ev _ _ hs (by omega))) (Ev.pos hv2 (Ev.pos rfl (Ev.bind (laws_equalHeap_ev _ (show (whlP h f g).length ≤ 9223372036854775806 by omega)) (Ev.pos rfl ?_))))))
  by_cases e : f = g
  ·refine Ev.pos e ?_
   have e2 : whlP h f g = h:=by unfold whlP;rw [if_pos e]
   rw [e2]
   exact Ev.bind (laws_equalHeap_ev _ (by omega)) (Ev.pos rfl (Ev.const rfl))
  ·refine Ev.neg e (Ev.pos h0 (Ev.pos (by rw [hl];exact h1) (Ev.const ?_)))
   have:=whl_ctx hv h0 h1 e g1 f h0 h1
   rw [raiN,if_pos rfl] at this
   have e3 : (rd_T43 (whlP h f g) f).f3 = g:=this
   rw [e3]
   simp
 ·have hr : raiP t h f g = ([],false):=by unfold raiP;rw [if_neg hc]
  rw [hr] at hI hS
  refine Ev.bind hd (Ev.bind (Ev.const hI) (Ev.bind hS (Ev.bind (laws_equalHeap_ev _ (by simp)) (Ev.pos rfl (Ev.neg (by simp) (Ev.succ ?_))))))
  simp only [laws_FnRaiseWhile.j0]
  exact Ev.pos (by rfl) (Ev.bind (laws_equalHeap_ev _ (by simp)) (Ev.pos rfl (Ev.const rfl)))
end Go.Proofs.Ytmiholmfbjalfaa.Pure
