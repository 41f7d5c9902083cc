/- Texts under the proof of FnNewFault: helper words, the functions' contracts and the plain laws. No condition. -/
import Derived.Test.YtmiholmfbjalfaaQFnNewFaulta
import Derived.Test.YtmiholmfbjalfaaQFnNewFaultd
import Derived.Test.YtmiholmfbjalfaaQFnNewFaulte
namespace Go.Proofs.Ytmiholmfbjalfaa.P
open Go.RowKit Go.Proofs.YtmiholmfbjalfaaW.PrintWords Go.Proofs.YtmiholmfbjalfaaW.PrintLast Go.Proofs.YtmiholmfbjalfaaW.PrintMore
attribute [local go_sem] max2_int min2_int max_two min_two max_three min_three max_four min_four
set_option linter.unusedVariables false
set_option linter.unusedSimpArgs false
def laws_FnNewFault.j0 : Nat → Int → Int → Bool → Int → Bool → Bool → List (S87) → List (S43) → List (S43) → List (S43) → Option (Bool)
 | 0,_,_,_,_,_,_,_,_,_,_=>none
 | k + 1,x5,x8,x9,x11,x12,x58,x10000,x11000,x17000,x23000=>if x58 = true then ((laws_equalHeap.f k x17000 x23000).bind fun t24=>(if t24 = true then (if x8 = x11 then (some (x9 == x12)) else (some false)) else (some false))) else (if x8 = (x11000.length : Int) then ((impl_ShownChain.f x10000 x17000 x8).bind fun t25=>((laws_equalInts.f k t25 (([x8] : List Int))).bind fun t31=>(if t31 = true then (if 0 ≤ x8 then (if x8 ≤ (x17000.length : Int) then ((laws_equalHeap.f k (x17000.take (x8 : Int).toNat) x11000).bind fun t36=>(if t36 = true then (if x8 < (x17000.length : Int) then (some (((rd_T43 x17000 x8).f0) == x5)) else (none)) else (some false))) else (none)) else (none)) else (some false)))) else (some false))
def laws_FnNewFault.f (k : Nat) (l0 : List Int) : Option (Bool):=if (l0.length : Int) > 1048576 then (some true) else ((spec_DrawNewFault.f k l0).bind fun bt1=>((impl_NewFault.f bt1.1 bt1.2.1 bt1.2.2.1 bt1.2.2.2).bind fun bt11=>((spec_NewFault.f k bt1.1 bt1.2.1 bt1.2.2.1 bt1.2.2.2).bind fun bt17=>((laws_equalHeap.f k bt11.1 bt17.1).bind fun t23=>(if t23 = true then (if bt11.2.1 = bt17.2.1 then (if (bt11.2.2 != bt17.2.2) = true then (laws_FnNewFault.j0 k bt1.2.2.1 bt11.2.1 bt11.2.2 bt17.2.1 bt17.2.2 true bt1.1 bt1.2.1 bt11.1 bt17.1) else (laws_FnNewFault.j0 k bt1.2.2.1 bt11.2.1 bt11.2.2 bt17.2.1 bt17.2.2 (!bt11.2.2) bt1.1 bt1.2.1 bt11.1 bt17.1)) else (laws_FnNewFault.j0 k bt1.2.2.1 bt11.2.1 bt11.2.2 bt17.2.1 bt17.2.2 true bt1.1 bt1.2.1 bt11.1 bt17.1)) else (laws_FnNewFault.j0 k bt1.2.2.1 bt11.2.1 bt11.2.2 bt17.2.1 bt17.2.2 true bt1.1 bt1.2.1 bt11.1 bt17.1))))))
theorem laws_FnNewFault.mono_l : ∀ k,(∀ y0 y1 y2 y3 y4 y5 y6 y7 y8 y9,LeO (laws_FnNewFault.j0 k y0 y1 y2 y3 y4 y5 y6 y7 y8 y9) (laws_FnNewFault.j0 (k + 1) y0 y1 y2 y3 y4 y5 y6 y7 y8 y9))
 | 0=>fun _ _ _ _ _ _ _ _ _ _ r h=>by simp [laws_FnNewFault.j0] at h
 | k + 1=>by
  have ih0:=laws_FnNewFault.mono_l k
  ·intro y0 y1 y2 y3 y4 y5 y6 y7 y8 y9
   unfold laws_FnNewFault.j0
   repeat' first
   | (with_reducible exact ih0 _ _ _ _ _ _ _ _ _ _)
   | (with_reducible exact laws_equalHeap.mono _ _ _)
   | (with_reducible exact laws_equalInts.mono _ _ _)
   | (with_reducible exact spec_DrawNewFault.mono _ _)
   | (with_reducible exact spec_NewFault.mono _ _ _ _ _)
   | (with_reducible exact LeO.refl _)
   | (with_reducible exact LeO.none _)
   | (with_reducible refine LeO.ite ?_ ?_)
   | (with_reducible refine LeO.bind ?_ (fun _=>?_))
   | exact ih0 _ _ _ _ _ _ _ _ _ _
   | exact laws_equalHeap.mono _ _ _
   | exact laws_equalInts.mono _ _ _
   | exact spec_DrawNewFault.mono _ _
   | exact spec_NewFault.mono _ _ _ _ _
   | exact LeO.none _
   | refine LeO.ite ?_ ?_
   | refine LeO.bind ?_ (fun _=>?_)
theorem laws_FnNewFault.mono : ∀ a0 k,LeO (laws_FnNewFault.f k a0) (laws_FnNewFault.f (k + 1) a0):=by
 intro a0 k
 have ih0:=laws_FnNewFault.mono_l k
 unfold laws_FnNewFault.f
 repeat' first
   | (with_reducible exact ih0 _ _ _ _ _ _ _ _ _ _)
   | (with_reducible exact laws_equalHeap.mono _ _ _)
   | (with_reducible exact laws_equalInts.mono _ _ _)
   | (with_reducible exact spec_DrawNewFault.mono _ _)
   | (with_reducible exact spec_NewFault.mono _ _ _ _ _)
   | (with_reducible exact LeO.refl _)
   | (with_reducible exact LeO.none _)
   | (with_reducible refine LeO.ite ?_ ?_)
   | (with_reducible refine LeO.bind ?_ (fun _=>?_))
   | exact ih0 _ _ _ _ _ _ _ _ _ _
   | exact laws_equalHeap.mono _ _ _
   | exact laws_equalInts.mono _ _ _
   | exact spec_DrawNewFault.mono _ _
   | exact spec_NewFault.mono _ _ _ _ _
   | exact LeO.none _
   | refine LeO.ite ?_ ?_
   | refine LeO.bind ?_ (fun _=>?_)
theorem lit_C (W : World) (x : Int) : Kd.C (Kd.int .i64) (W.alloc (.cells #[.int .i64 x] 3)) (some ⟨W.heap.size,0,none⟩) 1 [x]:=by
 have hR : (Kd.int .i64).R 3 (W.alloc (.cells #[.int .i64 x] 3)) W.heap.size (fun _=>True) (.slice (some ⟨W.heap.size,0,none⟩) [x].length [x].length) [x]:=by
  refine ⟨fun _ _=>trivial,[.int .i64 x],?_,Reps.one (show Kd.M (Kd.int .i64) _ _ _ x [.int .i64 x] from rfl) (Reps.none _ _)⟩
  have h2:=World.ownsRowS_lit (base:=W.heap.size) (e:=3) (size:=1) W #[.int .i64 x] 1 (Nat.le_refl _) (by decide) rfl
  change World.ownsRowS (W.alloc (.cells #[.int .i64 x] 3)) W.heap.size 3 1 (.slice (some ⟨W.heap.size,0,none⟩) [x].length [x].length) [x].length [.int .i64 x]
  simpa using h2
 exact (Kd.R_reads' hR).2.2
set_option maxHeartbeats 8000000 in
set_option maxRecDepth 100000 in
theorem laws_FnNewFault.calls (k : Nat) (A0 : Option Addr) (c0 : Nat) (l0 : List Int) (r : Bool) (w : World) (hr0 : Kd.C (Kd.int .u8) w A0 l0.length l0) (hc0 : l0.length ≤ c0) (h : laws_FnNewFault.f k l0 = some r) (hrt : r = true:=by rfl) :
  Calls Try.prog 4 #[.slice A0 l0.length c0] w fun e w'=>e = .returned (.bool r) ∧ Below w.heap.size w w':=by
 have hu25:=Try.underlying25
 have hu28:=Try.underlying28
 have HR0:=a0_ hr0
 have HC0:=a0_ hc0
 clear hr0 hc0
 have HB:=a0_ (Below.refl w.heap.size w)
 have H : (if (l0.length : Int) > 1048576 then (some true) else ((spec_DrawNewFault.f k l0).bind fun bt1=>((impl_NewFault.f bt1.1 bt1.2.1 bt1.2.2.1 bt1.2.2.2).bind fun bt11=>((spec_NewFault.f k bt1.1 bt1.2.1 bt1.2.2.1 bt1.2.2.2).bind fun bt17=>((laws_equalHeap.f k bt11.1 bt17.1).bind fun t23=>(if t23 = true then (if bt11.2.1 = bt17.2.1 then (if (bt11.2.2 != bt17.2.2) = true then (laws_FnNewFault.j0 k bt1.2.2.1 bt11.2.1 bt11.2.2 bt17.2.1 bt17.2.2 true bt1.1 bt1.2.1 bt11.1 bt17.1) else (laws_FnNewFault.j0 k bt1.2.2.1 bt11.2.1 bt11.2.2 bt17.2.1 bt17.2.2 (!bt11.2.2) bt1.1 bt1.2.1 bt11.1 bt17.1)) else (laws_FnNewFault.j0 k bt1.2.2.1 bt11.2.1 bt11.2.2 bt17.2.1 bt17.2.2 true bt1.1 bt1.2.1 bt11.1 bt17.1)) else (laws_FnNewFault.j0 k bt1.2.2.1 bt11.2.1 bt11.2.2 bt17.2.1 bt17.2.2 true bt1.1 bt1.2.1 bt11.1 bt17.1))))))) = some r:=h
 clear h
 by_cases c2 : (l0.length : Int) > 1048576
 ·rw [if_pos c2] at H
  have c2b0 : decide (1048576 < (l0.length : Int)) = true:=decide_eq_true c2
  have c2b1 : decide (1048576 < l0.length) = true:=decide_eq_true (by omega)
  clear c2
  obtain rfl:=Option.some.inj H
  go_enter Try.func4,Try.ntmps4
  go_wp2
  go_ret
  exact ⟨by first | rfl | (simp [errW_none,errW_some] <;> rfl) | (simp [*,errW_none,errW_some] <;> rfl),hbw_⟩
 ·rw [if_neg c2] at H
  have c2b0 : decide (1048576 < (l0.length : Int)) = false:=decide_eq_false c2
  have c2b1 : decide (1048576 < l0.length) = false:=decide_eq_false (by omega)
  clear c2
  replace H:=Option.bind_eq_some_iff.mp H
  obtain ⟨⟨t1,t4,t7,t8⟩,A30,H⟩:=H
  try dsimp only at H
  have A3:=a0_ A30
  clear A30
  replace H:=Option.bind_eq_some_iff.mp H
  obtain ⟨⟨t11,t14,t15⟩,A40,H⟩:=H
  try dsimp only at H
  have A4:=a0_ A40
  clear A40
  replace H:=Option.bind_eq_some_iff.mp H
  obtain ⟨⟨t17,t20,t21⟩,A50,H⟩:=H
  try dsimp only at H
  have A5:=a0_ A50
  clear A50
  have HC6:=a0_ H
  clear H
  go_enter Try.func4,Try.ntmps4
  go_upto_region 6 with (first | ((with_reducible refine gate_callee (f:=16) rfl ?_);refine goesL_ (some 18) rfl rfl Try.func16 (by kernel_rfl) rfl #[.slice A0 l0.length c0] rfl lm_ ?_;(with_reducible refine (spec_DrawNewFault.calls k _ _ l0 t1 t4 t7 t8 _ ?side1 ?side2 A3.out).mono ?_);(case side1=>repeat (first | exact HR0.out | (with_reducible refine Kd.C_alloc ?_ _) | (with_reducible refine Kd.C_drewN ?_ _) | (with_reducible refine Kd.C_drew ?_)));(case side2=>exact HC0.out);rintro e w7 ⟨v2,v5,rfl,ho0,ho1,hb⟩;refine ⟨_,rfl,?_⟩;have HO3:=a0_ (Kd.R_lower ho0 (below_size hbw_));have HO6:=a0_ (Kd.R_lower ho1 (below_size hbw_));replace HB:=a0_ (below_step hbw_ hb);(try clear hb);(try clear ho0);(try clear ho1)) | ((with_reducible refine gate_dst (N:=3) rfl ?_);(try (refine gate_guard (by rfl) ?_;dsimp only));refine box_event ?hg (N:=3) ?hd (cs:=#[.slice none 0 0]) (t:=25) ?hr ?_;(case hd=>rfl);(case hg=>rfl);(case hr=>first | (go_simp;done) | (go_simp;rfl));intro gb9 hg w8 hbox hb;replace HO3:=rb_ HO3 hb;replace HO6:=rb_ HO6 hb;have BK9:=a0_ (hbox);have GW9:=a0_ ((by rw [hg];exact (below_size hbw_) : w.heap.size ≤ gb9));have GE9:=a0_ ((by rw [hg];exact (below_size hbw_) : w.heap.size ≤ gb9));replace HB:=a0_ (below_step hbw_ hb);clear hb hbox hg) | ((with_reducible refine gate_dst (N:=4) rfl ?_);(try (refine gate_guard (by rfl) ?_;dsimp only));refine box_event ?hg (N:=4) ?hd (cs:=#[.slice none 0 0]) (t:=28) ?hr ?_;(case hd=>rfl);(case hg=>rfl);(case hr=>first | (go_simp;done) | (go_simp;rfl));intro gb10 hg w9 hbox hb;have n0_:=rb_ HO3 hb;have n1_:=rb_ HO6 hb;have n2_:=kb_ BK9 hb;have n3_:=a0_ (below_step hbw_ hb);have n4_:=a0_ (hbox);have n5_:=a0_ ((by rw [hg];exact (below_size hbw_) : w.heap.size ≤ gb10));have n6_:=a0_ ((by rw [hg];exact (below_size hbw_) : w.heap.size ≤ gb10));have n7_:=a0_ ((by rw [hg];exact Nat.ne_of_lt (blk_lt (bb_ BK9.out)) : gb9 ≠ gb10));have n8_:=a0_ ((by rw [hg];exact Nat.ne_of_gt (blk_lt (bb_ BK9.out)) : gb10 ≠ gb9));clear HO3 HO6;clear BK9 HB;have HO3:=n0_;have HO6:=n1_;have BK9:=n2_;have HB:=n3_;have BK10:=n4_;have GW10:=n5_;have GE10:=n6_;have NB9_10:=n7_;have NB10_9:=n8_;clear n0_ n1_ n2_ n3_ n4_ n5_ n6_ n7_ n8_;clear hb hbox hg;obtain ⟨Ao10,co10,eo10⟩:=Kd.R_slice HO3.out;subst eo10;have hnb11:=NB9_10.out;have hnc11:=NB10_9.out;have hcz12_0 : w9.cell? ⟨gb9,0,none⟩ = some (.slice none 0 0):=(blk_cell BK9.out 0).trans rfl;have hfz12_0:=blk_frozen BK9.out 0;obtain ⟨Ao13,co13,eo13⟩:=Kd.R_slice HO6.out;subst eo13;have hcz14_0 : w9.cell? ⟨gb10,0,none⟩ = some (.slice none 0 0):=(blk_cell BK10.out 0).trans rfl;have hfz14_0:=blk_frozen BK10.out 0) | ((with_reducible refine gate_callee (f:=17) rfl ?_);refine goesL_ (some 28) rfl rfl Try.func17 (by kernel_rfl) rfl #[.agg #[.slice Ao10 t1.length co10],.agg #[.slice Ao13 t4.length co13],.int .i64 t7,.int .i64 t8] rfl lm_ ?_;(with_reducible refine (impl_NewFault.calls _ _ t1 _ _ t4 t7 t8 t11 t14 t15 _ ?side1 ?side2 ?side3 ?side4 A4.out).mono ?_);(case side1=>refine (Kd.R_reads' (e:=87) (base:=w.heap.size) (ok:=fun k_=>True) (n:=t1.length) (c:=co10) ?_).2.2;exact (by (with_reducible repeat (first | apply Kd.R_alloc | apply Kd.R_drewN | apply Kd.R_drew));exact (Kd.R_mono (Kd.R_mono (Kd.R_far (p:=⟨gb10,0,none⟩) (Kd.R_far (p:=⟨gb9,0,none⟩) (Kd.R_types (Kd.R_types HO3.out BK9.out (by decide)) BK10.out (by decide)) (fun _ hk=>hk.1.2) (.slice Ao10 t1.length co10)) (fun _ hk=>hk.2) (.slice Ao13 t4.length co13)) (fun _ h_=>h_.1)) (fun _ h_=>h_.1))));(case side2=>exact (Kd.R_reads' HO3.out).2.1);(case side3=>refine (Kd.R_reads' (e:=43) (base:=w.heap.size) (ok:=fun k_=>True) (n:=t4.length) (c:=co13) ?_).2.2;exact (by (with_reducible repeat (first | apply Kd.R_alloc | apply Kd.R_drewN | apply Kd.R_drew));exact (Kd.R_mono (Kd.R_mono (Kd.R_far (p:=⟨gb10,0,none⟩) (Kd.R_far (p:=⟨gb9,0,none⟩) (Kd.R_types (Kd.R_types HO6.out BK9.out (by decide)) BK10.out (by decide)) (fun _ hk=>hk.1.2) (.slice Ao10 t1.length co10)) (fun _ hk=>hk.2) (.slice Ao13 t4.length co13)) (fun _ h_=>h_.1)) (fun _ h_=>h_.1))));(case side4=>exact (Kd.R_reads' HO6.out).2.1);rintro e w15 ⟨v12,rfl,ho0,hb⟩;refine ⟨_,rfl,?_⟩;have n0_:=a0_ (Kd.R_below (by (with_reducible repeat (first | apply Kd.R_alloc | apply Kd.R_drewN | apply Kd.R_drew));exact (Kd.R_mono (Kd.R_mono (Kd.R_far (p:=⟨gb10,0,none⟩) (Kd.R_far (p:=⟨gb9,0,none⟩) (Kd.R_types (Kd.R_types HO3.out BK9.out (by decide)) BK10.out (by decide)) (fun _ hk=>hk.1.2) (.slice Ao10 t1.length co10)) (fun _ hk=>hk.2) (.slice Ao13 t4.length co13)) (fun _ h_=>h_.1)) (fun _ h_=>h_.1))) hb);have n1_:=a0_ (Kd.R_elder' (by (with_reducible repeat (first | apply Kd.R_alloc | apply Kd.R_drewN | apply Kd.R_drew));exact (Kd.R_mono (Kd.R_mono (Kd.R_far (p:=⟨gb10,0,none⟩) (Kd.R_far (p:=⟨gb9,0,none⟩) (Kd.R_types (Kd.R_types HO6.out BK9.out (by decide)) BK10.out (by decide)) (fun _ hk=>hk.1.2) (.slice Ao10 t1.length co10)) (fun _ hk=>hk.2) (.slice Ao13 t4.length co13)) (fun _ h_=>h_.1)) (fun _ h_=>h_.1))) (Kd.R_base ho0) hb);have n2_:=a0_ (Kd.R_lower (Kd.R_new' ho0 (Kd.R_lt (by (with_reducible repeat (first | apply Kd.R_alloc | apply Kd.R_drewN | apply Kd.R_drew));exact (Kd.R_mono (Kd.R_mono (Kd.R_far (p:=⟨gb10,0,none⟩) (Kd.R_far (p:=⟨gb9,0,none⟩) (Kd.R_types (Kd.R_types HO6.out BK9.out (by decide)) BK10.out (by decide)) (fun _ hk=>hk.1.2) (.slice Ao10 t1.length co10)) (fun _ hk=>hk.2) (.slice Ao13 t4.length co13)) (fun _ h_=>h_.1)) (fun _ h_=>h_.1))))) (below_size hbw_));have n3_:=a0_ (blk_below (g:=gb9) (o:=.cells #[.slice Ao10 t1.length co10] 25 (0,0)) (by (with_reducible repeat (first | refine blk_drewN ?_ _ | refine blk_drew ?_ | refine blk_alloc ?_ _));refine blk_far ?_ NB9_10.out _;(with_reducible repeat (first | refine blk_drewN ?_ _ | refine blk_drew ?_ | refine blk_alloc ?_ _));refine blk_put (cs:=#[.slice none 0 0]) ?_ 0 _ rfl;(with_reducible repeat (first | refine blk_drewN ?_ _ | refine blk_drew ?_ | refine blk_alloc ?_ _));exact BK9.out) hb);have n4_:=a0_ (blk_below (g:=gb10) (o:=.cells #[.slice Ao13 t4.length co13] 28 (0,0)) (by (with_reducible repeat (first | refine blk_drewN ?_ _ | refine blk_drew ?_ | refine blk_alloc ?_ _));refine blk_put (cs:=#[.slice none 0 0]) ?_ 0 _ rfl;(with_reducible repeat (first | refine blk_drewN ?_ _ | refine blk_drew ?_ | refine blk_alloc ?_ _));refine blk_far ?_ NB10_9.out _;(with_reducible repeat (first | refine blk_drewN ?_ _ | refine blk_drew ?_ | refine blk_alloc ?_ _));exact BK10.out) hb);have n5_:=a0_ (below_step hbw_ hb);clear HO3 HO6;clear BK9 BK10 HB;have HO3:=n0_;have HO6:=n1_;have HO13:=n2_;have BK9:=n3_;have BK10:=n4_;have HB:=n5_;clear n0_ n1_ n2_ n3_ n4_ n5_;(try clear hb);(try clear ho0)) | ((with_reducible refine gate_dst (N:=7) rfl ?_);(try (refine gate_guard (by rfl) ?_;dsimp only));refine box_event ?hg (N:=7) ?hd (cs:=#[.slice none 0 0]) (t:=28) ?hr ?_;(case hd=>rfl);(case hg=>rfl);(case hr=>first | (go_simp;done) | (go_simp;rfl));intro gb16 hg w16 hbox hb;have n0_:=rb_ HO3 hb;have n1_:=rb_ HO6 hb;have n2_:=rb_ HO13 hb;have n3_:=kb_ BK9 hb;have n4_:=kb_ BK10 hb;have n5_:=a0_ (below_step hbw_ hb);have n6_:=a0_ (hbox);have n7_:=a0_ ((by rw [hg];exact (below_size hbw_) : w.heap.size ≤ gb16));have n8_:=a0_ ((by rw [hg];exact (below_size hbw_) : w.heap.size ≤ gb16));have n9_:=a0_ ((by rw [hg];exact Nat.ne_of_lt (blk_lt (bb_ BK9.out)) : gb9 ≠ gb16));have n10_:=a0_ ((by rw [hg];exact Nat.ne_of_gt (blk_lt (bb_ BK9.out)) : gb16 ≠ gb9));have n11_:=a0_ ((by rw [hg];exact Nat.ne_of_lt (blk_lt (bb_ BK10.out)) : gb10 ≠ gb16));have n12_:=a0_ ((by rw [hg];exact Nat.ne_of_gt (blk_lt (bb_ BK10.out)) : gb16 ≠ gb10));clear HO3 HO6;clear HO13 BK9;clear BK10 HB;have HO3:=n0_;have HO6:=n1_;have HO13:=n2_;have BK9:=n3_;have BK10:=n4_;have HB:=n5_;have BK16:=n6_;have GW16:=n7_;have GE16:=n8_;have NB9_16:=n9_;have NB16_9:=n10_;have NB10_16:=n11_;have NB16_10:=n12_;clear n0_ n1_ n2_ n3_ n4_ n5_ n6_ n7_ n8_ n9_ n10_ n11_ n12_;clear hb hbox hg;obtain ⟨Ao17,co17,eo17⟩:=Kd.R_slice HO13.out;subst eo17;have hnb18:=NB16_9.out;have hnc18:=NB9_16.out;have hnb19:=NB16_10.out;have hnc19:=NB10_16.out;have hcz20_0 : w16.cell? ⟨gb16,0,none⟩ = some (.slice none 0 0):=(blk_cell BK16.out 0).trans rfl;have hfz20_0:=blk_frozen BK16.out 0;have hcz21_0 : w16.cell? ⟨gb9,0,none⟩ = some (.slice Ao10 t1.length co10):=(blk_cell BK9.out 0).trans rfl;have hfz21_0:=blk_frozen BK9.out 0;have hcz22_0 : w16.cell? ⟨gb10,0,none⟩ = some (.slice Ao13 t4.length co13):=(blk_cell BK10.out 0).trans rfl;have hfz22_0:=blk_frozen BK10.out 0) | ((with_reducible refine gate_callee (f:=18) rfl ?_);refine goesL_ (some 37) rfl rfl Try.func18 (by kernel_rfl) rfl #[.agg #[.slice Ao10 t1.length co10],.agg #[.slice Ao13 t4.length co13],.int .i64 t7,.int .i64 t8] rfl lm_ ?_;(with_reducible refine (spec_NewFault.calls k _ _ t1 _ _ t4 t7 t8 t17 t20 t21 _ ?side1 ?side2 ?side3 ?side4 A5.out).mono ?_);(case side1=>refine (Kd.R_reads' (e:=87) (base:=w.heap.size) (ok:=fun k_=>True) (n:=t1.length) (c:=co10) ?_).2.2;exact (by (with_reducible repeat (first | apply Kd.R_alloc | apply Kd.R_drewN | apply Kd.R_drew));exact (Kd.R_mono (Kd.R_far (p:=⟨gb16,0,none⟩) (Kd.R_types HO3.out BK16.out (by decide)) (fun _ hk=>hk.2) (.slice Ao17 t11.length co17)) (fun _ h_=>h_.1))));(case side2=>exact (Kd.R_reads' HO3.out).2.1);(case side3=>refine (Kd.R_reads' (e:=43) (base:=w.heap.size) (ok:=fun k_=>(True ∧ some k_ ≠ (.slice Ao17 t11.length co17 : Value).ownBlock)) (n:=t4.length) (c:=co13) ?_).2.2;exact (by (with_reducible repeat (first | apply Kd.R_alloc | apply Kd.R_drewN | apply Kd.R_drew));exact (Kd.R_mono (Kd.R_far (p:=⟨gb16,0,none⟩) (Kd.R_types HO6.out BK16.out (by decide)) (fun _ hk=>hk.2) (.slice Ao17 t11.length co17)) (fun _ h_=>h_.1))));(case side4=>exact (Kd.R_reads' HO6.out).2.1);rintro e w23 ⟨v18,rfl,ho0,hb⟩;refine ⟨_,rfl,?_⟩;have n0_:=a0_ (Kd.R_below (by (with_reducible repeat (first | apply Kd.R_alloc | apply Kd.R_drewN | apply Kd.R_drew));exact (Kd.R_mono (Kd.R_far (p:=⟨gb16,0,none⟩) (Kd.R_types HO3.out BK16.out (by decide)) (fun _ hk=>hk.2) (.slice Ao17 t11.length co17)) (fun _ h_=>h_.1))) hb);have n1_:=a0_ (Kd.R_elder' (by (with_reducible repeat (first | apply Kd.R_alloc | apply Kd.R_drewN | apply Kd.R_drew));exact (Kd.R_mono (Kd.R_far (p:=⟨gb16,0,none⟩) (Kd.R_types HO6.out BK16.out (by decide)) (fun _ hk=>hk.2) (.slice Ao17 t11.length co17)) (fun _ h_=>h_.1))) (Kd.R_base ho0) hb);have n2_:=a0_ (Kd.R_elder' (by (with_reducible repeat (first | apply Kd.R_alloc | apply Kd.R_drewN | apply Kd.R_drew));exact (Kd.R_mono (Kd.R_far (p:=⟨gb16,0,none⟩) (Kd.R_types HO13.out BK16.out (by decide)) (fun _ hk=>hk.2) (.slice Ao17 t11.length co17)) (fun _ h_=>h_.1))) (Kd.R_base ho0) hb);have n3_:=a0_ (Kd.R_lower (Kd.R_new' (Kd.R_new' ho0 (Kd.R_lt (by (with_reducible repeat (first | apply Kd.R_alloc | apply Kd.R_drewN | apply Kd.R_drew));exact (Kd.R_mono (Kd.R_far (p:=⟨gb16,0,none⟩) (Kd.R_types HO6.out BK16.out (by decide)) (fun _ hk=>hk.2) (.slice Ao17 t11.length co17)) (fun _ h_=>h_.1))))) (Kd.R_lt (by (with_reducible repeat (first | apply Kd.R_alloc | apply Kd.R_drewN | apply Kd.R_drew));exact (Kd.R_mono (Kd.R_far (p:=⟨gb16,0,none⟩) (Kd.R_types HO13.out BK16.out (by decide)) (fun _ hk=>hk.2) (.slice Ao17 t11.length co17)) (fun _ h_=>h_.1))))) (below_size hbw_));have n4_:=kf_ BK9 NB9_16 hb;have n5_:=kf_ BK10 NB10_16 hb;have n6_:=a0_ (blk_below (g:=gb16) (o:=.cells #[.slice Ao17 t11.length co17] 28 (0,0)) (by (with_reducible repeat (first | refine blk_drewN ?_ _ | refine blk_drew ?_ | refine blk_alloc ?_ _));refine blk_put (cs:=#[.slice none 0 0]) ?_ 0 _ rfl;(with_reducible repeat (first | refine blk_drewN ?_ _ | refine blk_drew ?_ | refine blk_alloc ?_ _));exact BK16.out) hb);have n7_:=a0_ (below_step hbw_ hb);clear HO3 HO6;clear HO13 BK9;clear BK10 BK16 HB;have HO3:=n0_;have HO6:=n1_;have HO13:=n2_;have HO19:=n3_;have BK9:=n4_;have BK10:=n5_;have BK16:=n6_;have HB:=n7_;clear n0_ n1_ n2_ n3_ n4_ n5_ n6_ n7_;(try clear hb);(try clear ho0)) | ((with_reducible refine gate_dst (N:=10) rfl ?_);(try (refine gate_guard (by rfl) ?_;dsimp only));refine box_event ?hg (N:=10) ?hd (cs:=#[.slice none 0 0]) (t:=28) ?hr ?_;(case hd=>rfl);(case hg=>rfl);(case hr=>first | (go_simp;done) | (go_simp;rfl));intro gb22 hg w24 hbox hb;have n0_:=rb_ HO3 hb;have n1_:=rb_ HO6 hb;have n2_:=rb_ HO13 hb;have n3_:=rb_ HO19 hb;have n4_:=kb_ BK9 hb;have n5_:=kb_ BK10 hb;have n6_:=kb_ BK16 hb;have n7_:=a0_ (below_step hbw_ hb);have n8_:=a0_ (hbox);have n9_:=a0_ ((by rw [hg];exact (below_size hbw_) : w.heap.size ≤ gb22));have n10_:=a0_ ((by rw [hg];exact (below_size hbw_) : w.heap.size ≤ gb22));have n11_:=a0_ ((by rw [hg];exact Nat.ne_of_lt (blk_lt (bb_ BK9.out)) : gb9 ≠ gb22));have n12_:=a0_ ((by rw [hg];exact Nat.ne_of_gt (blk_lt (bb_ BK9.out)) : gb22 ≠ gb9));have n13_:=a0_ ((by rw [hg];exact Nat.ne_of_lt (blk_lt (bb_ BK10.out)) : gb10 ≠ gb22));have n14_:=a0_ ((by rw [hg];exact Nat.ne_of_gt (blk_lt (bb_ BK10.out)) : gb22 ≠ gb10));have n15_:=a0_ ((by rw [hg];exact Nat.ne_of_lt (blk_lt (bb_ BK16.out)) : gb16 ≠ gb22));have n16_:=a0_ ((by rw [hg];exact Nat.ne_of_gt (blk_lt (bb_ BK16.out)) : gb22 ≠ gb16));clear HO3 HO6;clear HO13 HO19;clear BK9 BK10;clear BK16 HB;have HO3:=n0_;have HO6:=n1_;have HO13:=n2_;have HO19:=n3_;have BK9:=n4_;have BK10:=n5_;have BK16:=n6_;have HB:=n7_;have BK22:=n8_;have GW22:=n9_;have GE22:=n10_;have NB9_22:=n11_;have NB22_9:=n12_;have NB10_22:=n13_;have NB22_10:=n14_;have NB16_22:=n15_;have NB22_16:=n16_;clear n0_ n1_ n2_ n3_ n4_ n5_ n6_ n7_ n8_ n9_ n10_ n11_ n12_ n13_ n14_ n15_ n16_;clear hb hbox hg;obtain ⟨Ao25,co25,eo25⟩:=Kd.R_slice HO19.out;subst eo25;have hnb26:=NB22_9.out;have hnc26:=NB9_22.out;have hnb27:=NB22_10.out;have hnc27:=NB10_22.out;have hnb28:=NB22_16.out;have hnc28:=NB16_22.out;have hcz29_0 : w24.cell? ⟨gb22,0,none⟩ = some (.slice none 0 0):=(blk_cell BK22.out 0).trans rfl;have hfz29_0:=blk_frozen BK22.out 0))
  (try simp only [Act.put,s1_,s2_,s3_])
  go_cut [58] (fun v58 wc=>∃ (kq : Nat) (x58_5 : Bool),v58 = .bool x58_5 ∧ Aside0 (laws_FnNewFault.j0 kq t7 t14 t15 t20 t21 x58_5 t1 t4 t11 t17 = some r) ∧ Aside0 (kq ≤ k) ∧ Aside0 (Kd.R k87 87 wc w.heap.size (fun _=>True) (.slice Ao10 t1.length co10) t1) ∧ Aside0 (Kd.R k43 43 wc w.heap.size (fun k_=>some k_ ≠ ((.slice Ao17 t11.length co17) : Value).ownBlock ∧ some k_ ≠ ((.slice Ao25 t17.length co25) : Value).ownBlock) (.slice Ao13 t4.length co13) t4) ∧ Aside0 (Kd.R k43 43 wc w.heap.size (fun k_=>some k_ ≠ ((.slice Ao13 t4.length co13) : Value).ownBlock ∧ some k_ ≠ ((.slice Ao25 t17.length co25) : Value).ownBlock) (.slice Ao17 t11.length co17) t11) ∧ Aside0 (Kd.R k43 43 wc w.heap.size (fun k_=>some k_ ≠ ((.slice Ao13 t4.length co13) : Value).ownBlock ∧ some k_ ≠ ((.slice Ao17 t11.length co17) : Value).ownBlock) (.slice Ao25 t17.length co25) t17) ∧ Aside0 (wc.heap[gb9]? = some (.cells #[(.slice Ao10 t1.length co10)] 25 (0,0))) ∧ Aside0 (wc.heap[gb10]? = some (.cells #[(.slice Ao13 t4.length co13)] 28 (0,0))) ∧ Aside0 (wc.heap[gb16]? = some (.cells #[(.slice Ao17 t11.length co17)] 28 (0,0))) ∧ Aside0 (wc.heap[gb22]? = some (.cells #[(.slice Ao25 t17.length co25)] 28 (0,0))) ∧ Aside0 (Below w.heap.size w wc))
  case first =>
   have H:=HC6.out
   clear HC6
   replace H:=Option.bind_eq_some_iff.mp H
   obtain ⟨t23,A300,H⟩:=H
   try dsimp only at H
   have A30:=a0_ A300
   clear A300
   by_cases c31 : t23 = true
   ·subst c31
    have H1 : (if t14 = t20 then (if (t15 != t21) = true then (laws_FnNewFault.j0 k t7 t14 t15 t20 t21 true t1 t4 t11 t17) else (laws_FnNewFault.j0 k t7 t14 t15 t20 t21 (!t15) t1 t4 t11 t17)) else (laws_FnNewFault.j0 k t7 t14 t15 t20 t21 true t1 t4 t11 t17)) = some r:=by rw [if_pos rfl] at H;exact H
    clear H
    have H:=H1
    clear H1
    by_cases c32 : t14 = t20
    ·rw [if_pos c32] at H
     have c32b0 : (t14 == t20) = true:=beq_iff_eq.mpr c32
     have c32b1 : (t14 != t20) = false:=bne_eq_false_iff_eq.mpr c32
     clear c32
     (first | rw [c32b0] | (simp only [i64_w,i32_w];rw [c32b0]) | skip)
     by_cases c33 : (t15 != t21) = true
     ·rw [if_pos c33] at H
      have c33b0 : (t15 != t21) = true:=c33
      (try (have c33b1 : decide (t15 = t21) = false:=by simpa using c33))
      (try (have c33b2 : (t15 == t21) = false:=by simpa using c33))
      (try (have c33b3 : ¬ (t15 = t21):=by simpa using c33))
      clear c33
      have H':=a0_ H
      clear H
      have hnb34:=NB16_9.out
      have hnc34:=NB9_16.out
      have hnb35:=NB16_10.out
      have hnc35:=NB10_16.out
      have hnb36:=NB16_22.out
      have hnc36:=NB22_16.out
      have hcz37_0 : w24.cell? ⟨gb16,0,none⟩ = some (.slice Ao17 t11.length co17):=(blk_cell BK16.out 0).trans rfl
      have hfz37_0:=blk_frozen BK16.out 0
      have hnb38:=NB22_9.out
      have hnc38:=NB9_22.out
      have hnb39:=NB22_10.out
      have hnc39:=NB10_22.out
      have hcz40_0 : w24.cell? ⟨gb22,0,none⟩ = some (.slice none 0 0):=(blk_cell BK22.out 0).trans rfl
      have hfz40_0:=blk_frozen BK22.out 0
      go_wp2_with (first | ((with_reducible refine gate_callee (f:=19) rfl ?_);refine goesL_ (some 43) rfl rfl Try.func19 (by kernel_rfl) rfl #[.agg #[.slice Ao17 t11.length co17],.agg #[.slice Ao25 t17.length co25]] rfl lm_ ?_;(with_reducible refine (laws_equalHeap.calls k _ _ t11 _ _ t17 true _ ?side1 ?side2 ?side3 ?side4 A30.out).mono ?_);(case side1=>refine (Kd.R_reads' (e:=43) (base:=w.heap.size) (ok:=fun k_=>((True ∧ some k_ ≠ (.slice Ao13 t4.length co13 : Value).ownBlock) ∧ some k_ ≠ (.slice Ao25 t17.length co25 : Value).ownBlock)) (n:=t11.length) (c:=co17) ?_).2.2;exact (by (with_reducible repeat (first | apply Kd.R_alloc | apply Kd.R_drewN | apply Kd.R_drew));exact (Kd.R_mono (Kd.R_far (p:=⟨gb22,0,none⟩) (Kd.R_types HO13.out BK22.out (by decide)) (fun _ hk=>hk.2) (.slice Ao25 t17.length co25)) (fun _ h_=>h_.1))));(case side2=>exact (Kd.R_reads' HO13.out).2.1);(case side3=>refine (Kd.R_reads' (e:=43) (base:=w.heap.size) (ok:=fun k_=>((True ∧ some k_ ≠ (.slice Ao13 t4.length co13 : Value).ownBlock) ∧ some k_ ≠ (.slice Ao17 t11.length co17 : Value).ownBlock)) (n:=t17.length) (c:=co25) ?_).2.2;exact (by (with_reducible repeat (first | apply Kd.R_alloc | apply Kd.R_drewN | apply Kd.R_drew));exact (Kd.R_mono (Kd.R_far (p:=⟨gb22,0,none⟩) (Kd.R_types HO19.out BK22.out (by decide)) (fun _ hk=>hk.2) (.slice Ao25 t17.length co25)) (fun _ h_=>h_.1))));(case side4=>exact (Kd.R_reads' HO19.out).2.1);rintro e w41 ⟨rfl,hb⟩;refine ⟨_,rfl,?_⟩;replace HO3:=a0_ (Kd.R_below (by (with_reducible repeat (first | apply Kd.R_alloc | apply Kd.R_drewN | apply Kd.R_drew));exact (Kd.R_mono (Kd.R_far (p:=⟨gb22,0,none⟩) (Kd.R_types HO3.out BK22.out (by decide)) (fun _ hk=>hk.2) (.slice Ao25 t17.length co25)) (fun _ h_=>h_.1))) hb);replace HO6:=a0_ (Kd.R_below (by (with_reducible repeat (first | apply Kd.R_alloc | apply Kd.R_drewN | apply Kd.R_drew));exact (Kd.R_mono (Kd.R_far (p:=⟨gb22,0,none⟩) (Kd.R_types HO6.out BK22.out (by decide)) (fun _ hk=>hk.2) (.slice Ao25 t17.length co25)) (fun _ h_=>h_.1))) hb);replace HO13:=a0_ (Kd.R_below (by (with_reducible repeat (first | apply Kd.R_alloc | apply Kd.R_drewN | apply Kd.R_drew));exact (Kd.R_mono (Kd.R_far (p:=⟨gb22,0,none⟩) (Kd.R_types HO13.out BK22.out (by decide)) (fun _ hk=>hk.2) (.slice Ao25 t17.length co25)) (fun _ h_=>h_.1))) hb);replace HO19:=a0_ (Kd.R_below (by (with_reducible repeat (first | apply Kd.R_alloc | apply Kd.R_drewN | apply Kd.R_drew));exact (Kd.R_mono (Kd.R_far (p:=⟨gb22,0,none⟩) (Kd.R_types HO19.out BK22.out (by decide)) (fun _ hk=>hk.2) (.slice Ao25 t17.length co25)) (fun _ h_=>h_.1))) hb);replace BK9:=kf_ BK9 NB9_22 hb;replace BK10:=kf_ BK10 NB10_22 hb;replace BK16:=kf_ BK16 NB16_22 hb;replace BK22:=a0_ (blk_below (g:=gb22) (o:=.cells #[.slice Ao25 t17.length co25] 28 (0,0)) (by (with_reducible repeat (first | refine blk_drewN ?_ _ | refine blk_drew ?_ | refine blk_alloc ?_ _));refine blk_put (cs:=#[.slice none 0 0]) ?_ 0 _ rfl;(with_reducible repeat (first | refine blk_drewN ?_ _ | refine blk_drew ?_ | refine blk_alloc ?_ _));exact BK22.out) hb);replace HB:=a0_ (below_step hbw_ hb);(try clear hb);(try clear hb2);(try clear hk);(try clear hi)))
      go_meet
      case rel=>exact ⟨_,(true),(by first | rfl | (simp;done) | (simp [*];done)),H',⟨by first | omega | exact Nat.le_refl _⟩,⟨by (with_reducible repeat (first | apply Kd.R_alloc | apply Kd.R_drewN | apply Kd.R_drew));exact HO3.out⟩,⟨by (with_reducible repeat (first | apply Kd.R_alloc | apply Kd.R_drewN | apply Kd.R_drew));exact Kd.R_mono HO6.out (fun _ hk=>⟨hk.1.2,hk.2⟩)⟩,⟨by (with_reducible repeat (first | apply Kd.R_alloc | apply Kd.R_drewN | apply Kd.R_drew));exact Kd.R_mono HO13.out (fun _ hk=>⟨hk.1.2,hk.2⟩)⟩,⟨by (with_reducible repeat (first | apply Kd.R_alloc | apply Kd.R_drewN | apply Kd.R_drew));exact Kd.R_mono HO19.out (fun _ hk=>⟨hk.1.2,hk.2⟩)⟩,⟨by (with_reducible repeat (first | refine blk_drewN ?_ _ | refine blk_drew ?_ | refine blk_alloc ?_ _));exact BK9.out⟩,⟨by (with_reducible repeat (first | refine blk_drewN ?_ _ | refine blk_drew ?_ | refine blk_alloc ?_ _));exact BK10.out⟩,⟨by (with_reducible repeat (first | refine blk_drewN ?_ _ | refine blk_drew ?_ | refine blk_alloc ?_ _));exact BK16.out⟩,⟨by (with_reducible repeat (first | refine blk_drewN ?_ _ | refine blk_drew ?_ | refine blk_alloc ?_ _));exact BK22.out⟩,⟨hbw_⟩⟩
     ·rw [if_neg c33] at H
      have c33b0 : (t15 != t21) = false:=by simpa using c33
      (try (have c33b1 : decide (t15 = t21) = true:=by simpa using c33))
      (try (have c33b2 : (t15 == t21) = true:=by simpa using c33))
      clear c33
      have H':=a0_ H
      clear H
      have hnb42:=NB16_9.out
      have hnc42:=NB9_16.out
      have hnb43:=NB16_10.out
      have hnc43:=NB10_16.out
      have hnb44:=NB16_22.out
      have hnc44:=NB22_16.out
      have hcz45_0 : w24.cell? ⟨gb16,0,none⟩ = some (.slice Ao17 t11.length co17):=(blk_cell BK16.out 0).trans rfl
      have hfz45_0:=blk_frozen BK16.out 0
      have hnb46:=NB22_9.out
      have hnc46:=NB9_22.out
      have hnb47:=NB22_10.out
      have hnc47:=NB10_22.out
      have hcz48_0 : w24.cell? ⟨gb22,0,none⟩ = some (.slice none 0 0):=(blk_cell BK22.out 0).trans rfl
      have hfz48_0:=blk_frozen BK22.out 0
      go_wp2_with (first | ((with_reducible refine gate_callee (f:=19) rfl ?_);refine goesL_ (some 43) rfl rfl Try.func19 (by kernel_rfl) rfl #[.agg #[.slice Ao17 t11.length co17],.agg #[.slice Ao25 t17.length co25]] rfl lm_ ?_;(with_reducible refine (laws_equalHeap.calls k _ _ t11 _ _ t17 true _ ?side1 ?side2 ?side3 ?side4 A30.out).mono ?_);(case side1=>refine (Kd.R_reads' (e:=43) (base:=w.heap.size) (ok:=fun k_=>((True ∧ some k_ ≠ (.slice Ao13 t4.length co13 : Value).ownBlock) ∧ some k_ ≠ (.slice Ao25 t17.length co25 : Value).ownBlock)) (n:=t11.length) (c:=co17) ?_).2.2;exact (by (with_reducible repeat (first | apply Kd.R_alloc | apply Kd.R_drewN | apply Kd.R_drew));exact (Kd.R_mono (Kd.R_far (p:=⟨gb22,0,none⟩) (Kd.R_types HO13.out BK22.out (by decide)) (fun _ hk=>hk.2) (.slice Ao25 t17.length co25)) (fun _ h_=>h_.1))));(case side2=>exact (Kd.R_reads' HO13.out).2.1);(case side3=>refine (Kd.R_reads' (e:=43) (base:=w.heap.size) (ok:=fun k_=>((True ∧ some k_ ≠ (.slice Ao13 t4.length co13 : Value).ownBlock) ∧ some k_ ≠ (.slice Ao17 t11.length co17 : Value).ownBlock)) (n:=t17.length) (c:=co25) ?_).2.2;exact (by (with_reducible repeat (first | apply Kd.R_alloc | apply Kd.R_drewN | apply Kd.R_drew));exact (Kd.R_mono (Kd.R_far (p:=⟨gb22,0,none⟩) (Kd.R_types HO19.out BK22.out (by decide)) (fun _ hk=>hk.2) (.slice Ao25 t17.length co25)) (fun _ h_=>h_.1))));(case side4=>exact (Kd.R_reads' HO19.out).2.1);rintro e w49 ⟨rfl,hb⟩;refine ⟨_,rfl,?_⟩;replace HO3:=a0_ (Kd.R_below (by (with_reducible repeat (first | apply Kd.R_alloc | apply Kd.R_drewN | apply Kd.R_drew));exact (Kd.R_mono (Kd.R_far (p:=⟨gb22,0,none⟩) (Kd.R_types HO3.out BK22.out (by decide)) (fun _ hk=>hk.2) (.slice Ao25 t17.length co25)) (fun _ h_=>h_.1))) hb);replace HO6:=a0_ (Kd.R_below (by (with_reducible repeat (first | apply Kd.R_alloc | apply Kd.R_drewN | apply Kd.R_drew));exact (Kd.R_mono (Kd.R_far (p:=⟨gb22,0,none⟩) (Kd.R_types HO6.out BK22.out (by decide)) (fun _ hk=>hk.2) (.slice Ao25 t17.length co25)) (fun _ h_=>h_.1))) hb);replace HO13:=a0_ (Kd.R_below (by (with_reducible repeat (first | apply Kd.R_alloc | apply Kd.R_drewN | apply Kd.R_drew));exact (Kd.R_mono (Kd.R_far (p:=⟨gb22,0,none⟩) (Kd.R_types HO13.out BK22.out (by decide)) (fun _ hk=>hk.2) (.slice Ao25 t17.length co25)) (fun _ h_=>h_.1))) hb);replace HO19:=a0_ (Kd.R_below (by (with_reducible repeat (first | apply Kd.R_alloc | apply Kd.R_drewN | apply Kd.R_drew));exact (Kd.R_mono (Kd.R_far (p:=⟨gb22,0,none⟩) (Kd.R_types HO19.out BK22.out (by decide)) (fun _ hk=>hk.2) (.slice Ao25 t17.length co25)) (fun _ h_=>h_.1))) hb);replace BK9:=kf_ BK9 NB9_22 hb;replace BK10:=kf_ BK10 NB10_22 hb;replace BK16:=kf_ BK16 NB16_22 hb;replace BK22:=a0_ (blk_below (g:=gb22) (o:=.cells #[.slice Ao25 t17.length co25] 28 (0,0)) (by (with_reducible repeat (first | refine blk_drewN ?_ _ | refine blk_drew ?_ | refine blk_alloc ?_ _));refine blk_put (cs:=#[.slice none 0 0]) ?_ 0 _ rfl;(with_reducible repeat (first | refine blk_drewN ?_ _ | refine blk_drew ?_ | refine blk_alloc ?_ _));exact BK22.out) hb);replace HB:=a0_ (below_step hbw_ hb);(try clear hb);(try clear hb2);(try clear hk);(try clear hi)))
      go_meet
      case rel=>exact ⟨_,(!t15),(by first | rfl | (simp;done) | (simp [*];done)),H',⟨by first | omega | exact Nat.le_refl _⟩,⟨by (with_reducible repeat (first | apply Kd.R_alloc | apply Kd.R_drewN | apply Kd.R_drew));exact HO3.out⟩,⟨by (with_reducible repeat (first | apply Kd.R_alloc | apply Kd.R_drewN | apply Kd.R_drew));exact Kd.R_mono HO6.out (fun _ hk=>⟨hk.1.2,hk.2⟩)⟩,⟨by (with_reducible repeat (first | apply Kd.R_alloc | apply Kd.R_drewN | apply Kd.R_drew));exact Kd.R_mono HO13.out (fun _ hk=>⟨hk.1.2,hk.2⟩)⟩,⟨by (with_reducible repeat (first | apply Kd.R_alloc | apply Kd.R_drewN | apply Kd.R_drew));exact Kd.R_mono HO19.out (fun _ hk=>⟨hk.1.2,hk.2⟩)⟩,⟨by (with_reducible repeat (first | refine blk_drewN ?_ _ | refine blk_drew ?_ | refine blk_alloc ?_ _));exact BK9.out⟩,⟨by (with_reducible repeat (first | refine blk_drewN ?_ _ | refine blk_drew ?_ | refine blk_alloc ?_ _));exact BK10.out⟩,⟨by (with_reducible repeat (first | refine blk_drewN ?_ _ | refine blk_drew ?_ | refine blk_alloc ?_ _));exact BK16.out⟩,⟨by (with_reducible repeat (first | refine blk_drewN ?_ _ | refine blk_drew ?_ | refine blk_alloc ?_ _));exact BK22.out⟩,⟨hbw_⟩⟩
    ·rw [if_neg c32] at H
     have c32b0 : (t14 == t20) = false:=beq_eq_false_iff_ne.mpr c32
     have c32b1 : (t14 != t20) = true:=bne_iff_ne.mpr c32
     (first | rw [c32b0] | (simp only [i64_w,i32_w];rw [c32b0]) | skip)
     have H':=a0_ H
     clear H
     have hnb50:=NB16_9.out
     have hnc50:=NB9_16.out
     have hnb51:=NB16_10.out
     have hnc51:=NB10_16.out
     have hnb52:=NB16_22.out
     have hnc52:=NB22_16.out
     have hcz53_0 : w24.cell? ⟨gb16,0,none⟩ = some (.slice Ao17 t11.length co17):=(blk_cell BK16.out 0).trans rfl
     have hfz53_0:=blk_frozen BK16.out 0
     have hnb54:=NB22_9.out
     have hnc54:=NB9_22.out
     have hnb55:=NB22_10.out
     have hnc55:=NB10_22.out
     have hcz56_0 : w24.cell? ⟨gb22,0,none⟩ = some (.slice none 0 0):=(blk_cell BK22.out 0).trans rfl
     have hfz56_0:=blk_frozen BK22.out 0
     go_wp2_with (first | ((with_reducible refine gate_callee (f:=19) rfl ?_);refine goesL_ (some 43) rfl rfl Try.func19 (by kernel_rfl) rfl #[.agg #[.slice Ao17 t11.length co17],.agg #[.slice Ao25 t17.length co25]] rfl lm_ ?_;(with_reducible refine (laws_equalHeap.calls k _ _ t11 _ _ t17 true _ ?side1 ?side2 ?side3 ?side4 A30.out).mono ?_);(case side1=>refine (Kd.R_reads' (e:=43) (base:=w.heap.size) (ok:=fun k_=>((True ∧ some k_ ≠ (.slice Ao13 t4.length co13 : Value).ownBlock) ∧ some k_ ≠ (.slice Ao25 t17.length co25 : Value).ownBlock)) (n:=t11.length) (c:=co17) ?_).2.2;exact (by (with_reducible repeat (first | apply Kd.R_alloc | apply Kd.R_drewN | apply Kd.R_drew));exact (Kd.R_mono (Kd.R_far (p:=⟨gb22,0,none⟩) (Kd.R_types HO13.out BK22.out (by decide)) (fun _ hk=>hk.2) (.slice Ao25 t17.length co25)) (fun _ h_=>h_.1))));(case side2=>exact (Kd.R_reads' HO13.out).2.1);(case side3=>refine (Kd.R_reads' (e:=43) (base:=w.heap.size) (ok:=fun k_=>((True ∧ some k_ ≠ (.slice Ao13 t4.length co13 : Value).ownBlock) ∧ some k_ ≠ (.slice Ao17 t11.length co17 : Value).ownBlock)) (n:=t17.length) (c:=co25) ?_).2.2;exact (by (with_reducible repeat (first | apply Kd.R_alloc | apply Kd.R_drewN | apply Kd.R_drew));exact (Kd.R_mono (Kd.R_far (p:=⟨gb22,0,none⟩) (Kd.R_types HO19.out BK22.out (by decide)) (fun _ hk=>hk.2) (.slice Ao25 t17.length co25)) (fun _ h_=>h_.1))));(case side4=>exact (Kd.R_reads' HO19.out).2.1);rintro e w57 ⟨rfl,hb⟩;refine ⟨_,rfl,?_⟩;replace HO3:=a0_ (Kd.R_below (by (with_reducible repeat (first | apply Kd.R_alloc | apply Kd.R_drewN | apply Kd.R_drew));exact (Kd.R_mono (Kd.R_far (p:=⟨gb22,0,none⟩) (Kd.R_types HO3.out BK22.out (by decide)) (fun _ hk=>hk.2) (.slice Ao25 t17.length co25)) (fun _ h_=>h_.1))) hb);replace HO6:=a0_ (Kd.R_below (by (with_reducible repeat (first | apply Kd.R_alloc | apply Kd.R_drewN | apply Kd.R_drew));exact (Kd.R_mono (Kd.R_far (p:=⟨gb22,0,none⟩) (Kd.R_types HO6.out BK22.out (by decide)) (fun _ hk=>hk.2) (.slice Ao25 t17.length co25)) (fun _ h_=>h_.1))) hb);replace HO13:=a0_ (Kd.R_below (by (with_reducible repeat (first | apply Kd.R_alloc | apply Kd.R_drewN | apply Kd.R_drew));exact (Kd.R_mono (Kd.R_far (p:=⟨gb22,0,none⟩) (Kd.R_types HO13.out BK22.out (by decide)) (fun _ hk=>hk.2) (.slice Ao25 t17.length co25)) (fun _ h_=>h_.1))) hb);replace HO19:=a0_ (Kd.R_below (by (with_reducible repeat (first | apply Kd.R_alloc | apply Kd.R_drewN | apply Kd.R_drew));exact (Kd.R_mono (Kd.R_far (p:=⟨gb22,0,none⟩) (Kd.R_types HO19.out BK22.out (by decide)) (fun _ hk=>hk.2) (.slice Ao25 t17.length co25)) (fun _ h_=>h_.1))) hb);replace BK9:=kf_ BK9 NB9_22 hb;replace BK10:=kf_ BK10 NB10_22 hb;replace BK16:=kf_ BK16 NB16_22 hb;replace BK22:=a0_ (blk_below (g:=gb22) (o:=.cells #[.slice Ao25 t17.length co25] 28 (0,0)) (by (with_reducible repeat (first | refine blk_drewN ?_ _ | refine blk_drew ?_ | refine blk_alloc ?_ _));refine blk_put (cs:=#[.slice none 0 0]) ?_ 0 _ rfl;(with_reducible repeat (first | refine blk_drewN ?_ _ | refine blk_drew ?_ | refine blk_alloc ?_ _));exact BK22.out) hb);replace HB:=a0_ (below_step hbw_ hb);(try clear hb);(try clear hb2);(try clear hk);(try clear hi)))
     go_meet
     case rel=>exact ⟨_,(true),(by first | rfl | (simp;done) | (simp [*];done)),H',⟨by first | omega | exact Nat.le_refl _⟩,⟨by (with_reducible repeat (first | apply Kd.R_alloc | apply Kd.R_drewN | apply Kd.R_drew));exact HO3.out⟩,⟨by (with_reducible repeat (first | apply Kd.R_alloc | apply Kd.R_drewN | apply Kd.R_drew));exact Kd.R_mono HO6.out (fun _ hk=>⟨hk.1.2,hk.2⟩)⟩,⟨by (with_reducible repeat (first | apply Kd.R_alloc | apply Kd.R_drewN | apply Kd.R_drew));exact Kd.R_mono HO13.out (fun _ hk=>⟨hk.1.2,hk.2⟩)⟩,⟨by (with_reducible repeat (first | apply Kd.R_alloc | apply Kd.R_drewN | apply Kd.R_drew));exact Kd.R_mono HO19.out (fun _ hk=>⟨hk.1.2,hk.2⟩)⟩,⟨by (with_reducible repeat (first | refine blk_drewN ?_ _ | refine blk_drew ?_ | refine blk_alloc ?_ _));exact BK9.out⟩,⟨by (with_reducible repeat (first | refine blk_drewN ?_ _ | refine blk_drew ?_ | refine blk_alloc ?_ _));exact BK10.out⟩,⟨by (with_reducible repeat (first | refine blk_drewN ?_ _ | refine blk_drew ?_ | refine blk_alloc ?_ _));exact BK16.out⟩,⟨by (with_reducible repeat (first | refine blk_drewN ?_ _ | refine blk_drew ?_ | refine blk_alloc ?_ _));exact BK22.out⟩,⟨hbw_⟩⟩
   ·replace c31:=Bool.eq_false_iff.mpr c31
    subst c31
    have H1 : (laws_FnNewFault.j0 k t7 t14 t15 t20 t21 true t1 t4 t11 t17) = some r:=by rw [if_neg (show ¬ (false = true) by decide)] at H;exact H
    clear H
    have H:=H1
    clear H1
    have H':=a0_ H
    clear H
    have hnb58:=NB16_9.out
    have hnc58:=NB9_16.out
    have hnb59:=NB16_10.out
    have hnc59:=NB10_16.out
    have hnb60:=NB16_22.out
    have hnc60:=NB22_16.out
    have hcz61_0 : w24.cell? ⟨gb16,0,none⟩ = some (.slice Ao17 t11.length co17):=(blk_cell BK16.out 0).trans rfl
    have hfz61_0:=blk_frozen BK16.out 0
    have hnb62:=NB22_9.out
    have hnc62:=NB9_22.out
    have hnb63:=NB22_10.out
    have hnc63:=NB10_22.out
    have hcz64_0 : w24.cell? ⟨gb22,0,none⟩ = some (.slice none 0 0):=(blk_cell BK22.out 0).trans rfl
    have hfz64_0:=blk_frozen BK22.out 0
    go_wp2_with (first | ((with_reducible refine gate_callee (f:=19) rfl ?_);refine goesL_ (some 43) rfl rfl Try.func19 (by kernel_rfl) rfl #[.agg #[.slice Ao17 t11.length co17],.agg #[.slice Ao25 t17.length co25]] rfl lm_ ?_;(with_reducible refine (laws_equalHeap.calls k _ _ t11 _ _ t17 false _ ?side1 ?side2 ?side3 ?side4 A30.out).mono ?_);(case side1=>refine (Kd.R_reads' (e:=43) (base:=w.heap.size) (ok:=fun k_=>((True ∧ some k_ ≠ (.slice Ao13 t4.length co13 : Value).ownBlock) ∧ some k_ ≠ (.slice Ao25 t17.length co25 : Value).ownBlock)) (n:=t11.length) (c:=co17) ?_).2.2;exact (by (with_reducible repeat (first | apply Kd.R_alloc | apply Kd.R_drewN | apply Kd.R_drew));exact (Kd.R_mono (Kd.R_far (p:=⟨gb22,0,none⟩) (Kd.R_types HO13.out BK22.out (by decide)) (fun _ hk=>hk.2) (.slice Ao25 t17.length co25)) (fun _ h_=>h_.1))));(case side2=>exact (Kd.R_reads' HO13.out).2.1);(case side3=>refine (Kd.R_reads' (e:=43) (base:=w.heap.size) (ok:=fun k_=>((True ∧ some k_ ≠ (.slice Ao13 t4.length co13 : Value).ownBlock) ∧ some k_ ≠ (.slice Ao17 t11.length co17 : Value).ownBlock)) (n:=t17.length) (c:=co25) ?_).2.2;exact (by (with_reducible repeat (first | apply Kd.R_alloc | apply Kd.R_drewN | apply Kd.R_drew));exact (Kd.R_mono (Kd.R_far (p:=⟨gb22,0,none⟩) (Kd.R_types HO19.out BK22.out (by decide)) (fun _ hk=>hk.2) (.slice Ao25 t17.length co25)) (fun _ h_=>h_.1))));(case side4=>exact (Kd.R_reads' HO19.out).2.1);rintro e w65 ⟨rfl,hb⟩;refine ⟨_,rfl,?_⟩;replace HO3:=a0_ (Kd.R_below (by (with_reducible repeat (first | apply Kd.R_alloc | apply Kd.R_drewN | apply Kd.R_drew));exact (Kd.R_mono (Kd.R_far (p:=⟨gb22,0,none⟩) (Kd.R_types HO3.out BK22.out (by decide)) (fun _ hk=>hk.2) (.slice Ao25 t17.length co25)) (fun _ h_=>h_.1))) hb);replace HO6:=a0_ (Kd.R_below (by (with_reducible repeat (first | apply Kd.R_alloc | apply Kd.R_drewN | apply Kd.R_drew));exact (Kd.R_mono (Kd.R_far (p:=⟨gb22,0,none⟩) (Kd.R_types HO6.out BK22.out (by decide)) (fun _ hk=>hk.2) (.slice Ao25 t17.length co25)) (fun _ h_=>h_.1))) hb);replace HO13:=a0_ (Kd.R_below (by (with_reducible repeat (first | apply Kd.R_alloc | apply Kd.R_drewN | apply Kd.R_drew));exact (Kd.R_mono (Kd.R_far (p:=⟨gb22,0,none⟩) (Kd.R_types HO13.out BK22.out (by decide)) (fun _ hk=>hk.2) (.slice Ao25 t17.length co25)) (fun _ h_=>h_.1))) hb);replace HO19:=a0_ (Kd.R_below (by (with_reducible repeat (first | apply Kd.R_alloc | apply Kd.R_drewN | apply Kd.R_drew));exact (Kd.R_mono (Kd.R_far (p:=⟨gb22,0,none⟩) (Kd.R_types HO19.out BK22.out (by decide)) (fun _ hk=>hk.2) (.slice Ao25 t17.length co25)) (fun _ h_=>h_.1))) hb);replace BK9:=kf_ BK9 NB9_22 hb;replace BK10:=kf_ BK10 NB10_22 hb;replace BK16:=kf_ BK16 NB16_22 hb;replace BK22:=a0_ (blk_below (g:=gb22) (o:=.cells #[.slice Ao25 t17.length co25] 28 (0,0)) (by (with_reducible repeat (first | refine blk_drewN ?_ _ | refine blk_drew ?_ | refine blk_alloc ?_ _));refine blk_put (cs:=#[.slice none 0 0]) ?_ 0 _ rfl;(with_reducible repeat (first | refine blk_drewN ?_ _ | refine blk_drew ?_ | refine blk_alloc ?_ _));exact BK22.out) hb);replace HB:=a0_ (below_step hbw_ hb);(try clear hb);(try clear hb2);(try clear hk);(try clear hi)))
    go_meet
    case rel=>exact ⟨_,(true),(by first | rfl | (simp;done) | (simp [*];done)),H',⟨by first | omega | exact Nat.le_refl _⟩,⟨by (with_reducible repeat (first | apply Kd.R_alloc | apply Kd.R_drewN | apply Kd.R_drew));exact HO3.out⟩,⟨by (with_reducible repeat (first | apply Kd.R_alloc | apply Kd.R_drewN | apply Kd.R_drew));exact Kd.R_mono HO6.out (fun _ hk=>⟨hk.1.2,hk.2⟩)⟩,⟨by (with_reducible repeat (first | apply Kd.R_alloc | apply Kd.R_drewN | apply Kd.R_drew));exact Kd.R_mono HO13.out (fun _ hk=>⟨hk.1.2,hk.2⟩)⟩,⟨by (with_reducible repeat (first | apply Kd.R_alloc | apply Kd.R_drewN | apply Kd.R_drew));exact Kd.R_mono HO19.out (fun _ hk=>⟨hk.1.2,hk.2⟩)⟩,⟨by (with_reducible repeat (first | refine blk_drewN ?_ _ | refine blk_drew ?_ | refine blk_alloc ?_ _));exact BK9.out⟩,⟨by (with_reducible repeat (first | refine blk_drewN ?_ _ | refine blk_drew ?_ | refine blk_alloc ?_ _));exact BK10.out⟩,⟨by (with_reducible repeat (first | refine blk_drewN ?_ _ | refine blk_drew ?_ | refine blk_alloc ?_ _));exact BK16.out⟩,⟨by (with_reducible repeat (first | refine blk_drewN ?_ _ | refine blk_drew ?_ | refine blk_alloc ?_ _));exact BK22.out⟩,⟨hbw_⟩⟩
  case rest =>
   clear HC6
   try clear c1
   try clear c2
   try clear c2b0
   try clear c2b1
   try clear p2
   try clear c3
   try clear c4
   try clear c5
   try clear c6
   try clear c11
   try clear c16
   try clear c17
   try clear c18
   try clear c19
   try clear c26
   try clear c27
   try clear c28
   try clear c31
   try clear c32
   try clear c32b0
   try clear c32b1
   try clear c33
   try clear c33b0
   try clear c33b1
   try clear c33b2
   try clear c34
   try clear c35
   try clear c36
   try clear c38
   try clear c39
   try clear c42
   try clear c43
   try clear c44
   try clear c46
   try clear c47
   try clear c50
   try clear c51
   try clear c52
   try clear c54
   try clear c55
   try clear c58
   try clear c59
   try clear c60
   try clear c62
   try clear c63
   try clear hcz12_0
   try clear hcz14_0
   try clear hcz20_0
   try clear hcz21_0
   try clear hcz22_0
   try clear hcz29_0
   try clear hcz37_0
   try clear hcz40_0
   try clear hcz45_0
   try clear hcz48_0
   try clear hcz53_0
   try clear hcz56_0
   try clear hcz61_0
   try clear hcz64_0
   try clear hfz12_0
   try clear hfz14_0
   try clear hfz20_0
   try clear hfz21_0
   try clear hfz22_0
   try clear hfz29_0
   try clear hfz37_0
   try clear hfz40_0
   try clear hfz45_0
   try clear hfz48_0
   try clear hfz53_0
   try clear hfz56_0
   try clear hfz61_0
   try clear hfz64_0
   obtain ⟨kq,x58_5,rfl,HA,HJ5,Z10,Z11,Z17,Z23,BK9,BK10,BK16,BK22,HB⟩:=hcut
   cases kq with
   | zero=>exact absurd HA.out (by simp [laws_FnNewFault.j0])
   | succ kj5 =>
    have H:=HA.out
    clear HA
    simp only [laws_FnNewFault.j0] at H
    by_cases c66 : x58_5 = true
    ·subst c66
     have H1 : ((laws_equalHeap.f kj5 t11 t17).bind fun t24=>(if t24 = true then (if t14 = t20 then (some (t15 == t21)) else (some false)) else (some false))) = some r:=by rw [if_pos rfl] at H;exact H
     clear H
     have H:=H1
     clear H1
     replace H:=Option.bind_eq_some_iff.mp H
     obtain ⟨t24,A670,H⟩:=H
     try dsimp only at H
     have A67:=a0_ A670
     clear A670
     by_cases c68 : t24 = true
     ·subst c68
      have H1 : (if t14 = t20 then (some (t15 == t21)) else (some false)) = some r:=by rw [if_pos rfl] at H;exact H
      clear H
      have H:=H1
      clear H1
      by_cases c69 : t14 = t20
      ·rw [if_pos c69] at H
       have c69b0 : (t14 == t20) = true:=beq_iff_eq.mpr c69
       have c69b1 : (t14 != t20) = false:=bne_eq_false_iff_eq.mpr c69
       clear c69
       obtain rfl:=Option.some.inj H
       have hnb70:=NB16_9.out
       have hnc70:=NB9_16.out
       have hnb71:=NB16_10.out
       have hnc71:=NB10_16.out
       have hnb72:=NB16_22.out
       have hnc72:=NB22_16.out
       have hcz73_0 : wc.cell? ⟨gb16,0,none⟩ = some (.slice Ao17 t11.length co17):=(blk_cell BK16.out 0).trans rfl
       have hfz73_0:=blk_frozen BK16.out 0
       have hnb74:=NB22_9.out
       have hnc74:=NB9_22.out
       have hnb75:=NB22_10.out
       have hnc75:=NB10_22.out
       have hcz76_0 : wc.cell? ⟨gb22,0,none⟩ = some (.slice Ao25 t17.length co25):=(blk_cell BK22.out 0).trans rfl
       have hfz76_0:=blk_frozen BK22.out 0
       go_wp2_with (first | ((with_reducible refine gate_callee (f:=19) rfl ?_);refine goesL_ (some 61) rfl rfl Try.func19 (by kernel_rfl) rfl #[.agg #[.slice Ao17 t11.length co17],.agg #[.slice Ao25 t17.length co25]] rfl lm_ ?_;(with_reducible refine (laws_equalHeap.calls kj5 _ _ t11 _ _ t17 true _ ?side1 ?side2 ?side3 ?side4 A67.out).mono ?_);(case side1=>exact cc_ (Kd.R_reads' Z17.out).2.2);(case side2=>exact (Kd.R_reads' Z17.out).2.1);(case side3=>exact cc_ (Kd.R_reads' Z23.out).2.2);(case side4=>exact (Kd.R_reads' Z23.out).2.1);rintro e w77 ⟨rfl,hb⟩;refine ⟨_,rfl,?_⟩;replace Z10:=rb_ Z10 hb;replace Z11:=rb_ Z11 hb;replace Z17:=rb_ Z17 hb;replace Z23:=rb_ Z23 hb;replace BK9:=kb_ BK9 hb;replace BK10:=kb_ BK10 hb;replace BK16:=kb_ BK16 hb;replace BK22:=kb_ BK22 hb;replace HB:=a0_ (below_step hbw_ hb);(try clear hb);(try clear hb2);(try clear hk);(try clear hi)))
       go_ret
       exact ⟨by first | rfl | (simp [errW_none,errW_some] <;> rfl) | (simp [*,errW_none,errW_some] <;> rfl),hbw_⟩
      ·rw [if_neg c69] at H
       have c69b0 : (t14 == t20) = false:=beq_eq_false_iff_ne.mpr c69
       have c69b1 : (t14 != t20) = true:=bne_iff_ne.mpr c69
       exact absurd ((Option.some.inj H).trans hrt) (by decide)
     ·replace c68:=Bool.eq_false_iff.mpr c68
      subst c68
      have H1 : (some false) = some r:=by rw [if_neg (show ¬ (false = true) by decide)] at H;exact H
      clear H
      have H:=H1
      clear H1
      exact absurd ((Option.some.inj H).trans hrt) (by decide)
    ·replace c66:=Bool.eq_false_iff.mpr c66
     subst c66
     have H1 : (if t14 = (t4.length : Int) then ((impl_ShownChain.f t1 t11 t14).bind fun t25=>((laws_equalInts.f kj5 t25 (([t14] : List Int))).bind fun t31=>(if t31 = true then (if 0 ≤ t14 then (if t14 ≤ (t11.length : Int) then ((laws_equalHeap.f kj5 (t11.take (t14 : Int).toNat) t4).bind fun t36=>(if t36 = true then (if t14 < (t11.length : Int) then (some (((rd_T43 t11 t14).f0) == t7)) else (none)) else (some false))) else (none)) else (none)) else (some false)))) else (some false)) = some r:=by rw [if_neg (show ¬ (false = true) by decide)] at H;exact H
     clear H
     have H:=H1
     clear H1
     by_cases c94 : t14 = (t4.length : Int)
     ·rw [if_pos c94] at H
      have c94b0 : (t14 == (t4.length : Int)) = true:=beq_iff_eq.mpr c94
      have c94b1 : (t14 != (t4.length : Int)) = false:=bne_eq_false_iff_eq.mpr c94
      clear c94
      replace H:=Option.bind_eq_some_iff.mp H
      obtain ⟨t25,A950,H⟩:=H
      try dsimp only at H
      have A95:=a0_ A950
      clear A950
      obtain ⟨y28,hy28⟩ : ∃ y_ : List Int,y_ = (([t14] : List Int)):=⟨_,rfl⟩
      replace H : ((laws_equalInts.f kj5 t25 y28).bind fun t31=>(if t31 = true then (if 0 ≤ t14 then (if t14 ≤ (t11.length : Int) then ((laws_equalHeap.f kj5 (t11.take (t14 : Int).toNat) t4).bind fun t36=>(if t36 = true then (if t14 < (t11.length : Int) then (some (((rd_T43 t11 t14).f0) == t7)) else (none)) else (some false))) else (none)) else (none)) else (some false))) = some r:=by first | (rw [hy28];with_reducible exact H) | (have H2_:=(Option.bind_some _ _).symm.trans H;rw [hy28];with_reducible exact H2_) | (have H2_:=(Option.bind_some _ _).symm.trans H;with_reducible exact H2_) | with_reducible exact H | (rw [hy28];exact H) | exact H
      have Ny28:=a0_ hy28
      clear hy28
      replace H:=Option.bind_eq_some_iff.mp H
      obtain ⟨t31,A960,H⟩:=H
      try dsimp only at H
      have A96:=a0_ A960
      clear A960
      by_cases c97 : t31 = true
      ·subst c97
       have H1 : (if 0 ≤ t14 then (if t14 ≤ (t11.length : Int) then ((laws_equalHeap.f kj5 (t11.take (t14 : Int).toNat) t4).bind fun t36=>(if t36 = true then (if t14 < (t11.length : Int) then (some (((rd_T43 t11 t14).f0) == t7)) else (none)) else (some false))) else (none)) else (none)) = some r:=by rw [if_pos rfl] at H;exact H
       clear H
       have H:=H1
       clear H1
       by_cases c98 : 0 ≤ t14
       ·rw [if_pos c98] at H
        have c98b0:=eq_true c98
        have c98b1 : decide (0 ≤ t14) = true:=decide_eq_true c98
        clear c98
        by_cases c99 : t14 ≤ (t11.length : Int)
        ·rw [if_pos c99] at H
         have c99b0:=eq_true c99
         have c99b1 : decide (t14 ≤ (t11.length : Int)) = true:=decide_eq_true c99
         clear c99
         obtain ⟨y32,hy32⟩ : ∃ y_ : List (S43),y_ = (t11.take (t14 : Int).toNat):=⟨_,rfl⟩
         replace H : ((laws_equalHeap.f kj5 y32 t4).bind fun t36=>(if t36 = true then (if t14 < (t11.length : Int) then (some (((rd_T43 t11 t14).f0) == t7)) else (none)) else (some false))) = some r:=by first | (rw [hy32];with_reducible exact H) | (have H2_:=(Option.bind_some _ _).symm.trans H;rw [hy32];with_reducible exact H2_) | (have H2_:=(Option.bind_some _ _).symm.trans H;with_reducible exact H2_) | with_reducible exact H | (rw [hy32];exact H) | exact H
         have Ny32:=a0_ hy32
         clear hy32
         replace H:=Option.bind_eq_some_iff.mp H
         obtain ⟨t36,A1000,H⟩:=H
         try dsimp only at H
         have A100:=a0_ A1000
         clear A1000
         by_cases c101 : t36 = true
         ·subst c101
          have H1 : (if t14 < (t11.length : Int) then (some (((rd_T43 t11 t14).f0) == t7)) else (none)) = some r:=by rw [if_pos rfl] at H;exact H
          clear H
          have H:=H1
          clear H1
          by_cases c102 : t14 < (t11.length : Int)
          ·rw [if_pos c102] at H
           have c102b0 : decide (t14 < (t11.length : Int)) = true:=decide_eq_true c102
           clear c102
           obtain rfl:=Option.some.inj H
           have hnb103:=NB10_9.out
           have hnc103:=NB9_10.out
           have hnb104:=NB10_16.out
           have hnc104:=NB16_10.out
           have hnb105:=NB10_22.out
           have hnc105:=NB22_10.out
           have hcz106_0 : wc.cell? ⟨gb10,0,none⟩ = some (.slice Ao13 t4.length co13):=(blk_cell BK10.out 0).trans rfl
           have hfz106_0:=blk_frozen BK10.out 0
           have hnb107:=NB9_16.out
           have hnc107:=NB16_9.out
           have hnb108:=NB9_22.out
           have hnc108:=NB22_9.out
           have hcz109_0 : wc.cell? ⟨gb9,0,none⟩ = some (.slice Ao10 t1.length co10):=(blk_cell BK9.out 0).trans rfl
           have hfz109_0:=blk_frozen BK9.out 0
           have hnb110:=NB16_22.out
           have hnc110:=NB22_16.out
           have hcz111_0 : wc.cell? ⟨gb16,0,none⟩ = some (.slice Ao17 t11.length co17):=(blk_cell BK16.out 0).trans rfl
           have hfz111_0:=blk_frozen BK16.out 0
           have hp0 : 0 ≤ t14:=of_decide_eq_true (by first | (with_reducible assumption) | assumption)
           have hq0 : t14 < (t11.length : Int):=of_decide_eq_true (by first | (with_reducible assumption) | assumption)
           obtain ⟨ad37,e37,hx37,_,_,_,_⟩:=at_T43 (Kd.R_reads' Z17.out).2.2 t14 hp0 hq0
           cases e37
           have CT:=a0_ (Kd.R_reads' Z10.out).2
           have CH:=a0_ (Kd.R_reads' Z11.out).2
           have CO:=a0_ (Kd.R_reads' Z17.out).2
           have HW:=a0_ (below_drew (Below.refl wc.heap.size wc))
           have HSC:=a0_ (fun (W : World) (hb : Below wc.heap.size wc W)=>impl_ShownChain.calls _ _ t1 _ _ t11 t14 t25 W (Kd.C_below CT.out.2 hb) CT.out.1 (Kd.C_below CO.out.2 hb) CO.out.1 A95.out)
           have hy28:=Ny28.out
           have HEI:=a0_ (fun (A A2 : Option Addr) (c c2 : Nat) (W : World) (h1 : Kd.C (Kd.int .i64) W A t25.length t25) (g1 : t25.length ≤ c) (h2 : Kd.C (Kd.int .i64) W A2 1 [t14]) (g2 : 1 ≤ c2)=>(show Calls Try.prog 12 #[.slice A t25.length c,.slice A2 1 c2] W _ from laws_equalInts.calls kj5 A c t25 A2 c2 [t14] true W h1 g1 h2 g2 (by rw [← hy28];exact A96.out)))
           obtain ⟨i0_,hi0_,_,hsz_,_⟩:=info_parts info43
           have hcut_:=cut_to (P:=Try.prog) 26 43 .i64 Try.underlying26 hi0_ (some ad37) t11.length co17 t14 hp0 (Int.le_of_lt hq0) CO.out.1
           have hyl : y32.length = (t14 : Int).toNat:=by rw [Ny32.out,List.length_take];omega
           have hrt_:=Kd.C_take (m:=(t14 : Int).toNat) CO.out.2 (by omega)
           rw [← Ny32.out] at hrt_
           rw [← hyl] at hcut_
           have HRT:=a0_ hrt_
           have hlc : y32.length ≤ co17:=by have:=CO.out.1;omega
           have HEH:=a0_ (fun (W : World) (hb : Below wc.heap.size wc W)=>laws_equalHeap.calls kj5 (some ad37) co17 y32 Ao13 co13 t4 true W (Kd.C_below HRT.out hb) hlc (Kd.C_below CH.out.2 hb) CH.out.1 A100.out)
           have hc9 : wc.cell? ⟨gb9,0,none⟩ = some (.slice Ao10 t1.length co10):=(blk_cell BK9.out 0).trans rfl
           have hc10 : wc.cell? ⟨gb10,0,none⟩ = some (.slice Ao13 t4.length co13):=(blk_cell BK10.out 0).trans rfl
           have hc16 : wc.cell? ⟨gb16,0,none⟩ = some (.slice (some ad37) t11.length co17):=(blk_cell BK16.out 0).trans rfl
           replace hc9:=(HW.out.cell (World.block_lt_of_cell? _ _ hc9)).trans hc9
           replace hc10:=(HW.out.cell (World.block_lt_of_cell? _ _ hc10)).trans hc10
           replace hc16:=(HW.out.cell (World.block_lt_of_cell? _ _ hc16)).trans hc16
           replace hx37:=(HW.out.cell (World.block_lt_of_cell? _ _ hx37)).trans hx37
           have hp1:=eq_true hp0
           have hq1:=eq_true hq0
           clear hrt_ hy28 hi0_ hsz_ hrt
           try go_wp2
           refine start_ (n:=34) (S:=fun w'=>w'.cell? ⟨gb9,0,none⟩ = some (.slice Ao10 t1.length co10) ∧ w'.cell? ⟨gb10,0,none⟩ = some (.slice Ao13 t4.length co13) ∧ w'.cell? ⟨gb16,0,none⟩ = some (.slice (some ad37) t11.length co17) ∧ w'.cell? (ad37.add ((t14).toNat * 5)) = some (.int .i64 ((rd_T43 t11 t14).f0))) (ds:=[]) #[false,false,false,false,false,false,false,false,false,false,false,false,false,false,false,false,false,false,false,false,false,false,false,false,false,false,false,false,false,false,false,false,false,false] (by kernel_rfl) rfl rfl ⟨hc9,hc10,hc16,hx37⟩ (fun hHeld=>?_)
           clear hc9 hc10 hc16 hx37
           generalize wc.drew = wd at HW hHeld ⊢
           refine pure_ (i:=0) (N:=some 72) (v:=?_) (a':=?_) #[true,false,false,false,false,false,false,false,false,false,false,false,false,false,false,false,false,false,false,false,false,false,false,false,false,false,false,false,false,false,false,false,false,false] rfl rfl (by kernel_rfl) (fun _ _ _ h=>h) (Or.inl ⟨by rfl,?_⟩) ?_ ?_
           rotate_left
           ·intro w'
            go_simp
            with_reducible rfl
           rotate_left
           ·simp only [Act.put,s1_,s2_,s3_,i64_w,i32_w]
            rfl
           refine pure_ (i:=1) (N:=some 73) (v:=?_) (a':=?_) #[true,true,false,false,false,false,false,false,false,false,false,false,false,false,false,false,false,false,false,false,false,false,false,false,false,false,false,false,false,false,false,false,false,false] rfl rfl (by kernel_rfl) (fun _ _ _ h=>h) (Or.inl ⟨by rfl,?_⟩) ?_ ?_
           rotate_left
           ·intro w'
            go_simp
            with_reducible rfl
           rotate_left
           ·simp only [Act.put,s1_,s2_,s3_,i64_w,i32_w]
            rfl
           refine take_ (i:=2) (N:=some 74) (v:=?_) (a':=?_) #[true,true,true,false,false,false,false,false,false,false,false,false,false,false,false,false,false,false,false,false,false,false,false,false,false,false,false,false,false,false,false,false,false,false] rfl rfl (by kernel_rfl) (fun _ _ _ h=>h) (Or.inl ⟨by rfl,?_⟩) hHeld ?_ ?_
           rotate_left
           ·rintro w' ⟨s0,s1,s2,s3⟩
            go_simp
            with_reducible rfl
           rotate_left
           ·simp only [Act.put,s1_,s2_,s3_,i64_w,i32_w]
            rfl
           refine pure_ (i:=3) (N:=some 75) (v:=?_) (a':=?_) #[true,true,true,true,false,false,false,false,false,false,false,false,false,false,false,false,false,false,false,false,false,false,false,false,false,false,false,false,false,false,false,false,false,false] rfl rfl (by kernel_rfl) (fun _ _ _ h=>h) (Or.inl ⟨by rfl,?_⟩) ?_ ?_
           rotate_left
           ·intro w'
            go_simp
            with_reducible rfl
           rotate_left
           ·simp only [Act.put,s1_,s2_,s3_,i64_w,i32_w]
            rfl
           refine pure_ (i:=4) (N:=some 76) (v:=?_) (a':=?_) #[true,true,true,true,true,false,false,false,false,false,false,false,false,false,false,false,false,false,false,false,false,false,false,false,false,false,false,false,false,false,false,false,false,false] rfl rfl (by kernel_rfl) (fun _ _ _ h=>h) (Or.inl ⟨by rfl,?_⟩) ?_ ?_
           rotate_left
           ·intro w'
            go_simp
            with_reducible rfl
           rotate_left
           ·simp only [Act.put,s1_,s2_,s3_,i64_w,i32_w]
            rfl
           refine pure_ (i:=5) (N:=some 77) (v:=?_) (a':=?_) #[true,true,true,true,true,true,false,false,false,false,false,false,false,false,false,false,false,false,false,false,false,false,false,false,false,false,false,false,false,false,false,false,false,false] rfl rfl (by kernel_rfl) (fun _ _ _ h=>h) (Or.inl ⟨by rfl,?_⟩) ?_ ?_
           rotate_left
           ·intro w'
            go_simp
            with_reducible rfl
           rotate_left
           ·simp only [Act.put,s1_,s2_,s3_,i64_w,i32_w]
            rfl
           refine take_ (i:=6) (N:=some 78) (v:=?_) (a':=?_) #[true,true,true,true,true,true,true,false,false,false,false,false,false,false,false,false,false,false,false,false,false,false,false,false,false,false,false,false,false,false,false,false,false,false] rfl rfl (by kernel_rfl) (fun _ _ _ h=>h) (Or.inl ⟨by rfl,?_⟩) hHeld ?_ ?_
           rotate_left
           ·rintro w' ⟨s0,s1,s2,s3⟩
            go_simp
            with_reducible rfl
           rotate_left
           ·simp only [Act.put,s1_,s2_,s3_,i64_w,i32_w]
            rfl
           refine take_ (i:=7) (N:=some 79) (v:=?_) (a':=?_) #[true,true,true,true,true,true,true,true,false,false,false,false,false,false,false,false,false,false,false,false,false,false,false,false,false,false,false,false,false,false,false,false,false,false] rfl rfl (by kernel_rfl) (fun _ _ _ h=>h) (Or.inl ⟨by rfl,?_⟩) hHeld ?_ ?_
           rotate_left
           ·rintro w' ⟨s0,s1,s2,s3⟩
            go_simp
            with_reducible rfl
           rotate_left
           ·simp only [Act.put,s1_,s2_,s3_,i64_w,i32_w]
            rfl
           refine pure_ (i:=8) (N:=some 80) (v:=?_) (a':=?_) #[true,true,true,true,true,true,true,true,true,false,false,false,false,false,false,false,false,false,false,false,false,false,false,false,false,false,false,false,false,false,false,false,false,false] rfl rfl (by kernel_rfl) (fun _ _ _ h=>h) (Or.inl ⟨by rfl,?_⟩) ?_ ?_
           rotate_left
           ·intro w'
            go_simp
            with_reducible rfl
           rotate_left
           ·simp only [Act.put,s1_,s2_,s3_,i64_w,i32_w]
            rfl
           refine pure_ (i:=10) (N:=some 82) (v:=?_) (a':=?_) #[true,true,true,true,true,true,true,true,true,false,true,false,false,false,false,false,false,false,false,false,false,false,false,false,false,false,false,false,false,false,false,false,false,false] rfl rfl (by kernel_rfl) (fun _ _ _ h=>h) (Or.inl ⟨by rfl,?_⟩) ?_ ?_
           rotate_left
           ·intro w'
            go_simp
            with_reducible rfl
           rotate_left
           ·simp only [Act.put,s1_,s2_,s3_,i64_w,i32_w]
            rfl
           refine two_ (i:=9) (j:=11) (Ni:=some 81) (Nj:=some 83) #[true,true,true,true,true,true,true,true,true,true,true,false,false,false,false,false,false,false,false,false,false,false,false,false,false,false,false,false,false,false,false,false,false,false] #[true,true,true,true,true,true,true,true,true,false,true,true,false,false,false,false,false,false,false,false,false,false,false,false,false,false,false,false,false,false,false,false,false,false] rfl rfl rfl rfl (by kernel_rfl) (by decide) (by decide) (fun K hK=>?_) (fun K hK=>?_)
           ·skip
            refine goes_ Try.func11 (by kernel_rfl) rfl #[.agg #[.slice Ao10 t1.length co10],.agg #[.slice (some ad37) t11.length co17],.int .i64 t14] (by rfl) rfl rfl (by (try simp only [List.map_toArray,List.map_cons,List.map_nil]);(first | done | rfl | (rw [hyl];rfl) | (simp only [List.length_drop,List.length_take];rfl))) ?_
            with_reducible refine (HSC.out _ HW.out).mono ?_
            rintro e wS ⟨vS,rfl,hoS,hbS⟩
            obtain ⟨AS,cS,eS⟩:=Kd.R_slice hoS
            subst eS
            refine ⟨_,rfl,?_⟩
            have HS0_:=(hbS.cell (World.block_lt_of_cell? _ _ (hHeld.1))).trans (hHeld.1)
            have HS1_:=(hbS.cell (World.block_lt_of_cell? _ _ (hHeld.2.1))).trans (hHeld.2.1)
            have HS2_:=(hbS.cell (World.block_lt_of_cell? _ _ (hHeld.2.2.1))).trans (hHeld.2.2.1)
            have HS3_:=(hbS.cell (World.block_lt_of_cell? _ _ (hHeld.2.2.2))).trans (hHeld.2.2.2)
            have HCS:=a0_ (Kd.R_reads' hoS).2
            replace HW:=a0_ (below_step HW.out hbS)
            refine hK.out _ _ ⟨HS0_,HS1_,HS2_,HS3_⟩ (fun hHeld=>?_)
            clear hK K HS0_ HS1_ HS2_ HS3_
            refine norm_ (a':=?_) ?_ ?_
            rotate_left
            ·show Act.put _ (some 81) _ = _
             simp only [Act.put,s1_,s2_,s3_,i64_w,i32_w]
             rfl
            refine one_ (i:=11) (N:=some 83) #[true,true,true,true,true,true,true,true,true,true,true,true,false,false,false,false,false,false,false,false,false,false,false,false,false,false,false,false,false,false,false,false,false,false] rfl rfl (by kernel_rfl) (by decide) (fun K hK=>?_)
            refine value_ (v:=.slice (some ⟨(World.heap wS).size,0,none⟩) 1 1) (w1:=World.alloc wS (.cells #[.int .i64 t14] 3)) (by rfl) rfl ?hr ?_
            case hr=>first | (go_simp;done) | (go_simp;rfl)
            obtain ⟨wL,ewL⟩ : ∃ w_,w_ = World.alloc wS (.cells #[.int .i64 t14] 3):=⟨_,rfl⟩
            have hbL : Below (World.heap wS).size wS wL:=by rw [ewL];exact below_alloc (Below.refl _ _) _
            have hCL:=lit_C wS t14
            rw [← ewL] at hCL ⊢
            clear ewL
            obtain ⟨gL,egL⟩ : ∃ g_,g_ = (World.heap wS).size:=⟨_,rfl⟩
            rw [← egL] at hCL ⊢
            clear egL
            have HS0_:=(hbL.cell (World.block_lt_of_cell? _ _ (hHeld.1))).trans (hHeld.1)
            have HS1_:=(hbL.cell (World.block_lt_of_cell? _ _ (hHeld.2.1))).trans (hHeld.2.1)
            have HS2_:=(hbL.cell (World.block_lt_of_cell? _ _ (hHeld.2.2.1))).trans (hHeld.2.2.1)
            have HS3_:=(hbL.cell (World.block_lt_of_cell? _ _ (hHeld.2.2.2))).trans (hHeld.2.2.2)
            have HCL:=a0_ hCL
            replace HW:=a0_ (below_step HW.out hbL)
            replace HCS:=a0_ (And.intro HCS.out.1 (Kd.C_below HCS.out.2 hbL))
            refine hK.out _ _ ⟨HS0_,HS1_,HS2_,HS3_⟩ (fun hHeld=>?_)
            clear hK K HS0_ HS1_ HS2_ HS3_
            refine norm_ (a':=?_) ?_ ?_
            rotate_left
            ·show Act.put _ (some 83) _ = _
             simp only [Act.put,s1_,s2_,s3_,i64_w,i32_w]
             rfl
            refine one_ (i:=12) (N:=some 84) #[true,true,true,true,true,true,true,true,true,true,true,true,true,false,false,false,false,false,false,false,false,false,false,false,false,false,false,false,false,false,false,false,false,false] rfl rfl (by kernel_rfl) (by decide) (fun K hK=>?_)
            refine goes_ Try.func12 (by kernel_rfl) rfl #[.slice AS t25.length cS,.slice (some ⟨gL,0,none⟩) 1 1] (by rfl) rfl rfl (by (try simp only [List.map_toArray,List.map_cons,List.map_nil]);(first | done | rfl | (rw [hyl];rfl) | (simp only [List.length_drop,List.length_take];rfl))) ?_
            with_reducible refine (HEI.out _ _ _ _ _ HCS.out.2 HCS.out.1 HCL.out (Nat.le_refl 1)).mono ?_
            rintro e wE ⟨rfl,⟨nd,rfl⟩⟩
            refine ⟨_,rfl,?_⟩
            have hbE:=pw_below_drewN (Below.refl (World.heap wL).size wL) nd
            have HS0_:=(hbE.cell (World.block_lt_of_cell? _ _ (hHeld.1))).trans (hHeld.1)
            have HS1_:=(hbE.cell (World.block_lt_of_cell? _ _ (hHeld.2.1))).trans (hHeld.2.1)
            have HS2_:=(hbE.cell (World.block_lt_of_cell? _ _ (hHeld.2.2.1))).trans (hHeld.2.2.1)
            have HS3_:=(hbE.cell (World.block_lt_of_cell? _ _ (hHeld.2.2.2))).trans (hHeld.2.2.2)
            replace HW:=a0_ (below_step HW.out hbE)
            refine hK.out _ _ ⟨HS0_,HS1_,HS2_,HS3_⟩ (fun hHeld=>?_)
            clear hK K HS0_ HS1_ HS2_ HS3_
            refine norm_ (a':=?_) ?_ ?_
            rotate_left
            ·show Act.put _ (some 84) _ = _
             simp only [Act.put,s1_,s2_,s3_,i64_w,i32_w]
             rfl
            refine pure_ (i:=13) (N:=some 85) (v:=?_) (a':=?_) #[true,true,true,true,true,true,true,true,true,true,true,true,true,true,false,false,false,false,false,false,false,false,false,false,false,false,false,false,false,false,false,false,false,false] rfl rfl (by kernel_rfl) (fun _ _ _ h=>h) (Or.inl ⟨by rfl,?_⟩) ?_ ?_
            rotate_left
            ·intro w'
             go_simp
             with_reducible rfl
            rotate_left
            ·simp only [Act.put,s1_,s2_,s3_,i64_w,i32_w]
             rfl
            refine pure_ (i:=14) (N:=some 86) (v:=?_) (a':=?_) #[true,true,true,true,true,true,true,true,true,true,true,true,true,true,true,false,false,false,false,false,false,false,false,false,false,false,false,false,false,false,false,false,false,false] rfl rfl (by kernel_rfl) (fun _ _ _ h=>h) (Or.inl ⟨by rfl,?_⟩) ?_ ?_
            rotate_left
            ·intro w'
             go_simp
             with_reducible rfl
            rotate_left
            ·simp only [Act.put,s1_,s2_,s3_,i64_w,i32_w]
             rfl
            refine pure_ (i:=15) (N:=some 87) (v:=?_) (a':=?_) #[true,true,true,true,true,true,true,true,true,true,true,true,true,true,true,true,false,false,false,false,false,false,false,false,false,false,false,false,false,false,false,false,false,false] rfl rfl (by kernel_rfl) (fun _ _ _ h=>h) (Or.inl ⟨by rfl,?_⟩) ?_ ?_
            rotate_left
            ·intro w'
             go_simp
             with_reducible rfl
            rotate_left
            ·simp only [Act.put,s1_,s2_,s3_,i64_w,i32_w]
             rfl
            refine take_ (i:=16) (N:=some 88) (v:=?_) (a':=?_) #[true,true,true,true,true,true,true,true,true,true,true,true,true,true,true,true,true,false,false,false,false,false,false,false,false,false,false,false,false,false,false,false,false,false] rfl rfl (by kernel_rfl) (fun _ _ _ h=>h) (Or.inl ⟨by rfl,?_⟩) hHeld ?_ ?_
            rotate_left
            ·rintro w' ⟨s0,s1,s2,s3⟩
             go_simp
             with_reducible rfl
            rotate_left
            ·simp only [Act.put,s1_,s2_,s3_,i64_w,i32_w]
             rfl
            refine pure_ (i:=17) (N:=some 89) (v:=?_) (a':=?_) #[true,true,true,true,true,true,true,true,true,true,true,true,true,true,true,true,true,true,false,false,false,false,false,false,false,false,false,false,false,false,false,false,false,false] rfl rfl (by kernel_rfl) (fun _ _ _ h=>h) (Or.inl ⟨by rfl,?_⟩) ?_ ?_
            rotate_left
            ·intro w'
             go_simp
             with_reducible rfl
            rotate_left
            ·simp only [Act.put,s1_,s2_,s3_,i64_w,i32_w]
             rfl
            refine pure_ (i:=18) (N:=some 90) (v:=?_) (a':=?_) #[true,true,true,true,true,true,true,true,true,true,true,true,true,true,true,true,true,true,true,false,false,false,false,false,false,false,false,false,false,false,false,false,false,false] rfl rfl (by kernel_rfl) (fun _ _ _ h=>h) (Or.inl ⟨by rfl,?_⟩) ?_ ?_
            rotate_left
            ·intro w'
             go_simp
             with_reducible rfl
            rotate_left
            ·simp only [Act.put,s1_,s2_,s3_,i64_w,i32_w]
             rfl
            refine pure_ (i:=19) (N:=some 91) (v:=?_) (a':=?_) #[true,true,true,true,true,true,true,true,true,true,true,true,true,true,true,true,true,true,true,true,false,false,false,false,false,false,false,false,false,false,false,false,false,false] rfl rfl (by kernel_rfl) (fun _ _ _ h=>h) (Or.inl ⟨by rfl,?_⟩) ?_ ?_
            rotate_left
            ·intro w'
             go_simp
             with_reducible rfl
            rotate_left
            ·simp only [Act.put,s1_,s2_,s3_,i64_w,i32_w]
             rfl
            refine take_ (i:=20) (N:=some 92) (v:=?_) (a':=?_) #[true,true,true,true,true,true,true,true,true,true,true,true,true,true,true,true,true,true,true,true,true,false,false,false,false,false,false,false,false,false,false,false,false,false] rfl rfl (by kernel_rfl) (fun _ _ _ h=>h) (Or.inl ⟨by rfl,?_⟩) hHeld ?_ ?_
            rotate_left
            ·rintro w' ⟨s0,s1,s2,s3⟩
             go_simp
             with_reducible rfl
            rotate_left
            ·simp only [Act.put,s1_,s2_,s3_,i64_w,i32_w]
             rfl
            refine one_ (i:=21) (N:=some 93) #[true,true,true,true,true,true,true,true,true,true,true,true,true,true,true,true,true,true,true,true,true,true,false,false,false,false,false,false,false,false,false,false,false,false] rfl rfl (by kernel_rfl) (by decide) (fun K hK=>?_)
            refine goes_ Try.func19 (by kernel_rfl) rfl #[.agg #[.slice (some ad37) y32.length co17],.agg #[.slice Ao13 t4.length co13]] (by rfl) rfl rfl (by (try simp only [List.map_toArray,List.map_cons,List.map_nil]);(first | done | rfl | (rw [hyl];rfl) | (simp only [List.length_drop,List.length_take];rfl))) ?_
            with_reducible refine (HEH.out _ HW.out).mono ?_
            rintro e wH ⟨rfl,hbH⟩
            refine ⟨_,rfl,?_⟩
            have HS0_:=(hbH.cell (World.block_lt_of_cell? _ _ (hHeld.1))).trans (hHeld.1)
            have HS1_:=(hbH.cell (World.block_lt_of_cell? _ _ (hHeld.2.1))).trans (hHeld.2.1)
            have HS2_:=(hbH.cell (World.block_lt_of_cell? _ _ (hHeld.2.2.1))).trans (hHeld.2.2.1)
            have HS3_:=(hbH.cell (World.block_lt_of_cell? _ _ (hHeld.2.2.2))).trans (hHeld.2.2.2)
            replace HW:=a0_ (below_step HW.out hbH)
            refine hK.out _ _ ⟨HS0_,HS1_,HS2_,HS3_⟩ (fun hHeld=>?_)
            clear hK K HS0_ HS1_ HS2_ HS3_
            refine norm_ (a':=?_) ?_ ?_
            rotate_left
            ·show Act.put _ (some 93) _ = _
             simp only [Act.put,s1_,s2_,s3_,i64_w,i32_w]
             rfl
            refine pure_ (i:=22) (N:=some 94) (v:=?_) (a':=?_) #[true,true,true,true,true,true,true,true,true,true,true,true,true,true,true,true,true,true,true,true,true,true,true,false,false,false,false,false,false,false,false,false,false,false] rfl rfl (by kernel_rfl) (fun _ _ _ h=>h) (Or.inl ⟨by rfl,?_⟩) ?_ ?_
            rotate_left
            ·intro w'
             go_simp
             with_reducible rfl
            rotate_left
            ·simp only [Act.put,s1_,s2_,s3_,i64_w,i32_w]
             rfl
            refine pure_ (i:=23) (N:=some 95) (v:=?_) (a':=?_) #[true,true,true,true,true,true,true,true,true,true,true,true,true,true,true,true,true,true,true,true,true,true,true,true,false,false,false,false,false,false,false,false,false,false] rfl rfl (by kernel_rfl) (fun _ _ _ h=>h) (Or.inl ⟨by rfl,?_⟩) ?_ ?_
            rotate_left
            ·intro w'
             go_simp
             with_reducible rfl
            rotate_left
            ·simp only [Act.put,s1_,s2_,s3_,i64_w,i32_w]
             rfl
            refine pure_ (i:=24) (N:=some 96) (v:=?_) (a':=?_) #[true,true,true,true,true,true,true,true,true,true,true,true,true,true,true,true,true,true,true,true,true,true,true,true,true,false,false,false,false,false,false,false,false,false] rfl rfl (by kernel_rfl) (fun _ _ _ h=>h) (Or.inl ⟨by rfl,?_⟩) ?_ ?_
            rotate_left
            ·intro w'
             go_simp
             with_reducible rfl
            rotate_left
            ·simp only [Act.put,s1_,s2_,s3_,i64_w,i32_w]
             rfl
            refine take_ (i:=25) (N:=some 97) (v:=?_) (a':=?_) #[true,true,true,true,true,true,true,true,true,true,true,true,true,true,true,true,true,true,true,true,true,true,true,true,true,true,false,false,false,false,false,false,false,false] rfl rfl (by kernel_rfl) (fun _ _ _ h=>h) (Or.inl ⟨by rfl,?_⟩) hHeld ?_ ?_
            rotate_left
            ·rintro w' ⟨s0,s1,s2,s3⟩
             go_simp
             with_reducible rfl
            rotate_left
            ·simp only [Act.put,s1_,s2_,s3_,i64_w,i32_w]
             rfl
            refine pure_ (i:=26) (N:=some 98) (v:=?_) (a':=?_) #[true,true,true,true,true,true,true,true,true,true,true,true,true,true,true,true,true,true,true,true,true,true,true,true,true,true,true,false,false,false,false,false,false,false] rfl rfl (by kernel_rfl) (fun _ _ _ h=>h) (Or.inl ⟨by rfl,?_⟩) ?_ ?_
            rotate_left
            ·intro w'
             go_simp
             with_reducible rfl
            rotate_left
            ·simp only [Act.put,s1_,s2_,s3_,i64_w,i32_w]
             rfl
            refine pure_ (i:=27) (N:=some 99) (v:=?_) (a':=?_) #[true,true,true,true,true,true,true,true,true,true,true,true,true,true,true,true,true,true,true,true,true,true,true,true,true,true,true,true,false,false,false,false,false,false] rfl rfl (by kernel_rfl) (fun _ _ _ h=>h) (Or.inl ⟨by rfl,?_⟩) ?_ ?_
            rotate_left
            ·intro w'
             go_simp
             with_reducible rfl
            rotate_left
            ·simp only [Act.put,s1_,s2_,s3_,i64_w,i32_w]
             rfl
            refine pure_ (i:=28) (N:=some 100) (v:=?_) (a':=?_) #[true,true,true,true,true,true,true,true,true,true,true,true,true,true,true,true,true,true,true,true,true,true,true,true,true,true,true,true,true,false,false,false,false,false] rfl rfl (by kernel_rfl) (fun _ _ _ h=>h) (Or.inl ⟨by rfl,?_⟩) ?_ ?_
            rotate_left
            ·intro w'
             go_simp
             with_reducible rfl
            rotate_left
            ·simp only [Act.put,s1_,s2_,s3_,i64_w,i32_w]
             rfl
            refine take_ (i:=29) (N:=some 101) (v:=?_) (a':=?_) #[true,true,true,true,true,true,true,true,true,true,true,true,true,true,true,true,true,true,true,true,true,true,true,true,true,true,true,true,true,true,false,false,false,false] rfl rfl (by kernel_rfl) (fun _ _ _ h=>h) (Or.inl ⟨by rfl,?_⟩) hHeld ?_ ?_
            rotate_left
            ·rintro w' ⟨s0,s1,s2,s3⟩
             go_simp
             with_reducible rfl
            rotate_left
            ·simp only [Act.put,s1_,s2_,s3_,i64_w,i32_w]
             rfl
            refine pure_ (i:=30) (N:=some 102) (v:=?_) (a':=?_) #[true,true,true,true,true,true,true,true,true,true,true,true,true,true,true,true,true,true,true,true,true,true,true,true,true,true,true,true,true,true,true,false,false,false] rfl rfl (by kernel_rfl) (fun _ _ _ h=>h) (Or.inl ⟨by rfl,?_⟩) ?_ ?_
            rotate_left
            ·intro w'
             go_simp
             with_reducible rfl
            rotate_left
            ·simp only [Act.put,s1_,s2_,s3_,i64_w,i32_w]
             rfl
            refine pure_ (i:=31) (N:=some 103) (v:=?_) (a':=?_) #[true,true,true,true,true,true,true,true,true,true,true,true,true,true,true,true,true,true,true,true,true,true,true,true,true,true,true,true,true,true,true,true,false,false] rfl rfl (by kernel_rfl) (fun _ _ _ h=>h) (Or.inl ⟨by rfl,?_⟩) ?_ ?_
            rotate_left
            ·intro w'
             go_simp
             with_reducible rfl
            rotate_left
            ·simp only [Act.put,s1_,s2_,s3_,i64_w,i32_w]
             rfl
            refine pure_ (i:=32) (N:=some 104) (v:=?_) (a':=?_) #[true,true,true,true,true,true,true,true,true,true,true,true,true,true,true,true,true,true,true,true,true,true,true,true,true,true,true,true,true,true,true,true,true,false] rfl rfl (by kernel_rfl) (fun _ _ _ h=>h) (Or.inl ⟨by rfl,?_⟩) ?_ ?_
            rotate_left
            ·intro w'
             go_simp
             with_reducible rfl
            rotate_left
            ·simp only [Act.put,s1_,s2_,s3_,i64_w,i32_w]
             rfl
            refine pure_ (i:=33) (N:=some 2) (v:=?_) (a':=?_) #[true,true,true,true,true,true,true,true,true,true,true,true,true,true,true,true,true,true,true,true,true,true,true,true,true,true,true,true,true,true,true,true,true,true] rfl rfl (by kernel_rfl) (fun _ _ _ h=>h) (Or.inl ⟨by rfl,?_⟩) ?_ ?_
            rotate_left
            ·intro w'
             go_simp
             with_reducible rfl
            rotate_left
            ·simp only [Act.put,s1_,s2_,s3_,i64_w,i32_w]
             rfl
            refine done_ (by kernel_rfl) ?_
            try go_wp2
            go_ret
            exact ⟨by first | rfl | (simp [*];done),below_step HB.out HW.out⟩
           ·skip
            refine value_ (v:=.slice (some ⟨(World.heap wd).size,0,none⟩) 1 1) (w1:=World.alloc wd (.cells #[.int .i64 t14] 3)) (by rfl) rfl ?hr ?_
            case hr=>first | (go_simp;done) | (go_simp;rfl)
            obtain ⟨wL,ewL⟩ : ∃ w_,w_ = World.alloc wd (.cells #[.int .i64 t14] 3):=⟨_,rfl⟩
            have hbL : Below (World.heap wd).size wd wL:=by rw [ewL];exact below_alloc (Below.refl _ _) _
            have hCL:=lit_C wd t14
            rw [← ewL] at hCL ⊢
            clear ewL
            obtain ⟨gL,egL⟩ : ∃ g_,g_ = (World.heap wd).size:=⟨_,rfl⟩
            rw [← egL] at hCL ⊢
            clear egL
            have HS0_:=(hbL.cell (World.block_lt_of_cell? _ _ (hHeld.1))).trans (hHeld.1)
            have HS1_:=(hbL.cell (World.block_lt_of_cell? _ _ (hHeld.2.1))).trans (hHeld.2.1)
            have HS2_:=(hbL.cell (World.block_lt_of_cell? _ _ (hHeld.2.2.1))).trans (hHeld.2.2.1)
            have HS3_:=(hbL.cell (World.block_lt_of_cell? _ _ (hHeld.2.2.2))).trans (hHeld.2.2.2)
            have HCL:=a0_ hCL
            replace HW:=a0_ (below_step HW.out hbL)
            refine hK.out _ _ ⟨HS0_,HS1_,HS2_,HS3_⟩ (fun hHeld=>?_)
            clear hK K HS0_ HS1_ HS2_ HS3_
            refine norm_ (a':=?_) ?_ ?_
            rotate_left
            ·show Act.put _ (some 83) _ = _
             simp only [Act.put,s1_,s2_,s3_,i64_w,i32_w]
             rfl
            refine one_ (i:=9) (N:=some 81) #[true,true,true,true,true,true,true,true,true,true,true,true,false,false,false,false,false,false,false,false,false,false,false,false,false,false,false,false,false,false,false,false,false,false] rfl rfl (by kernel_rfl) (by decide) (fun K hK=>?_)
            refine goes_ Try.func11 (by kernel_rfl) rfl #[.agg #[.slice Ao10 t1.length co10],.agg #[.slice (some ad37) t11.length co17],.int .i64 t14] (by rfl) rfl rfl (by (try simp only [List.map_toArray,List.map_cons,List.map_nil]);(first | done | rfl | (rw [hyl];rfl) | (simp only [List.length_drop,List.length_take];rfl))) ?_
            with_reducible refine (HSC.out _ HW.out).mono ?_
            rintro e wS ⟨vS,rfl,hoS,hbS⟩
            obtain ⟨AS,cS,eS⟩:=Kd.R_slice hoS
            subst eS
            refine ⟨_,rfl,?_⟩
            have HS0_:=(hbS.cell (World.block_lt_of_cell? _ _ (hHeld.1))).trans (hHeld.1)
            have HS1_:=(hbS.cell (World.block_lt_of_cell? _ _ (hHeld.2.1))).trans (hHeld.2.1)
            have HS2_:=(hbS.cell (World.block_lt_of_cell? _ _ (hHeld.2.2.1))).trans (hHeld.2.2.1)
            have HS3_:=(hbS.cell (World.block_lt_of_cell? _ _ (hHeld.2.2.2))).trans (hHeld.2.2.2)
            have HCS:=a0_ (Kd.R_reads' hoS).2
            replace HW:=a0_ (below_step HW.out hbS)
            replace HCL:=a0_ (Kd.C_below HCL.out hbS)
            refine hK.out _ _ ⟨HS0_,HS1_,HS2_,HS3_⟩ (fun hHeld=>?_)
            clear hK K HS0_ HS1_ HS2_ HS3_
            refine norm_ (a':=?_) ?_ ?_
            rotate_left
            ·show Act.put _ (some 81) _ = _
             simp only [Act.put,s1_,s2_,s3_,i64_w,i32_w]
             rfl
            refine one_ (i:=12) (N:=some 84) #[true,true,true,true,true,true,true,true,true,true,true,true,true,false,false,false,false,false,false,false,false,false,false,false,false,false,false,false,false,false,false,false,false,false] rfl rfl (by kernel_rfl) (by decide) (fun K hK=>?_)
            refine goes_ Try.func12 (by kernel_rfl) rfl #[.slice AS t25.length cS,.slice (some ⟨gL,0,none⟩) 1 1] (by rfl) rfl rfl (by (try simp only [List.map_toArray,List.map_cons,List.map_nil]);(first | done | rfl | (rw [hyl];rfl) | (simp only [List.length_drop,List.length_take];rfl))) ?_
            with_reducible refine (HEI.out _ _ _ _ _ HCS.out.2 HCS.out.1 HCL.out (Nat.le_refl 1)).mono ?_
            rintro e wE ⟨rfl,⟨nd,rfl⟩⟩
            refine ⟨_,rfl,?_⟩
            have hbE:=pw_below_drewN (Below.refl (World.heap wS).size wS) nd
            have HS0_:=(hbE.cell (World.block_lt_of_cell? _ _ (hHeld.1))).trans (hHeld.1)
            have HS1_:=(hbE.cell (World.block_lt_of_cell? _ _ (hHeld.2.1))).trans (hHeld.2.1)
            have HS2_:=(hbE.cell (World.block_lt_of_cell? _ _ (hHeld.2.2.1))).trans (hHeld.2.2.1)
            have HS3_:=(hbE.cell (World.block_lt_of_cell? _ _ (hHeld.2.2.2))).trans (hHeld.2.2.2)
            replace HW:=a0_ (below_step HW.out hbE)
            refine hK.out _ _ ⟨HS0_,HS1_,HS2_,HS3_⟩ (fun hHeld=>?_)
            clear hK K HS0_ HS1_ HS2_ HS3_
            refine norm_ (a':=?_) ?_ ?_
            rotate_left
            ·show Act.put _ (some 84) _ = _
             simp only [Act.put,s1_,s2_,s3_,i64_w,i32_w]
             rfl
            refine pure_ (i:=13) (N:=some 85) (v:=?_) (a':=?_) #[true,true,true,true,true,true,true,true,true,true,true,true,true,true,false,false,false,false,false,false,false,false,false,false,false,false,false,false,false,false,false,false,false,false] rfl rfl (by kernel_rfl) (fun _ _ _ h=>h) (Or.inl ⟨by rfl,?_⟩) ?_ ?_
            rotate_left
            ·intro w'
             go_simp
             with_reducible rfl
            rotate_left
            ·simp only [Act.put,s1_,s2_,s3_,i64_w,i32_w]
             rfl
            refine pure_ (i:=14) (N:=some 86) (v:=?_) (a':=?_) #[true,true,true,true,true,true,true,true,true,true,true,true,true,true,true,false,false,false,false,false,false,false,false,false,false,false,false,false,false,false,false,false,false,false] rfl rfl (by kernel_rfl) (fun _ _ _ h=>h) (Or.inl ⟨by rfl,?_⟩) ?_ ?_
            rotate_left
            ·intro w'
             go_simp
             with_reducible rfl
            rotate_left
            ·simp only [Act.put,s1_,s2_,s3_,i64_w,i32_w]
             rfl
            refine pure_ (i:=15) (N:=some 87) (v:=?_) (a':=?_) #[true,true,true,true,true,true,true,true,true,true,true,true,true,true,true,true,false,false,false,false,false,false,false,false,false,false,false,false,false,false,false,false,false,false] rfl rfl (by kernel_rfl) (fun _ _ _ h=>h) (Or.inl ⟨by rfl,?_⟩) ?_ ?_
            rotate_left
            ·intro w'
             go_simp
             with_reducible rfl
            rotate_left
            ·simp only [Act.put,s1_,s2_,s3_,i64_w,i32_w]
             rfl
            refine take_ (i:=16) (N:=some 88) (v:=?_) (a':=?_) #[true,true,true,true,true,true,true,true,true,true,true,true,true,true,true,true,true,false,false,false,false,false,false,false,false,false,false,false,false,false,false,false,false,false] rfl rfl (by kernel_rfl) (fun _ _ _ h=>h) (Or.inl ⟨by rfl,?_⟩) hHeld ?_ ?_
            rotate_left
            ·rintro w' ⟨s0,s1,s2,s3⟩
             go_simp
             with_reducible rfl
            rotate_left
            ·simp only [Act.put,s1_,s2_,s3_,i64_w,i32_w]
             rfl
            refine pure_ (i:=17) (N:=some 89) (v:=?_) (a':=?_) #[true,true,true,true,true,true,true,true,true,true,true,true,true,true,true,true,true,true,false,false,false,false,false,false,false,false,false,false,false,false,false,false,false,false] rfl rfl (by kernel_rfl) (fun _ _ _ h=>h) (Or.inl ⟨by rfl,?_⟩) ?_ ?_
            rotate_left
            ·intro w'
             go_simp
             with_reducible rfl
            rotate_left
            ·simp only [Act.put,s1_,s2_,s3_,i64_w,i32_w]
             rfl
            refine pure_ (i:=18) (N:=some 90) (v:=?_) (a':=?_) #[true,true,true,true,true,true,true,true,true,true,true,true,true,true,true,true,true,true,true,false,false,false,false,false,false,false,false,false,false,false,false,false,false,false] rfl rfl (by kernel_rfl) (fun _ _ _ h=>h) (Or.inl ⟨by rfl,?_⟩) ?_ ?_
            rotate_left
            ·intro w'
             go_simp
             with_reducible rfl
            rotate_left
            ·simp only [Act.put,s1_,s2_,s3_,i64_w,i32_w]
             rfl
            refine pure_ (i:=19) (N:=some 91) (v:=?_) (a':=?_) #[true,true,true,true,true,true,true,true,true,true,true,true,true,true,true,true,true,true,true,true,false,false,false,false,false,false,false,false,false,false,false,false,false,false] rfl rfl (by kernel_rfl) (fun _ _ _ h=>h) (Or.inl ⟨by rfl,?_⟩) ?_ ?_
            rotate_left
            ·intro w'
             go_simp
             with_reducible rfl
            rotate_left
            ·simp only [Act.put,s1_,s2_,s3_,i64_w,i32_w]
             rfl
            refine take_ (i:=20) (N:=some 92) (v:=?_) (a':=?_) #[true,true,true,true,true,true,true,true,true,true,true,true,true,true,true,true,true,true,true,true,true,false,false,false,false,false,false,false,false,false,false,false,false,false] rfl rfl (by kernel_rfl) (fun _ _ _ h=>h) (Or.inl ⟨by rfl,?_⟩) hHeld ?_ ?_
            rotate_left
            ·rintro w' ⟨s0,s1,s2,s3⟩
             go_simp
             with_reducible rfl
            rotate_left
            ·simp only [Act.put,s1_,s2_,s3_,i64_w,i32_w]
             rfl
            refine one_ (i:=21) (N:=some 93) #[true,true,true,true,true,true,true,true,true,true,true,true,true,true,true,true,true,true,true,true,true,true,false,false,false,false,false,false,false,false,false,false,false,false] rfl rfl (by kernel_rfl) (by decide) (fun K hK=>?_)
            refine goes_ Try.func19 (by kernel_rfl) rfl #[.agg #[.slice (some ad37) y32.length co17],.agg #[.slice Ao13 t4.length co13]] (by rfl) rfl rfl (by (try simp only [List.map_toArray,List.map_cons,List.map_nil]);(first | done | rfl | (rw [hyl];rfl) | (simp only [List.length_drop,List.length_take];rfl))) ?_
            with_reducible refine (HEH.out _ HW.out).mono ?_
            rintro e wH ⟨rfl,hbH⟩
            refine ⟨_,rfl,?_⟩
            have HS0_:=(hbH.cell (World.block_lt_of_cell? _ _ (hHeld.1))).trans (hHeld.1)
            have HS1_:=(hbH.cell (World.block_lt_of_cell? _ _ (hHeld.2.1))).trans (hHeld.2.1)
            have HS2_:=(hbH.cell (World.block_lt_of_cell? _ _ (hHeld.2.2.1))).trans (hHeld.2.2.1)
            have HS3_:=(hbH.cell (World.block_lt_of_cell? _ _ (hHeld.2.2.2))).trans (hHeld.2.2.2)
            replace HW:=a0_ (below_step HW.out hbH)
            refine hK.out _ _ ⟨HS0_,HS1_,HS2_,HS3_⟩ (fun hHeld=>?_)
            clear hK K HS0_ HS1_ HS2_ HS3_
            refine norm_ (a':=?_) ?_ ?_
            rotate_left
            ·show Act.put _ (some 93) _ = _
             simp only [Act.put,s1_,s2_,s3_,i64_w,i32_w]
             rfl
            refine pure_ (i:=22) (N:=some 94) (v:=?_) (a':=?_) #[true,true,true,true,true,true,true,true,true,true,true,true,true,true,true,true,true,true,true,true,true,true,true,false,false,false,false,false,false,false,false,false,false,false] rfl rfl (by kernel_rfl) (fun _ _ _ h=>h) (Or.inl ⟨by rfl,?_⟩) ?_ ?_
            rotate_left
            ·intro w'
             go_simp
             with_reducible rfl
            rotate_left
            ·simp only [Act.put,s1_,s2_,s3_,i64_w,i32_w]
             rfl
            refine pure_ (i:=23) (N:=some 95) (v:=?_) (a':=?_) #[true,true,true,true,true,true,true,true,true,true,true,true,true,true,true,true,true,true,true,true,true,true,true,true,false,false,false,false,false,false,false,false,false,false] rfl rfl (by kernel_rfl) (fun _ _ _ h=>h) (Or.inl ⟨by rfl,?_⟩) ?_ ?_
            rotate_left
            ·intro w'
             go_simp
             with_reducible rfl
            rotate_left
            ·simp only [Act.put,s1_,s2_,s3_,i64_w,i32_w]
             rfl
            refine pure_ (i:=24) (N:=some 96) (v:=?_) (a':=?_) #[true,true,true,true,true,true,true,true,true,true,true,true,true,true,true,true,true,true,true,true,true,true,true,true,true,false,false,false,false,false,false,false,false,false] rfl rfl (by kernel_rfl) (fun _ _ _ h=>h) (Or.inl ⟨by rfl,?_⟩) ?_ ?_
            rotate_left
            ·intro w'
             go_simp
             with_reducible rfl
            rotate_left
            ·simp only [Act.put,s1_,s2_,s3_,i64_w,i32_w]
             rfl
            refine take_ (i:=25) (N:=some 97) (v:=?_) (a':=?_) #[true,true,true,true,true,true,true,true,true,true,true,true,true,true,true,true,true,true,true,true,true,true,true,true,true,true,false,false,false,false,false,false,false,false] rfl rfl (by kernel_rfl) (fun _ _ _ h=>h) (Or.inl ⟨by rfl,?_⟩) hHeld ?_ ?_
            rotate_left
            ·rintro w' ⟨s0,s1,s2,s3⟩
             go_simp
             with_reducible rfl
            rotate_left
            ·simp only [Act.put,s1_,s2_,s3_,i64_w,i32_w]
             rfl
            refine pure_ (i:=26) (N:=some 98) (v:=?_) (a':=?_) #[true,true,true,true,true,true,true,true,true,true,true,true,true,true,true,true,true,true,true,true,true,true,true,true,true,true,true,false,false,false,false,false,false,false] rfl rfl (by kernel_rfl) (fun _ _ _ h=>h) (Or.inl ⟨by rfl,?_⟩) ?_ ?_
            rotate_left
            ·intro w'
             go_simp
             with_reducible rfl
            rotate_left
            ·simp only [Act.put,s1_,s2_,s3_,i64_w,i32_w]
             rfl
            refine pure_ (i:=27) (N:=some 99) (v:=?_) (a':=?_) #[true,true,true,true,true,true,true,true,true,true,true,true,true,true,true,true,true,true,true,true,true,true,true,true,true,true,true,true,false,false,false,false,false,false] rfl rfl (by kernel_rfl) (fun _ _ _ h=>h) (Or.inl ⟨by rfl,?_⟩) ?_ ?_
            rotate_left
            ·intro w'
             go_simp
             with_reducible rfl
            rotate_left
            ·simp only [Act.put,s1_,s2_,s3_,i64_w,i32_w]
             rfl
            refine pure_ (i:=28) (N:=some 100) (v:=?_) (a':=?_) #[true,true,true,true,true,true,true,true,true,true,true,true,true,true,true,true,true,true,true,true,true,true,true,true,true,true,true,true,true,false,false,false,false,false] rfl rfl (by kernel_rfl) (fun _ _ _ h=>h) (Or.inl ⟨by rfl,?_⟩) ?_ ?_
            rotate_left
            ·intro w'
             go_simp
             with_reducible rfl
            rotate_left
            ·simp only [Act.put,s1_,s2_,s3_,i64_w,i32_w]
             rfl
            refine take_ (i:=29) (N:=some 101) (v:=?_) (a':=?_) #[true,true,true,true,true,true,true,true,true,true,true,true,true,true,true,true,true,true,true,true,true,true,true,true,true,true,true,true,true,true,false,false,false,false] rfl rfl (by kernel_rfl) (fun _ _ _ h=>h) (Or.inl ⟨by rfl,?_⟩) hHeld ?_ ?_
            rotate_left
            ·rintro w' ⟨s0,s1,s2,s3⟩
             go_simp
             with_reducible rfl
            rotate_left
            ·simp only [Act.put,s1_,s2_,s3_,i64_w,i32_w]
             rfl
            refine pure_ (i:=30) (N:=some 102) (v:=?_) (a':=?_) #[true,true,true,true,true,true,true,true,true,true,true,true,true,true,true,true,true,true,true,true,true,true,true,true,true,true,true,true,true,true,true,false,false,false] rfl rfl (by kernel_rfl) (fun _ _ _ h=>h) (Or.inl ⟨by rfl,?_⟩) ?_ ?_
            rotate_left
            ·intro w'
             go_simp
             with_reducible rfl
            rotate_left
            ·simp only [Act.put,s1_,s2_,s3_,i64_w,i32_w]
             rfl
            refine pure_ (i:=31) (N:=some 103) (v:=?_) (a':=?_) #[true,true,true,true,true,true,true,true,true,true,true,true,true,true,true,true,true,true,true,true,true,true,true,true,true,true,true,true,true,true,true,true,false,false] rfl rfl (by kernel_rfl) (fun _ _ _ h=>h) (Or.inl ⟨by rfl,?_⟩) ?_ ?_
            rotate_left
            ·intro w'
             go_simp
             with_reducible rfl
            rotate_left
            ·simp only [Act.put,s1_,s2_,s3_,i64_w,i32_w]
             rfl
            refine pure_ (i:=32) (N:=some 104) (v:=?_) (a':=?_) #[true,true,true,true,true,true,true,true,true,true,true,true,true,true,true,true,true,true,true,true,true,true,true,true,true,true,true,true,true,true,true,true,true,false] rfl rfl (by kernel_rfl) (fun _ _ _ h=>h) (Or.inl ⟨by rfl,?_⟩) ?_ ?_
            rotate_left
            ·intro w'
             go_simp
             with_reducible rfl
            rotate_left
            ·simp only [Act.put,s1_,s2_,s3_,i64_w,i32_w]
             rfl
            refine pure_ (i:=33) (N:=some 2) (v:=?_) (a':=?_) #[true,true,true,true,true,true,true,true,true,true,true,true,true,true,true,true,true,true,true,true,true,true,true,true,true,true,true,true,true,true,true,true,true,true] rfl rfl (by kernel_rfl) (fun _ _ _ h=>h) (Or.inl ⟨by rfl,?_⟩) ?_ ?_
            rotate_left
            ·intro w'
             go_simp
             with_reducible rfl
            rotate_left
            ·simp only [Act.put,s1_,s2_,s3_,i64_w,i32_w]
             rfl
            refine done_ (by kernel_rfl) ?_
            try go_wp2
            go_ret
            exact ⟨by first | rfl | (simp [*];done),below_step HB.out HW.out⟩
          ·rw [if_neg c102] at H
           exact absurd H (by simp)
         ·replace c101:=Bool.eq_false_iff.mpr c101
          subst c101
          have H1 : (some false) = some r:=by rw [if_neg (show ¬ (false = true) by decide)] at H;exact H
          clear H
          have H:=H1
          clear H1
          exact absurd ((Option.some.inj H).trans hrt) (by decide)
        ·rw [if_neg c99] at H
         exact absurd H (by simp)
       ·rw [if_neg c98] at H
        exact absurd H (by simp)
      ·replace c97:=Bool.eq_false_iff.mpr c97
       subst c97
       have H1 : (some false) = some r:=by rw [if_neg (show ¬ (false = true) by decide)] at H;exact H
       clear H
       have H:=H1
       clear H1
       exact absurd ((Option.some.inj H).trans hrt) (by decide)
     ·rw [if_neg c94] at H
      have c94b0 : (t14 == (t4.length : Int)) = false:=beq_eq_false_iff_ne.mpr c94
      have c94b1 : (t14 != (t4.length : Int)) = true:=bne_iff_ne.mpr c94
      exact absurd ((Option.some.inj H).trans hrt) (by decide)
def laws_FnNewFault.Pure : Prop:=∀ (l0 : List Int),l0.length ≤ maxLen → l0.length * 1 ≤ 140737488351232 → (∀ x ∈ l0,(Lit.int .u8 x).wf = true) → ∃ k,laws_FnNewFault.f k l0 = some true
theorem laws_FnNewFault.walk (P : laws_FnNewFault.Pure) (a0 : Option Addr) (len0 cap0 : Nat) (z0 : List Int) (w : World) (w0 : (a0 = none ∧ len0 = 0 ∧ cap0 = 0 ∧ z0 = []) ∨ ∃ x,a0 = some x ∧ len0 ≤ cap0 ∧ cap0 ≤ maxLen ∧ z0.length = cap0 ∧ (∀ i,i < z0.length → w.cell? (x.add i) = some (.int .u8 (z0.getD i 0))) ∧ ∀ n ∈ z0,(Lit.int .u8 n).wf = true) (y0 : len0 * 1 ≤ 140737488351232) :
  Calls Try.prog 4 #[.slice a0 len0 cap0] w fun e w'=>e = .returned (.bool true) ∧ Below w.heap.size w w':=by
 obtain ⟨l0,rfl,hr0,hm0,hw0,hc0⟩:=ReadsInt.ofRowC w0
 obtain ⟨k,h⟩:=P l0 hm0 y0 hw0
 refine (laws_FnNewFault.calls k _ _ l0 true w (Kd.C_of_reads (d:=(0 : Int)) (h1:=fun _=>rfl) hr0) hc0 h).mono ?_
 rintro e w' ⟨rfl,hd⟩
 exact ⟨rfl,hd⟩
end Go.Proofs.Ytmiholmfbjalfaa.P
namespace Go.Proofs.Ytmiholmfbjalfaa.P
open Go.RowKit Go.Proofs.YtmiholmfbjalfaaW.PrintWords Go.Proofs.YtmiholmfbjalfaaW.PrintLast Go.Proofs.YtmiholmfbjalfaaW.PrintMore
attribute [local go_sem] max2_int min2_int max_two min_two max_three min_three max_four min_four
set_option linter.unusedVariables false
set_option linter.unusedSimpArgs false
theorem chain_link (next : Int → Int) : ∀ (d : Nat) (out : List Int) (x : Int) (k : Nat),k + 1 < (chainL next d out x).length → (chainL next d out x).getD (k + 1) 0 = next ((chainL next d out x).getD k 0):=by
 intro d
 induction d with
 | zero=>intro out x k hk;simp [chainL] at hk
 | succ d ih =>
  intro out x k hk
  rw [chainL] at hk ⊢
  by_cases hc : 0 ≤ x ∧ out.contains x = false
  ·rw [if_pos hc] at hk ⊢
   rw [List.length_cons] at hk
   cases k with
   | zero =>
    cases d with
    | zero=>simp [chainL] at hk
    | succ d =>
     rw [chainL] at hk ⊢
     by_cases hc2 : 0 ≤ next x ∧ (out ++ [x]).contains (next x) = false
     ·rw [if_pos hc2]
      simp
     ·rw [if_neg hc2] at hk
      simp at hk
   | succ k=>exact ih (out ++ [x]) (next x) k (by omega)
  ·rw [if_neg hc] at hk
   simp at hk
theorem chain_nodup (next : Int → Int) : ∀ (d : Nat) (out : List Int) (x : Int),(chainL next d out x).Nodup:=by
 intro d
 induction d with
 | zero=>intro out x;exact List.nodup_nil
 | succ d ih =>
  intro out x
  rw [chainL]
  split
  ·refine List.nodup_cons.2 ⟨fun hm=>?_,ih _ _⟩
   have:=(chain_mem next d (out ++ [x]) (next x) x hm).2
   rw [show (out ++ [x]).contains x = true by rw [List.contains_iff_mem];simp] at this
   cases this
  ·exact List.nodup_nil
theorem chain_last (next : Int → Int) (N : Nat) (hn : ∀ x : Int,0 ≤ x → x < (N : Int) → next x < (N : Int)) : ∀ (d : Nat) (out : List Int) (x : Int),x < (N : Int) → restN N out ≤ d → chainL next d out x ≠ [] → next (lastI (chainL next d out x)) < 0 ∨ next (lastI (chainL next d out x)) ∈ out ++ chainL next d out x:=by
 intro d
 induction d with
 | zero=>intro out x _ _ hne;exact absurd rfl hne
 | succ d ih =>
  intro out x hx hr hne
  rw [chainL] at hne ⊢
  by_cases hc : 0 ≤ x ∧ out.contains x = false
  ·rw [if_pos hc] at hne ⊢
   have hlt:=restN_lt hc.1 hx hc.2
   cases hq : chainL next d (out ++ [x]) (next x) with
   | nil =>
    have e : lastI [x] = x:=by simp [lastI]
    rw [e]
    by_cases h0 : 0 ≤ next x
    ·right
     have hin : (out ++ [x]).contains (next x) = true:=by
      cases hz : (out ++ [x]).contains (next x) with
      | true=>rfl
      | false =>
       cases d with
       | zero =>
        have:=restN_zero (n:=N) (out:=out ++ [x]) h0 (hn x hc.1 hx) (by omega)
        rw [this] at hz
        cases hz
       | succ d =>
        rw [chainL,if_pos ⟨h0,hz⟩] at hq
        cases hq
     rwa [List.contains_iff_mem] at hin
    ·left;omega
   | cons z r =>
    rw [lastI_cons,← hq]
    rcases ih (out ++ [x]) (next x) (hn x hc.1 hx) (by omega) (by rw [hq];simp) with h2 | h2
    ·exact Or.inl h2
    ·right
     rw [List.append_assoc] at h2
     exact h2
  ·rw [if_neg hc] at hne
   exact absurd rfl hne
theorem shwL_chain (h : List Fau) (f : Int) : shwL h f = chainL (shwN h) h.length [] f:=by
 unfold shwL
 rw [walkL_chain]
 rfl
section
variable {t : List Cls} {h : List Fau} {f : Int}
theorem shw_rng (hv : vH t h = true) (x : Int) (h0 : 0 ≤ x) (h1 : x < (h.length : Int)) : -1 ≤ shwN h x ∧ shwN h x < (h.length : Int):=fsH_shw (vH_parts hv).1 x h0 h1
theorem shw_head (h0 : 0 ≤ f) (h1 : f < (h.length : Int)) : (shwL h f).getD 0 0 = f:=by
 rw [shwL_chain]
 obtain ⟨n,hn⟩ : ∃ n,h.length = n + 1:=⟨h.length - 1,by omega⟩
 rw [hn,chainL,if_pos ⟨h0,by simp⟩]
 rfl
theorem shw_link (k : Nat) (hk : k + 1 < (shwL h f).length) : (shwL h f).getD (k + 1) 0 = shwN h ((shwL h f).getD k 0):=by
 rw [shwL_chain] at hk ⊢
 exact chain_link _ _ _ _ k hk
theorem shw_new (k : Nat) (hk : k < (shwL h f).length) : ((shwL h f).take k).contains ((shwL h f).getD k 0) = false:=by
 cases hq : ((shwL h f).take k).contains ((shwL h f).getD k 0) with
 | false=>rfl
 | true =>
  rw [List.contains_iff_mem,List.mem_take_iff_getElem] at hq
  obtain ⟨j,hj,e⟩:=hq
  have hnd:=chain_nodup (shwN h) h.length [] f
  rw [← shwL_chain] at hnd
  rw [List.getD_eq_getElem?_getD,List.getElem?_eq_getElem hk] at e
  have:=(List.getElem_inj hnd).1 e
  omega
theorem shw_last (hv : vH t h = true) (h0 : 0 ≤ f) (h1 : f < (h.length : Int)) : shwN h (lastI (shwL h f)) = -1 ∨ (shwL h f).contains (shwN h (lastI (shwL h f))) = true:=by
 have hp:=shwL_pos h f h0 h1
 have hm:=shwL_mem (fun x a b=>(shw_rng hv x a b).2) f h1 _ (lastI_mem hp)
 have hr:=shw_rng hv _ hm.1 hm.2
 have hc:=chain_last (shwN h) h.length (fun x a b=>(shw_rng hv x a b).2) h.length [] f h1 (restN_le _ _)
 rw [← shwL_chain] at hc
 rcases hc (fun hh=>by rw [hh] at hp;simp at hp) with h2 | h2
 ·left;omega
 ·right;rw [List.contains_iff_mem];exact h2
theorem ctx_last (hv : vH t h = true) (h0 : 0 ≤ f) (h1 : f < (h.length : Int)) : ctxN h (lastI (ctxL h f)) = -1:=by
 have hp:=ctxL_pos h f h0 h1
 have hm:=ctxL_mem (fun x a b=>(fsH_ctx (vH_parts hv).1 x a b).2) f h1 _ (lastI_mem hp)
 have hr:=fsH_ctx (vH_parts hv).1 _ hm.1 hm.2
 have:=all_at (vH_parts hv).2.1 f.toNat (by omega)
 unfold endB at this
 rw [show ((f.toNat : Nat) : Int) = f by omega] at this
 have:=of_decide_eq_true this
 omega
theorem ctx_head (h0 : 0 ≤ f) (h1 : f < (h.length : Int)) : (ctxL h f).getD 0 0 = f:=by
 unfold ctxL
 rw [walkL_chain]
 obtain ⟨n,hn⟩ : ∃ n,h.length = n + 1:=⟨h.length - 1,by omega⟩
 rw [hn,chainL,if_pos ⟨h0,by simp⟩]
 rfl
end
theorem hasF_mk {h : List Fau} {f : Int} (h0 : 0 ≤ f) (h1 : f < (h.length : Int)) : hasF h f = true:=by
 unfold hasF
 rw [Bool.and_eq_true,decide_eq_true_eq,decide_eq_true_eq]
 omega
theorem good_mk {t : List Cls} {h : List Fau} {f : Int} (hv : vH t h = true) (h0 : 0 ≤ f) (h1 : f < (h.length : Int)) : (vH t h && hasF h f) = true:=by
 rw [hv,hasF_mk h0 h1]
 rfl
end Go.Proofs.Ytmiholmfbjalfaa.P
namespace Go.Proofs.Ytmiholmfbjalfaa.Pure
open Go.RowKit Go.Proofs.Ytmiholmfbjalfaa.P
open Go.Proofs.YtmiholmfbjalfaaW.PrintWords (rd rdOf wrap_succ wrap_pred wrap_in toL_beq idxP)
set_option linter.unusedVariables false
theorem FnNewFault : laws_FnNewFault.Pure:=by
 intro l0 _ _ hw
 refine Ev.out (F:=fun k=>laws_FnNewFault.f k l0) ?_
 unfold laws_FnNewFault.f
 by_cases hbig : (l0.length : Int) > 1048576
 ·exact Ev.pos hbig (Ev.const rfl)
 refine Ev.neg hbig ?_
 obtain ⟨t,h,a,c,hd,ht,hs,hh⟩:=spec_DrawNewFault_ev l0 hw
 have hI:=impl_NewFault_ev t h a c hs (by omega)
 have hS:=spec_NewFault_ev t h a c hs (by omega) (by omega)
 by_cases hc : (vH t h && vH t (h ++ [⟨a,c,-1,-1,false⟩])) = true
 ·obtain ⟨o,ho⟩ : ∃ o : List Fau,o = h ++ [⟨a,c,-1,-1,false⟩]:=⟨_,rfl⟩
  have hr : newP t h a c = (o,(h.length : Int),true):=by unfold newP;rw [if_pos hc,ho]
  rw [hr] at hI hS
  have hl : o.length = h.length + 1:=by rw [ho];simp
  rw [Bool.and_eq_true,← ho] at hc
  have hat : fauAt o (h.length : Int) = ⟨a,c,-1,-1,false⟩:=by
   unfold fauAt
   rw [Int.toNat_natCast,ho,List.getD_eq_getElem?_getD,List.getElem?_append_right (Nat.le_refl _),Nat.sub_self]
   rfl
  have hgo : (vH t o && hasF o (h.length : Int)) = true:=good_mk hc.2 (by omega) (by omega)
  have hC:=impl_ShownChain_ev t o (h.length : Int) hs (by omega)
  have hsn : shwN o (h.length : Int) = -1:=by
   unfold shwN
   have : o.getD ((h.length : Int)).toNat z43 = fauAt o (h.length : Int):=rfl
   rw [this,hat]
   rfl
  have hch : shcP t o (h.length : Int) = [(h.length : Int)]:=by
   unfold shcP
   rw [if_pos hgo]
   unfold shwL
   rw [hl]
   show walkL (shwN o) (h.length + 1) [] (h.length : Int) = _
   rw [walkL,if_pos ⟨by omega,by simp⟩,walkL_stop _ _ _ _ (by rw [hsn];simp)]
   rfl
  rw [hch] at hC
  have htk : o.take ((h.length : Int)).toNat = h:=by rw [Int.toNat_natCast,ho,List.take_left]
  have hrd : (rd_T43 o (h.length : Int)).f0 = a:=by
   have : rd_T43 o (h.length : Int) = fauAt o (h.length : Int):=rfl
   rw [this,hat]
  refine Ev.bind hd (Ev.bind (Ev.const hI) (Ev.bind hS (Ev.bind (laws_equalHeap_ev _ (show o.length ≤ 9223372036854775806 by omega)) (Ev.pos rfl (Ev.pos rfl (Ev.neg (by simp) (Ev.succ ?_)))))))
  simp only [laws_FnNewFault.j0,htk,hrd]
  exact Ev.neg (by simp) (Ev.pos (by first | trivial | rfl) (Ev.bind (Ev.const hC) (Ev.bind (laws_equalInts_ev _ (by simp)) (Ev.pos rfl (Ev.pos (by omega) (Ev.pos (by omega) (Ev.bind (laws_equalHeap_ev _ (show h.length ≤ 9223372036854775806 by omega)) (Ev.pos rfl (Ev.pos (by omega) (Ev.const (by simp)))))))))))
 ·have hr : newP t h a c = ([],-1,false):=by unfold newP;rw [if_neg hc]
  rw [hr] at hI hS
  refine Ev.bind hd (Ev.bind (Ev.const hI) (Ev.bind hS (Ev.bind (laws_equalHeap_ev _ (by simp)) (Ev.pos rfl (Ev.pos rfl (Ev.neg (by simp) (Ev.succ ?_)))))))
  simp only [laws_FnNewFault.j0]
  exact Ev.pos (by rfl) (Ev.bind (laws_equalHeap_ev _ (by simp)) (Ev.pos rfl (Ev.pos (by first | trivial | rfl) (Ev.const rfl))))
end Go.Proofs.Ytmiholmfbjalfaa.Pure
