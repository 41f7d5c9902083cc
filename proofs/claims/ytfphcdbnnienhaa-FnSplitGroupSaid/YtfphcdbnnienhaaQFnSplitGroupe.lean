/- Texts under the proof of FnSplitGroup: helper words, the functions' contracts and the plain laws. No condition. -/
import Derived.Test.YtfphcdbnnienhaaQFnSplitGroupa
import Derived.Test.YtfphcdbnnienhaaQFnSplitGroupc
import Derived.Test.YtfphcdbnnienhaaQFnSplitGroupd
namespace Go.Proofs.Ytfphcdbnnienhaa.P
open Go.RowKit Go.Proofs.YtfphcdbnnienhaaW.PrintWords Go.Proofs.YtfphcdbnnienhaaW.PrintLast Go.Proofs.YtfphcdbnnienhaaW.PrintMore
attribute [local go_sem] max2_int min2_int max_two min_two max_three min_three max_four min_four
set_option linter.unusedVariables false
set_option linter.unusedSimpArgs false
mutual
def laws_FnSplitGroup.j0 : Nat → List (S47) → Int → List (S47) → List (S47) → List (S47) → List (S47) → Bool → List (S85) → Option (Bool)
 | 0,_,_,_,_,_,_,_,_=>none
 | k + 1,x4,x5,x6,x7,x8,x9,x60,x9000=>if x60 = true then ((laws_equalGroup.f k x6 x8).bind fun t25=>(if t25 = true then ((laws_equalGroup.f k x7 x9).bind fun t26=>(some t26)) else (some false))) else ((impl_LeavesOf.f k x9000 x6).bind fun t27=>((impl_LeavesOf.f k x9000 x7).bind fun t30=>((impl_LeavesOf.f k x9000 x4).bind fun t33=>(laws_FnSplitGroup.l0 k x5 x6 t27 t30 t33 0 x9000))))
def laws_FnSplitGroup.l0 : Nat → Int → List (S47) → List (S43) → List (S43) → List (S43) → Int → List (S85) → Option (Bool)
 | 0,_,_,_,_,_,_,_=>none
 | k + 1,x5,x6,x10,x11,x12,x13,x9000=>if x13 < (x12.length : Int) then (if 0 ≤ x13 then ((laws_count.f k x10 ((rd_T43 x12 x13).f0) ((rd_T43 x12 x13).f1)).bind fun t44=>((laws_count.f k x11 ((rd_T43 x12 x13).f0) ((rd_T43 x12 x13).f1)).bind fun t46=>((laws_count.f k x12 ((rd_T43 x12 x13).f0) ((rd_T43 x12 x13).f1)).bind fun t48=>(if (wrap64 (t44 + t46)) = t48 then ((laws_count.f k x10 ((rd_T43 x12 x13).f0) ((rd_T43 x12 x13).f1)).bind fun t50=>((impl_IsA.f k x9000 ((rd_T43 x12 x13).f0) x5).bind fun t52=>(if ((decide (t50 > 0)) != t52) = true then (some false) else (laws_FnSplitGroup.l0 k x5 x6 x10 x11 x12 (wrap64 (x13 + 1)) x9000)))) else (some false))))) else (none)) else ((impl_SplitGroup.f x9000 x6 x5).bind fun bt36=>(if (wrap64 ((x10.length : Int) + (x11.length : Int))) = (x12.length : Int) then (if (x6.length : Int) = 0 then (some true) else ((laws_equalGroup.f k bt36.1 x6).bind fun t42=>(if t42 = true then (some ((bt36.2.length : Int) == 0)) else (some false)))) else (some false)))
end
def laws_FnSplitGroup.f (k : Nat) (l0 : List Int) : Option (Bool):=if (l0.length : Int) > 1048576 then (some true) else ((spec_DrawSplitGroup.f k l0).bind fun bt1=>((impl_SplitGroup.f bt1.1 bt1.2.1 bt1.2.2).bind fun bt9=>((spec_SplitGroup.f k bt1.1 bt1.2.1 bt1.2.2).bind fun bt15=>((laws_equalGroup.f k bt9.1 bt15.1).bind fun t21=>(if t21 = true then ((laws_equalGroup.f k bt9.2 bt15.2).bind fun t22=>(if t22 = true then ((impl_ValidGroup.f k bt1.1 bt1.2.1).bind fun t23=>(if t23 = true then ((laws_has.f bt1.1 bt1.2.2).bind fun t24=>(laws_FnSplitGroup.j0 k bt1.2.1 bt1.2.2 bt9.1 bt9.2 bt15.1 bt15.2 (!t24) bt1.1)) else (laws_FnSplitGroup.j0 k bt1.2.1 bt1.2.2 bt9.1 bt9.2 bt15.1 bt15.2 true bt1.1))) else (laws_FnSplitGroup.j0 k bt1.2.1 bt1.2.2 bt9.1 bt9.2 bt15.1 bt15.2 true bt1.1))) else (laws_FnSplitGroup.j0 k bt1.2.1 bt1.2.2 bt9.1 bt9.2 bt15.1 bt15.2 true bt1.1))))))
theorem laws_FnSplitGroup.mono_l : ∀ k,(∀ y0 y1 y2 y3 y4 y5 y6 y7,LeO (laws_FnSplitGroup.j0 k y0 y1 y2 y3 y4 y5 y6 y7) (laws_FnSplitGroup.j0 (k + 1) y0 y1 y2 y3 y4 y5 y6 y7)) ∧ (∀ y0 y1 y2 y3 y4 y5 y6,LeO (laws_FnSplitGroup.l0 k y0 y1 y2 y3 y4 y5 y6) (laws_FnSplitGroup.l0 (k + 1) y0 y1 y2 y3 y4 y5 y6))
 | 0=>⟨fun _ _ _ _ _ _ _ _ r h=>by simp [laws_FnSplitGroup.j0] at h,fun _ _ _ _ _ _ _ r h=>by simp [laws_FnSplitGroup.l0] at h⟩
 | k + 1=>by
  obtain ⟨ih0,ih1⟩:=laws_FnSplitGroup.mono_l k
  refine ⟨?_,?_⟩
  ·intro y0 y1 y2 y3 y4 y5 y6 y7
   unfold laws_FnSplitGroup.j0
   repeat' first
   | (with_reducible exact ih0 _ _ _ _ _ _ _ _)
   | (with_reducible exact ih1 _ _ _ _ _ _ _)
   | (with_reducible exact impl_IsA.mono _ _ _ _)
   | (with_reducible exact impl_LeavesOf.mono _ _ _)
   | (with_reducible exact impl_ValidGroup.mono _ _ _)
   | (with_reducible exact laws_count.mono _ _ _ _)
   | (with_reducible exact laws_equalGroup.mono _ _ _)
   | (with_reducible exact spec_DrawSplitGroup.mono _ _)
   | (with_reducible exact spec_SplitGroup.mono _ _ _ _)
   | (with_reducible exact LeO.refl _)
   | (with_reducible exact LeO.none _)
   | (with_reducible refine LeO.ite ?_ ?_)
   | (with_reducible refine LeO.bind ?_ (fun _=>?_))
   | exact ih0 _ _ _ _ _ _ _ _
   | exact ih1 _ _ _ _ _ _ _
   | exact impl_IsA.mono _ _ _ _
   | exact impl_LeavesOf.mono _ _ _
   | exact impl_ValidGroup.mono _ _ _
   | exact laws_count.mono _ _ _ _
   | exact laws_equalGroup.mono _ _ _
   | exact spec_DrawSplitGroup.mono _ _
   | exact spec_SplitGroup.mono _ _ _ _
   | exact LeO.none _
   | refine LeO.ite ?_ ?_
   | refine LeO.bind ?_ (fun _=>?_)
  ·intro y0 y1 y2 y3 y4 y5 y6
   unfold laws_FnSplitGroup.l0
   repeat' first
   | (with_reducible exact ih0 _ _ _ _ _ _ _ _)
   | (with_reducible exact ih1 _ _ _ _ _ _ _)
   | (with_reducible exact impl_IsA.mono _ _ _ _)
   | (with_reducible exact impl_LeavesOf.mono _ _ _)
   | (with_reducible exact impl_ValidGroup.mono _ _ _)
   | (with_reducible exact laws_count.mono _ _ _ _)
   | (with_reducible exact laws_equalGroup.mono _ _ _)
   | (with_reducible exact spec_DrawSplitGroup.mono _ _)
   | (with_reducible exact spec_SplitGroup.mono _ _ _ _)
   | (with_reducible exact LeO.refl _)
   | (with_reducible exact LeO.none _)
   | (with_reducible refine LeO.ite ?_ ?_)
   | (with_reducible refine LeO.bind ?_ (fun _=>?_))
   | exact ih0 _ _ _ _ _ _ _ _
   | exact ih1 _ _ _ _ _ _ _
   | exact impl_IsA.mono _ _ _ _
   | exact impl_LeavesOf.mono _ _ _
   | exact impl_ValidGroup.mono _ _ _
   | exact laws_count.mono _ _ _ _
   | exact laws_equalGroup.mono _ _ _
   | exact spec_DrawSplitGroup.mono _ _
   | exact spec_SplitGroup.mono _ _ _ _
   | exact LeO.none _
   | refine LeO.ite ?_ ?_
   | refine LeO.bind ?_ (fun _=>?_)
theorem laws_FnSplitGroup.mono : ∀ a0 k,LeO (laws_FnSplitGroup.f k a0) (laws_FnSplitGroup.f (k + 1) a0):=by
 intro a0 k
 obtain ⟨ih0,ih1⟩:=laws_FnSplitGroup.mono_l k
 unfold laws_FnSplitGroup.f
 repeat' first
   | (with_reducible exact ih0 _ _ _ _ _ _ _ _)
   | (with_reducible exact ih1 _ _ _ _ _ _ _)
   | (with_reducible exact impl_IsA.mono _ _ _ _)
   | (with_reducible exact impl_LeavesOf.mono _ _ _)
   | (with_reducible exact impl_ValidGroup.mono _ _ _)
   | (with_reducible exact laws_count.mono _ _ _ _)
   | (with_reducible exact laws_equalGroup.mono _ _ _)
   | (with_reducible exact spec_DrawSplitGroup.mono _ _)
   | (with_reducible exact spec_SplitGroup.mono _ _ _ _)
   | (with_reducible exact LeO.refl _)
   | (with_reducible exact LeO.none _)
   | (with_reducible refine LeO.ite ?_ ?_)
   | (with_reducible refine LeO.bind ?_ (fun _=>?_))
   | exact ih0 _ _ _ _ _ _ _ _
   | exact ih1 _ _ _ _ _ _ _
   | exact impl_IsA.mono _ _ _ _
   | exact impl_LeavesOf.mono _ _ _
   | exact impl_ValidGroup.mono _ _ _
   | exact laws_count.mono _ _ _ _
   | exact laws_equalGroup.mono _ _ _
   | exact spec_DrawSplitGroup.mono _ _
   | exact spec_SplitGroup.mono _ _ _ _
   | exact LeO.none _
   | refine LeO.ite ?_ ?_
   | refine LeO.bind ?_ (fun _=>?_)
def laws_FnSplitGroup.T14 : Bool × List (List Nat × List Nat):=(true,[([],[]),([],[]),([],[]),([1,2],[1,2]),([3],[3]),([0,4],[0,4]),([],[]),([],[]),([],[]),([7,8],[7,8]),([9],[9]),([6,10,5],[6,10]),([5,11],[5,11]),([],[]),([],[]),([],[]),([14,15],[14,15]),([16],[16]),([13,17,11],[13,17]),([12,18],[12,18]),([19,18],[19]),([20],[20]),([20],[20]),([20],[20]),([22,23,20],[20,22,23]),([24,20],[20,24]),([21,25,20,20],[20,21,25]),([26,20],[20,26]),([20],[20]),([20],[20]),([20],[20]),([29,30,20],[20,29,30]),([31,20],[20,31]),([32,20],[20,32]),([20],[20]),([28,33,34,26,20],[20,28,33,34]),([27,35,20],[20,27,35]),([20,36],[20,36])])
def laws_FnSplitGroup.B14 : List Nat:=[0,0,0,6,14,31,0,0,0,384,896,2047,4095,0,0,0,49152,114688,258047,524287,1048575,2097151,2097151,2097151,14680063,31457279,67108863,134217727,2097151,2097151,2097151,1612709887,3760193535,8055160831,2097151,34225520639,68719476735,137438953471]
theorem laws_FnSplitGroup.tab14 : rtab .any (opsOf Try.f7 14) = laws_FnSplitGroup.T14:=by kernel_rfl
theorem laws_FnSplitGroup.bits14 : waitsOk laws_FnSplitGroup.T14.2 laws_FnSplitGroup.B14 = true:=by kernel_rfl
set_option maxHeartbeats 8000000 in
set_option maxRecDepth 100000 in
theorem laws_FnSplitGroup.calls (k : Nat) (A0 : Option Addr) (c0 : Nat) (l0 : List Int) (r : Bool) (w : World) (hr0 : Kd.C (Kd.int .u8) w A0 l0.length l0) (hc0 : l0.length ≤ c0) (h : laws_FnSplitGroup.f k l0 = some r) :
  Calls Try.prog 7 #[.slice A0 l0.length c0] w fun e w'=>e = .returned (.bool r) ∧ Below w.heap.size w w':=by
 have hu25:=Try.underlying25
 have hu43:=Try.underlying43
 have HR0:=a0_ hr0
 have HC0:=a0_ hc0
 clear hr0 hc0
 have HB:=a0_ (Below.refl w.heap.size w)
 have H : (if (l0.length : Int) > 1048576 then (some true) else ((spec_DrawSplitGroup.f k l0).bind fun bt1=>((impl_SplitGroup.f bt1.1 bt1.2.1 bt1.2.2).bind fun bt9=>((spec_SplitGroup.f k bt1.1 bt1.2.1 bt1.2.2).bind fun bt15=>((laws_equalGroup.f k bt9.1 bt15.1).bind fun t21=>(if t21 = true then ((laws_equalGroup.f k bt9.2 bt15.2).bind fun t22=>(if t22 = true then ((impl_ValidGroup.f k bt1.1 bt1.2.1).bind fun t23=>(if t23 = true then ((laws_has.f bt1.1 bt1.2.2).bind fun t24=>(laws_FnSplitGroup.j0 k bt1.2.1 bt1.2.2 bt9.1 bt9.2 bt15.1 bt15.2 (!t24) bt1.1)) else (laws_FnSplitGroup.j0 k bt1.2.1 bt1.2.2 bt9.1 bt9.2 bt15.1 bt15.2 true bt1.1))) else (laws_FnSplitGroup.j0 k bt1.2.1 bt1.2.2 bt9.1 bt9.2 bt15.1 bt15.2 true bt1.1))) else (laws_FnSplitGroup.j0 k bt1.2.1 bt1.2.2 bt9.1 bt9.2 bt15.1 bt15.2 true bt1.1))))))) = some r:=h
 clear h
 by_cases c2 : (l0.length : Int) > 1048576
 ·rw [if_pos c2] at H
  have c2b0 : decide (1048576 < (l0.length : Int)) = true:=decide_eq_true c2
  have c2b1 : decide (1048576 < l0.length) = true:=decide_eq_true (by omega)
  clear c2
  obtain rfl:=Option.some.inj H
  go_enter Try.func7,Try.ntmps7
  go_wp2
  go_ret
  exact ⟨by first | rfl | (simp [errW_none,errW_some] <;> rfl) | (simp [*,errW_none,errW_some] <;> rfl),hb_⟩
 ·rw [if_neg c2] at H
  have c2b0 : decide (1048576 < (l0.length : Int)) = false:=decide_eq_false c2
  have c2b1 : decide (1048576 < l0.length) = false:=decide_eq_false (by omega)
  clear c2
  replace H:=Option.bind_eq_some_iff.mp H
  obtain ⟨⟨t1,t4,t7⟩,A30,H⟩:=H
  try dsimp only at H
  have A3:=a0_ A30
  clear A30
  replace H:=Option.bind_eq_some_iff.mp H
  obtain ⟨⟨t9,t12⟩,A40,H⟩:=H
  try dsimp only at H
  have A4:=a0_ A40
  clear A40
  replace H:=Option.bind_eq_some_iff.mp H
  obtain ⟨⟨t15,t18⟩,A50,H⟩:=H
  try dsimp only at H
  have A5:=a0_ A50
  clear A50
  have HC6:=a0_ H
  clear H
  go_enter Try.func7,Try.ntmps7
  go_upto_region 6 with (first | ((with_reducible refine gate_callee (f:=24) rfl ?_);refine goesL_ (some 21) rfl rfl Try.func24 (by kernel_rfl) rfl #[.slice A0 l0.length c0] rfl lm_ ?_;(with_reducible refine (spec_DrawSplitGroup.calls k _ _ l0 t1 t4 t7 _ ?side1 ?side2 A3.out).mono ?_);(case side1=>repeat (first | exact HR0.out | (with_reducible refine Kd.C_alloc ?_ _) | (with_reducible refine Kd.C_drewN ?_ _) | (with_reducible refine Kd.C_drew ?_)));(case side2=>exact HC0.out);rintro e w7 ⟨v2,v5,rfl,ho0,ho1,hb⟩;refine ⟨_,rfl,?_⟩;have HO3:=a0_ (Kd.R_lower ho0 (below_size hb_));have HO6:=a0_ (Kd.R_lower ho1 (below_size hb_));replace HB:=a0_ (below_step hb_ hb);(try clear hb);(try clear ho0);(try clear ho1)) | ((with_reducible refine gate_dst (N:=3) rfl ?_);(try (refine gate_guard (by rfl) ?_;dsimp only));refine box_event ?hg (N:=3) ?hd (cs:=#[.slice none 0 0]) (t:=25) ?hr ?_;(case hd=>rfl);(case hg=>rfl);(case hr=>first | (go_simp;done) | (go_simp;rfl));intro gb8 hg w8 hbox hb;replace HO3:=rb_ HO3 hb;replace HO6:=rb_ HO6 hb;have BK8:=a0_ (hbox);have GW8:=a0_ ((by rw [hg];exact (below_size hb_) : w.heap.size ≤ gb8));have GE8:=a0_ ((by rw [hg];exact (below_size hb_) : w.heap.size ≤ gb8));replace HB:=a0_ (below_step hb_ hb);clear hb hbox hg;obtain ⟨Ao9,co9,eo9⟩:=Kd.R_slice HO3.out;subst eo9;have hcz10_0 : w8.cell? ⟨gb8,0,none⟩ = some (.slice none 0 0):=(blk_cell BK8.out 0).trans rfl;have hfz10_0:=blk_frozen BK8.out 0;obtain ⟨Ao11,co11,eo11⟩:=Kd.R_slice HO6.out;subst eo11) | ((with_reducible refine gate_callee (f:=25) rfl ?_);refine goesL_ (some 29) rfl rfl Try.func25 (by kernel_rfl) rfl #[.agg #[.slice Ao9 t1.length co9],.slice Ao11 t4.length co11,.int .i64 t7] rfl lm_ ?_;(with_reducible refine (impl_SplitGroup.calls _ _ t1 _ _ t4 t7 t9 t12 _ ?side1 ?side2 ?side3 ?side4 A4.out).mono ?_);(case side1=>refine (Kd.R_reads' (e:=85) (base:=w.heap.size) (ok:=fun k_=>True) (n:=t1.length) (c:=co9) ?_).2.2;exact (by (with_reducible repeat (first | apply Kd.R_alloc | apply Kd.R_drewN | apply Kd.R_drew));exact (Kd.R_mono (Kd.R_far (p:=⟨gb8,0,none⟩) (Kd.R_types HO3.out BK8.out (by decide)) (fun _ hk=>hk.2) (.slice Ao9 t1.length co9)) (fun _ h_=>h_.1))));(case side2=>exact (Kd.R_reads' HO3.out).2.1);(case side3=>refine (Kd.R_reads' (e:=47) (base:=w.heap.size) (ok:=fun k_=>True) (n:=t4.length) (c:=co11) ?_).2.2;exact (by (with_reducible repeat (first | apply Kd.R_alloc | apply Kd.R_drewN | apply Kd.R_drew));exact (Kd.R_mono (Kd.R_far (p:=⟨gb8,0,none⟩) (Kd.R_types HO6.out BK8.out (by decide)) (fun _ hk=>hk.2) (.slice Ao9 t1.length co9)) (fun _ h_=>h_.1))));(case side4=>exact (Kd.R_reads' HO6.out).2.1);rintro e w12 ⟨v10,v13,rfl,ho0,ho1,hb⟩;refine ⟨_,rfl,?_⟩;have n0_:=a0_ (Kd.R_below (by (with_reducible repeat (first | apply Kd.R_alloc | apply Kd.R_drewN | apply Kd.R_drew));exact (Kd.R_mono (Kd.R_far (p:=⟨gb8,0,none⟩) (Kd.R_types HO3.out BK8.out (by decide)) (fun _ hk=>hk.2) (.slice Ao9 t1.length co9)) (fun _ h_=>h_.1))) hb);have n1_:=a0_ (Kd.R_mono (Kd.R_told (Kd.R_told (Kd.R_old (by (with_reducible repeat (first | apply Kd.R_alloc | apply Kd.R_drewN | apply Kd.R_drew));exact (Kd.R_mono (Kd.R_far (p:=⟨gb8,0,none⟩) (Kd.R_types HO6.out BK8.out (by decide)) (fun _ hk=>hk.2) (.slice Ao9 t1.length co9)) (fun _ h_=>h_.1))) hb) (Kd.R_base ho0)) (Kd.R_base ho1)) (fun _ h_=>h_.1));have n2_:=a0_ (Kd.R_lower (Kd.R_new' ho0 (Kd.R_lt (by (with_reducible repeat (first | apply Kd.R_alloc | apply Kd.R_drewN | apply Kd.R_drew));exact (Kd.R_mono (Kd.R_far (p:=⟨gb8,0,none⟩) (Kd.R_types HO6.out BK8.out (by decide)) (fun _ hk=>hk.2) (.slice Ao9 t1.length co9)) (fun _ h_=>h_.1))))) (below_size hb_));have n3_:=a0_ (Kd.R_lower (Kd.R_new' ho1 (Kd.R_lt (by (with_reducible repeat (first | apply Kd.R_alloc | apply Kd.R_drewN | apply Kd.R_drew));exact (Kd.R_mono (Kd.R_far (p:=⟨gb8,0,none⟩) (Kd.R_types HO6.out BK8.out (by decide)) (fun _ hk=>hk.2) (.slice Ao9 t1.length co9)) (fun _ h_=>h_.1))))) (below_size hb_));have n4_:=a0_ (blk_below (g:=gb8) (o:=.cells #[.slice Ao9 t1.length co9] 25 (0,0)) (by (with_reducible repeat (first | refine blk_drewN ?_ _ | refine blk_drew ?_ | refine blk_alloc ?_ _));refine blk_put (cs:=#[.slice none 0 0]) ?_ 0 _ rfl;(with_reducible repeat (first | refine blk_drewN ?_ _ | refine blk_drew ?_ | refine blk_alloc ?_ _));exact BK8.out) hb);have n5_:=a0_ (below_step hb_ hb);clear HO3 HO6;clear BK8 HB;have HO3:=n0_;have HO6:=n1_;have HO11:=n2_;have HO14:=n3_;have BK8:=n4_;have HB:=n5_;clear n0_ n1_ n2_ n3_ n4_ n5_;(try clear hb);(try clear ho0);(try clear ho1);have hcz13_0 : w12.cell? ⟨gb8,0,none⟩ = some (.slice Ao9 t1.length co9):=(blk_cell BK8.out 0).trans rfl;have hfz13_0:=blk_frozen BK8.out 0) | ((with_reducible refine gate_callee (f:=26) rfl ?_);refine goesL_ (some 36) rfl rfl Try.func26 (by kernel_rfl) rfl #[.agg #[.slice Ao9 t1.length co9],.slice Ao11 t4.length co11,.int .i64 t7] rfl lm_ ?_;(with_reducible refine (spec_SplitGroup.calls k _ _ t1 _ _ t4 t7 t15 t18 _ ?side1 ?side2 ?side3 ?side4 A5.out).mono ?_);(case side1=>exact cc_ (Kd.R_reads' HO3.out).2.2);(case side2=>exact (Kd.R_reads' HO3.out).2.1);(case side3=>exact cc_ (Kd.R_reads' HO6.out).2.2);(case side4=>exact (Kd.R_reads' HO6.out).2.1);rintro e w14 ⟨v16,v19,rfl,ho0,ho1,hb⟩;refine ⟨_,rfl,?_⟩;have n0_:=rb_ HO3 hb;have n1_:=a0_ (Kd.R_mono (Kd.R_told (Kd.R_told (Kd.R_old (rr_ HO6.out) hb) (Kd.R_base ho0)) (Kd.R_base ho1)) (fun _ h_=>h_.1));have n2_:=a0_ (Kd.R_mono (Kd.R_told (Kd.R_told (Kd.R_old (rr_ HO11.out) hb) (Kd.R_base ho0)) (Kd.R_base ho1)) (fun _ h_=>h_.1));have n3_:=a0_ (Kd.R_mono (Kd.R_told (Kd.R_told (Kd.R_old (rr_ HO14.out) hb) (Kd.R_base ho0)) (Kd.R_base ho1)) (fun _ h_=>h_.1));have n4_:=a0_ (Kd.R_lower (Kd.R_new' (Kd.R_new' (Kd.R_new' ho0 (Kd.R_lt (rr_ HO6.out))) (Kd.R_lt (rr_ HO11.out))) (Kd.R_lt (rr_ HO14.out))) (below_size hb_));have n5_:=a0_ (Kd.R_lower (Kd.R_new' (Kd.R_new' (Kd.R_new' ho1 (Kd.R_lt (rr_ HO6.out))) (Kd.R_lt (rr_ HO11.out))) (Kd.R_lt (rr_ HO14.out))) (below_size hb_));have n6_:=kb_ BK8 hb;have n7_:=a0_ (below_step hb_ hb);clear HO3 HO6;clear HO11 HO14;clear BK8 HB;have HO3:=n0_;have HO6:=n1_;have HO11:=n2_;have HO14:=n3_;have HO17:=n4_;have HO20:=n5_;have BK8:=n6_;have HB:=n7_;clear n0_ n1_ n2_ n3_ n4_ n5_ n6_ n7_;(try clear hb);(try clear ho0);(try clear ho1)))
  (try simp only [Act.put,s1_,s2_,s3_])
  go_cut [60] (fun v60 wc=>∃ (kq : Nat) (x60_5 : Bool),v60 = .bool x60_5 ∧ Aside0 (laws_FnSplitGroup.j0 kq t4 t7 t9 t12 t15 t18 x60_5 t1 = some r) ∧ Aside0 (kq ≤ k) ∧ Aside0 (Kd.R k47 47 wc w.heap.size (fun k_=>some k_ ≠ (v10 : Value).ownBlock ∧ some k_ ≠ (v13 : Value).ownBlock ∧ some k_ ≠ (v16 : Value).ownBlock ∧ some k_ ≠ (v19 : Value).ownBlock) (.slice Ao11 t4.length co11) t4) ∧ Aside0 (Kd.R k47 47 wc w.heap.size (fun k_=>some k_ ≠ ((.slice Ao11 t4.length co11) : Value).ownBlock ∧ some k_ ≠ (v13 : Value).ownBlock ∧ some k_ ≠ (v16 : Value).ownBlock ∧ some k_ ≠ (v19 : Value).ownBlock) v10 t9) ∧ Aside0 (Kd.R k47 47 wc w.heap.size (fun k_=>some k_ ≠ ((.slice Ao11 t4.length co11) : Value).ownBlock ∧ some k_ ≠ (v10 : Value).ownBlock ∧ some k_ ≠ (v16 : Value).ownBlock ∧ some k_ ≠ (v19 : Value).ownBlock) v13 t12) ∧ Aside0 (Kd.R k47 47 wc w.heap.size (fun k_=>some k_ ≠ ((.slice Ao11 t4.length co11) : Value).ownBlock ∧ some k_ ≠ (v10 : Value).ownBlock ∧ some k_ ≠ (v13 : Value).ownBlock ∧ some k_ ≠ (v19 : Value).ownBlock) v16 t15) ∧ Aside0 (Kd.R k47 47 wc w.heap.size (fun k_=>some k_ ≠ ((.slice Ao11 t4.length co11) : Value).ownBlock ∧ some k_ ≠ (v10 : Value).ownBlock ∧ some k_ ≠ (v13 : Value).ownBlock ∧ some k_ ≠ (v16 : Value).ownBlock) v19 t18) ∧ Aside0 (Kd.R k85 85 wc w.heap.size (fun _=>True) (.slice Ao9 t1.length co9) t1) ∧ Aside0 (wc.heap[gb8]? = some (.cells #[(.slice Ao9 t1.length co9)] 25 (0,0))) ∧ Aside0 (Below w.heap.size w wc))
  case first =>
   have H:=HC6.out
   clear HC6
   replace H:=Option.bind_eq_some_iff.mp H
   obtain ⟨t21,A150,H⟩:=H
   try dsimp only at H
   have A15:=a0_ A150
   clear A150
   by_cases c16 : t21 = true
   ·subst c16
    have H1 : ((laws_equalGroup.f k t12 t18).bind fun t22=>(if t22 = true then ((impl_ValidGroup.f k t1 t4).bind fun t23=>(if t23 = true then ((laws_has.f t1 t7).bind fun t24=>(laws_FnSplitGroup.j0 k t4 t7 t9 t12 t15 t18 (!t24) t1)) else (laws_FnSplitGroup.j0 k t4 t7 t9 t12 t15 t18 true t1))) else (laws_FnSplitGroup.j0 k t4 t7 t9 t12 t15 t18 true t1))) = some r:=by rw [if_pos rfl] at H;exact H
    clear H
    have H:=H1
    clear H1
    replace H:=Option.bind_eq_some_iff.mp H
    obtain ⟨t22,A170,H⟩:=H
    try dsimp only at H
    have A17:=a0_ A170
    clear A170
    by_cases c18 : t22 = true
    ·subst c18
     have H1 : ((impl_ValidGroup.f k t1 t4).bind fun t23=>(if t23 = true then ((laws_has.f t1 t7).bind fun t24=>(laws_FnSplitGroup.j0 k t4 t7 t9 t12 t15 t18 (!t24) t1)) else (laws_FnSplitGroup.j0 k t4 t7 t9 t12 t15 t18 true t1))) = some r:=by rw [if_pos rfl] at H;exact H
     clear H
     have H:=H1
     clear H1
     replace H:=Option.bind_eq_some_iff.mp H
     obtain ⟨t23,A190,H⟩:=H
     try dsimp only at H
     have A19:=a0_ A190
     clear A190
     by_cases c20 : t23 = true
     ·subst c20
      have H1 : ((laws_has.f t1 t7).bind fun t24=>(laws_FnSplitGroup.j0 k t4 t7 t9 t12 t15 t18 (!t24) t1)) = some r:=by rw [if_pos rfl] at H;exact H
      clear H
      have H:=H1
      clear H1
      replace H:=Option.bind_eq_some_iff.mp H
      obtain ⟨t24,A210,H⟩:=H
      try dsimp only at H
      have A21:=a0_ A210
      clear A210
      have H':=a0_ H
      clear H
      obtain ⟨Ao22,co22,eo22⟩:=Kd.R_slice HO11.out
      subst eo22
      obtain ⟨Ao23,co23,eo23⟩:=Kd.R_slice HO17.out
      subst eo23
      go_wp2_with (first | ((with_reducible refine gate_callee (f:=13) rfl ?_);refine goesL_ (some 41) rfl rfl Try.func13 (by kernel_rfl) rfl #[.slice Ao22 t9.length co22,.slice Ao23 t15.length co23] rfl lm_ ?_;(with_reducible refine (laws_equalGroup.calls k _ _ t9 _ _ t15 true _ ?side1 ?side2 ?side3 ?side4 A15.out).mono ?_);(case side1=>exact cc_ (Kd.R_reads' HO11.out).2.2);(case side2=>exact (Kd.R_reads' HO11.out).2.1);(case side3=>exact cc_ (Kd.R_reads' HO17.out).2.2);(case side4=>exact (Kd.R_reads' HO17.out).2.1);rintro e w' ⟨rfl,⟨nd,rfl⟩⟩;refine ⟨_,rfl,?_⟩;obtain ⟨Ao24,co24,eo24⟩:=Kd.R_slice HO14.out;subst eo24;obtain ⟨Ao25,co25,eo25⟩:=Kd.R_slice HO20.out;subst eo25) | (go_at_call 13;(with_reducible refine (laws_equalGroup.calls k _ _ t12 _ _ t18 true _ ?side1 ?side2 ?side3 ?side4 A17.out).mono ?_);(case side1=>exact cc_ (Kd.R_reads' HO14.out).2.2);(case side2=>exact (Kd.R_reads' HO14.out).2.1);(case side3=>exact cc_ (Kd.R_reads' HO20.out).2.2);(case side4=>exact (Kd.R_reads' HO20.out).2.1);rintro e w' ⟨rfl,⟨nd,rfl⟩⟩;have hcz26_0 : w14.cell? ⟨gb8,0,none⟩ = some (.slice Ao9 t1.length co9):=(blk_cell BK8.out 0).trans rfl;have hfz26_0:=blk_frozen BK8.out 0) | (go_at_call 15;(with_reducible refine (impl_ValidGroup.calls k _ _ t1 _ _ t4 true _ ?side1 ?side2 ?side3 ?side4 A19.out).mono ?_);(case side1=>exact cc_ (Kd.R_reads' HO3.out).2.2);(case side2=>exact (Kd.R_reads' HO3.out).2.1);(case side3=>exact cc_ (Kd.R_reads' HO6.out).2.2);(case side4=>exact (Kd.R_reads' HO6.out).2.1);rintro e w27 ⟨rfl,hb⟩;replace HO3:=rb_ HO3 hb;replace HO6:=rb_ HO6 hb;replace HO11:=rb_ HO11 hb;replace HO14:=rb_ HO14 hb;replace HO17:=rb_ HO17 hb;replace HO20:=rb_ HO20 hb;replace BK8:=kb_ BK8 hb;replace HB:=a0_ (below_step hb_ hb);(try clear hb);have hcz28_0 : w27.cell? ⟨gb8,0,none⟩ = some (.slice Ao9 t1.length co9):=(blk_cell BK8.out 0).trans rfl;have hfz28_0:=blk_frozen BK8.out 0) | (go_at_call 22;(with_reducible refine (laws_has.calls _ _ t1 t7 t24 _ ?side1 ?side2 A21.out).mono ?_);(case side1=>exact cc_ (Kd.R_reads' HO3.out).2.2);(case side2=>exact (Kd.R_reads' HO3.out).2.1);rintro e w29 ⟨rfl,hb⟩;replace HO3:=rb_ HO3 hb;replace HO6:=rb_ HO6 hb;replace HO11:=rb_ HO11 hb;replace HO14:=rb_ HO14 hb;replace HO17:=rb_ HO17 hb;replace HO20:=rb_ HO20 hb;replace BK8:=kb_ BK8 hb;replace HB:=a0_ (below_step hb_ hb);(try clear hb);(try clear hb2);(try clear hk);(try clear hi)))
      go_meet
      case rel=>exact ⟨_,(!t24),(by first | rfl | (simp;done) | (simp [*];done)),H',⟨by first | omega | exact Nat.le_refl _⟩,⟨by (with_reducible repeat (first | apply Kd.R_alloc | apply Kd.R_drewN | apply Kd.R_drew));exact Kd.R_mono HO6.out (fun _ hk=>⟨hk.1.1.1.2,⟨hk.1.1.2,⟨hk.1.2,hk.2⟩⟩⟩)⟩,⟨by (with_reducible repeat (first | apply Kd.R_alloc | apply Kd.R_drewN | apply Kd.R_drew));exact Kd.R_mono HO11.out (fun _ hk=>⟨hk.1.1.2,⟨hk.1.1.1,⟨hk.1.2,hk.2⟩⟩⟩)⟩,⟨by (with_reducible repeat (first | apply Kd.R_alloc | apply Kd.R_drewN | apply Kd.R_drew));exact Kd.R_mono HO14.out (fun _ hk=>⟨hk.1.1.2,⟨hk.1.1.1,⟨hk.1.2,hk.2⟩⟩⟩)⟩,⟨by (with_reducible repeat (first | apply Kd.R_alloc | apply Kd.R_drewN | apply Kd.R_drew));exact Kd.R_mono HO17.out (fun _ hk=>⟨hk.1.1.2,⟨hk.1.2,⟨hk.2,hk.1.1.1⟩⟩⟩)⟩,⟨by (with_reducible repeat (first | apply Kd.R_alloc | apply Kd.R_drewN | apply Kd.R_drew));exact Kd.R_mono HO20.out (fun _ hk=>⟨hk.1.1.2,⟨hk.1.2,⟨hk.2,hk.1.1.1⟩⟩⟩)⟩,⟨by (with_reducible repeat (first | apply Kd.R_alloc | apply Kd.R_drewN | apply Kd.R_drew));exact HO3.out⟩,⟨by (with_reducible repeat (first | refine blk_drewN ?_ _ | refine blk_drew ?_ | refine blk_alloc ?_ _));exact BK8.out⟩,⟨hb_⟩⟩
     ·replace c20:=Bool.eq_false_iff.mpr c20
      subst c20
      have H1 : (laws_FnSplitGroup.j0 k t4 t7 t9 t12 t15 t18 true t1) = some r:=by rw [if_neg (show ¬ (false = true) by decide)] at H;exact H
      clear H
      have H:=H1
      clear H1
      have H':=a0_ H
      clear H
      obtain ⟨Ao30,co30,eo30⟩:=Kd.R_slice HO11.out
      subst eo30
      obtain ⟨Ao31,co31,eo31⟩:=Kd.R_slice HO17.out
      subst eo31
      go_wp2_with (first | ((with_reducible refine gate_callee (f:=13) rfl ?_);refine goesL_ (some 41) rfl rfl Try.func13 (by kernel_rfl) rfl #[.slice Ao30 t9.length co30,.slice Ao31 t15.length co31] rfl lm_ ?_;(with_reducible refine (laws_equalGroup.calls k _ _ t9 _ _ t15 true _ ?side1 ?side2 ?side3 ?side4 A15.out).mono ?_);(case side1=>exact cc_ (Kd.R_reads' HO11.out).2.2);(case side2=>exact (Kd.R_reads' HO11.out).2.1);(case side3=>exact cc_ (Kd.R_reads' HO17.out).2.2);(case side4=>exact (Kd.R_reads' HO17.out).2.1);rintro e w' ⟨rfl,⟨nd,rfl⟩⟩;refine ⟨_,rfl,?_⟩;obtain ⟨Ao32,co32,eo32⟩:=Kd.R_slice HO14.out;subst eo32;obtain ⟨Ao33,co33,eo33⟩:=Kd.R_slice HO20.out;subst eo33) | (go_at_call 13;(with_reducible refine (laws_equalGroup.calls k _ _ t12 _ _ t18 true _ ?side1 ?side2 ?side3 ?side4 A17.out).mono ?_);(case side1=>exact cc_ (Kd.R_reads' HO14.out).2.2);(case side2=>exact (Kd.R_reads' HO14.out).2.1);(case side3=>exact cc_ (Kd.R_reads' HO20.out).2.2);(case side4=>exact (Kd.R_reads' HO20.out).2.1);rintro e w' ⟨rfl,⟨nd,rfl⟩⟩;have hcz34_0 : w14.cell? ⟨gb8,0,none⟩ = some (.slice Ao9 t1.length co9):=(blk_cell BK8.out 0).trans rfl;have hfz34_0:=blk_frozen BK8.out 0) | (go_at_call 15;(with_reducible refine (impl_ValidGroup.calls k _ _ t1 _ _ t4 false _ ?side1 ?side2 ?side3 ?side4 A19.out).mono ?_);(case side1=>exact cc_ (Kd.R_reads' HO3.out).2.2);(case side2=>exact (Kd.R_reads' HO3.out).2.1);(case side3=>exact cc_ (Kd.R_reads' HO6.out).2.2);(case side4=>exact (Kd.R_reads' HO6.out).2.1);rintro e w35 ⟨rfl,hb⟩;replace HO3:=rb_ HO3 hb;replace HO6:=rb_ HO6 hb;replace HO11:=rb_ HO11 hb;replace HO14:=rb_ HO14 hb;replace HO17:=rb_ HO17 hb;replace HO20:=rb_ HO20 hb;replace BK8:=kb_ BK8 hb;replace HB:=a0_ (below_step hb_ hb);(try clear hb);(try clear hb2);(try clear hk);(try clear hi)))
      go_meet
      case rel=>exact ⟨_,(true),(by first | rfl | (simp;done) | (simp [*];done)),H',⟨by first | omega | exact Nat.le_refl _⟩,⟨by (with_reducible repeat (first | apply Kd.R_alloc | apply Kd.R_drewN | apply Kd.R_drew));exact Kd.R_mono HO6.out (fun _ hk=>⟨hk.1.1.1.2,⟨hk.1.1.2,⟨hk.1.2,hk.2⟩⟩⟩)⟩,⟨by (with_reducible repeat (first | apply Kd.R_alloc | apply Kd.R_drewN | apply Kd.R_drew));exact Kd.R_mono HO11.out (fun _ hk=>⟨hk.1.1.2,⟨hk.1.1.1,⟨hk.1.2,hk.2⟩⟩⟩)⟩,⟨by (with_reducible repeat (first | apply Kd.R_alloc | apply Kd.R_drewN | apply Kd.R_drew));exact Kd.R_mono HO14.out (fun _ hk=>⟨hk.1.1.2,⟨hk.1.1.1,⟨hk.1.2,hk.2⟩⟩⟩)⟩,⟨by (with_reducible repeat (first | apply Kd.R_alloc | apply Kd.R_drewN | apply Kd.R_drew));exact Kd.R_mono HO17.out (fun _ hk=>⟨hk.1.1.2,⟨hk.1.2,⟨hk.2,hk.1.1.1⟩⟩⟩)⟩,⟨by (with_reducible repeat (first | apply Kd.R_alloc | apply Kd.R_drewN | apply Kd.R_drew));exact Kd.R_mono HO20.out (fun _ hk=>⟨hk.1.1.2,⟨hk.1.2,⟨hk.2,hk.1.1.1⟩⟩⟩)⟩,⟨by (with_reducible repeat (first | apply Kd.R_alloc | apply Kd.R_drewN | apply Kd.R_drew));exact HO3.out⟩,⟨by (with_reducible repeat (first | refine blk_drewN ?_ _ | refine blk_drew ?_ | refine blk_alloc ?_ _));exact BK8.out⟩,⟨hb_⟩⟩
    ·replace c18:=Bool.eq_false_iff.mpr c18
     subst c18
     have H1 : (laws_FnSplitGroup.j0 k t4 t7 t9 t12 t15 t18 true t1) = some r:=by rw [if_neg (show ¬ (false = true) by decide)] at H;exact H
     clear H
     have H:=H1
     clear H1
     have H':=a0_ H
     clear H
     obtain ⟨Ao36,co36,eo36⟩:=Kd.R_slice HO11.out
     subst eo36
     obtain ⟨Ao37,co37,eo37⟩:=Kd.R_slice HO17.out
     subst eo37
     go_wp2_with (first | ((with_reducible refine gate_callee (f:=13) rfl ?_);refine goesL_ (some 41) rfl rfl Try.func13 (by kernel_rfl) rfl #[.slice Ao36 t9.length co36,.slice Ao37 t15.length co37] rfl lm_ ?_;(with_reducible refine (laws_equalGroup.calls k _ _ t9 _ _ t15 true _ ?side1 ?side2 ?side3 ?side4 A15.out).mono ?_);(case side1=>exact cc_ (Kd.R_reads' HO11.out).2.2);(case side2=>exact (Kd.R_reads' HO11.out).2.1);(case side3=>exact cc_ (Kd.R_reads' HO17.out).2.2);(case side4=>exact (Kd.R_reads' HO17.out).2.1);rintro e w' ⟨rfl,⟨nd,rfl⟩⟩;refine ⟨_,rfl,?_⟩;obtain ⟨Ao38,co38,eo38⟩:=Kd.R_slice HO14.out;subst eo38;obtain ⟨Ao39,co39,eo39⟩:=Kd.R_slice HO20.out;subst eo39) | (go_at_call 13;(with_reducible refine (laws_equalGroup.calls k _ _ t12 _ _ t18 false _ ?side1 ?side2 ?side3 ?side4 A17.out).mono ?_);(case side1=>exact cc_ (Kd.R_reads' HO14.out).2.2);(case side2=>exact (Kd.R_reads' HO14.out).2.1);(case side3=>exact cc_ (Kd.R_reads' HO20.out).2.2);(case side4=>exact (Kd.R_reads' HO20.out).2.1);rintro e w' ⟨rfl,⟨nd,rfl⟩⟩))
     go_meet
     case rel=>exact ⟨_,(true),(by first | rfl | (simp;done) | (simp [*];done)),H',⟨by first | omega | exact Nat.le_refl _⟩,⟨by (with_reducible repeat (first | apply Kd.R_alloc | apply Kd.R_drewN | apply Kd.R_drew));exact Kd.R_mono HO6.out (fun _ hk=>⟨hk.1.1.1.2,⟨hk.1.1.2,⟨hk.1.2,hk.2⟩⟩⟩)⟩,⟨by (with_reducible repeat (first | apply Kd.R_alloc | apply Kd.R_drewN | apply Kd.R_drew));exact Kd.R_mono HO11.out (fun _ hk=>⟨hk.1.1.2,⟨hk.1.1.1,⟨hk.1.2,hk.2⟩⟩⟩)⟩,⟨by (with_reducible repeat (first | apply Kd.R_alloc | apply Kd.R_drewN | apply Kd.R_drew));exact Kd.R_mono HO14.out (fun _ hk=>⟨hk.1.1.2,⟨hk.1.1.1,⟨hk.1.2,hk.2⟩⟩⟩)⟩,⟨by (with_reducible repeat (first | apply Kd.R_alloc | apply Kd.R_drewN | apply Kd.R_drew));exact Kd.R_mono HO17.out (fun _ hk=>⟨hk.1.1.2,⟨hk.1.2,⟨hk.2,hk.1.1.1⟩⟩⟩)⟩,⟨by (with_reducible repeat (first | apply Kd.R_alloc | apply Kd.R_drewN | apply Kd.R_drew));exact Kd.R_mono HO20.out (fun _ hk=>⟨hk.1.1.2,⟨hk.1.2,⟨hk.2,hk.1.1.1⟩⟩⟩)⟩,⟨by (with_reducible repeat (first | apply Kd.R_alloc | apply Kd.R_drewN | apply Kd.R_drew));exact HO3.out⟩,⟨by (with_reducible repeat (first | refine blk_drewN ?_ _ | refine blk_drew ?_ | refine blk_alloc ?_ _));exact BK8.out⟩,⟨hb_⟩⟩
   ·replace c16:=Bool.eq_false_iff.mpr c16
    subst c16
    have H1 : (laws_FnSplitGroup.j0 k t4 t7 t9 t12 t15 t18 true t1) = some r:=by rw [if_neg (show ¬ (false = true) by decide)] at H;exact H
    clear H
    have H:=H1
    clear H1
    have H':=a0_ H
    clear H
    obtain ⟨Ao40,co40,eo40⟩:=Kd.R_slice HO11.out
    subst eo40
    obtain ⟨Ao41,co41,eo41⟩:=Kd.R_slice HO17.out
    subst eo41
    go_wp2_with (first | ((with_reducible refine gate_callee (f:=13) rfl ?_);refine goesL_ (some 41) rfl rfl Try.func13 (by kernel_rfl) rfl #[.slice Ao40 t9.length co40,.slice Ao41 t15.length co41] rfl lm_ ?_;(with_reducible refine (laws_equalGroup.calls k _ _ t9 _ _ t15 false _ ?side1 ?side2 ?side3 ?side4 A15.out).mono ?_);(case side1=>exact cc_ (Kd.R_reads' HO11.out).2.2);(case side2=>exact (Kd.R_reads' HO11.out).2.1);(case side3=>exact cc_ (Kd.R_reads' HO17.out).2.2);(case side4=>exact (Kd.R_reads' HO17.out).2.1);rintro e w' ⟨rfl,⟨nd,rfl⟩⟩;refine ⟨_,rfl,?_⟩))
    go_meet
    case rel=>exact ⟨_,(true),(by first | rfl | (simp;done) | (simp [*];done)),H',⟨by first | omega | exact Nat.le_refl _⟩,⟨by (with_reducible repeat (first | apply Kd.R_alloc | apply Kd.R_drewN | apply Kd.R_drew));exact Kd.R_mono HO6.out (fun _ hk=>⟨hk.1.1.1.2,⟨hk.1.1.2,⟨hk.1.2,hk.2⟩⟩⟩)⟩,⟨by (with_reducible repeat (first | apply Kd.R_alloc | apply Kd.R_drewN | apply Kd.R_drew));exact Kd.R_mono HO11.out (fun _ hk=>⟨hk.1.1.2,⟨hk.1.1.1,⟨hk.1.2,hk.2⟩⟩⟩)⟩,⟨by (with_reducible repeat (first | apply Kd.R_alloc | apply Kd.R_drewN | apply Kd.R_drew));exact Kd.R_mono HO14.out (fun _ hk=>⟨hk.1.1.2,⟨hk.1.1.1,⟨hk.1.2,hk.2⟩⟩⟩)⟩,⟨by (with_reducible repeat (first | apply Kd.R_alloc | apply Kd.R_drewN | apply Kd.R_drew));exact Kd.R_mono HO17.out (fun _ hk=>⟨hk.1.1.2,⟨hk.1.2,⟨hk.2,hk.1.1.1⟩⟩⟩)⟩,⟨by (with_reducible repeat (first | apply Kd.R_alloc | apply Kd.R_drewN | apply Kd.R_drew));exact Kd.R_mono HO20.out (fun _ hk=>⟨hk.1.1.2,⟨hk.1.2,⟨hk.2,hk.1.1.1⟩⟩⟩)⟩,⟨by (with_reducible repeat (first | apply Kd.R_alloc | apply Kd.R_drewN | apply Kd.R_drew));exact HO3.out⟩,⟨by (with_reducible repeat (first | refine blk_drewN ?_ _ | refine blk_drew ?_ | refine blk_alloc ?_ _));exact BK8.out⟩,⟨hb_⟩⟩
  case rest =>
   clear HC6
   try clear c1
   try clear c2
   try clear c2b0
   try clear c2b1
   try clear p2
   try clear c7
   try clear c13
   try clear c16
   try clear c18
   try clear c20
   try clear c24
   try clear c25
   try clear c26
   try clear hcz10_0
   try clear hcz13_0
   try clear hcz26_0
   try clear hcz28_0
   try clear hcz34_0
   try clear hfz10_0
   try clear hfz13_0
   try clear hfz26_0
   try clear hfz28_0
   try clear hfz34_0
   obtain ⟨kq,x60_5,rfl,HA,HJ5,HO_4,HO_6,HO_7,HO_8,HO_9,Z9,BK8,HB⟩:=hcut
   cases kq with
   | zero=>exact absurd HA.out (by simp [laws_FnSplitGroup.j0])
   | succ kj5 =>
    have H:=HA.out
    clear HA
    simp only [laws_FnSplitGroup.j0] at H
    by_cases c42 : x60_5 = true
    ·subst c42
     have H1 : ((laws_equalGroup.f kj5 t9 t15).bind fun t25=>(if t25 = true then ((laws_equalGroup.f kj5 t12 t18).bind fun t26=>(some t26)) else (some false))) = some r:=by rw [if_pos rfl] at H;exact H
     clear H
     have H:=H1
     clear H1
     replace H:=Option.bind_eq_some_iff.mp H
     obtain ⟨t25,A430,H⟩:=H
     try dsimp only at H
     have A43:=a0_ A430
     clear A430
     by_cases c44 : t25 = true
     ·subst c44
      have H1 : ((laws_equalGroup.f kj5 t12 t18).bind fun t26=>(some t26)) = some r:=by rw [if_pos rfl] at H;exact H
      clear H
      have H:=H1
      clear H1
      replace H:=Option.bind_eq_some_iff.mp H
      obtain ⟨t26,A450,H⟩:=H
      replace H : (some t26) = some r:=H
      have A45:=a0_ A450
      clear A450
      obtain rfl:=Option.some.inj H
      obtain ⟨Ao46,co46,eo46⟩:=Kd.R_slice HO_6.out
      subst eo46
      obtain ⟨Ao47,co47,eo47⟩:=Kd.R_slice HO_8.out
      subst eo47
      go_wp2_with (first | ((with_reducible refine gate_callee (f:=13) rfl ?_);refine goesL_ (some 63) rfl rfl Try.func13 (by kernel_rfl) rfl #[.slice Ao46 t9.length co46,.slice Ao47 t15.length co47] rfl lm_ ?_;(with_reducible refine (laws_equalGroup.calls kj5 _ _ t9 _ _ t15 true _ ?side1 ?side2 ?side3 ?side4 A43.out).mono ?_);(case side1=>exact cc_ (Kd.R_reads' HO_6.out).2.2);(case side2=>exact (Kd.R_reads' HO_6.out).2.1);(case side3=>exact cc_ (Kd.R_reads' HO_8.out).2.2);(case side4=>exact (Kd.R_reads' HO_8.out).2.1);rintro e w' ⟨rfl,⟨nd,rfl⟩⟩;refine ⟨_,rfl,?_⟩;obtain ⟨Ao48,co48,eo48⟩:=Kd.R_slice HO_7.out;subst eo48;obtain ⟨Ao49,co49,eo49⟩:=Kd.R_slice HO_9.out;subst eo49) | (go_at_call 13;(with_reducible refine (laws_equalGroup.calls kj5 _ _ t12 _ _ t18 t26 _ ?side1 ?side2 ?side3 ?side4 A45.out).mono ?_);(case side1=>exact cc_ (Kd.R_reads' HO_7.out).2.2);(case side2=>exact (Kd.R_reads' HO_7.out).2.1);(case side3=>exact cc_ (Kd.R_reads' HO_9.out).2.2);(case side4=>exact (Kd.R_reads' HO_9.out).2.1);rintro e w' ⟨rfl,⟨nd,rfl⟩⟩))
      go_ret
      exact ⟨by first | rfl | (simp [errW_none,errW_some] <;> rfl) | (simp [*,errW_none,errW_some] <;> rfl),hb_⟩
     ·replace c44:=Bool.eq_false_iff.mpr c44
      subst c44
      have H1 : (some false) = some r:=by rw [if_neg (show ¬ (false = true) by decide)] at H;exact H
      clear H
      have H:=H1
      clear H1
      obtain rfl:=Option.some.inj H
      obtain ⟨Ao50,co50,eo50⟩:=Kd.R_slice HO_6.out
      subst eo50
      obtain ⟨Ao51,co51,eo51⟩:=Kd.R_slice HO_8.out
      subst eo51
      go_wp2_with (first | ((with_reducible refine gate_callee (f:=13) rfl ?_);refine goesL_ (some 63) rfl rfl Try.func13 (by kernel_rfl) rfl #[.slice Ao50 t9.length co50,.slice Ao51 t15.length co51] rfl lm_ ?_;(with_reducible refine (laws_equalGroup.calls kj5 _ _ t9 _ _ t15 false _ ?side1 ?side2 ?side3 ?side4 A43.out).mono ?_);(case side1=>exact cc_ (Kd.R_reads' HO_6.out).2.2);(case side2=>exact (Kd.R_reads' HO_6.out).2.1);(case side3=>exact cc_ (Kd.R_reads' HO_8.out).2.2);(case side4=>exact (Kd.R_reads' HO_8.out).2.1);rintro e w' ⟨rfl,⟨nd,rfl⟩⟩;refine ⟨_,rfl,?_⟩))
      go_ret
      exact ⟨by first | rfl | (simp [errW_none,errW_some] <;> rfl) | (simp [*,errW_none,errW_some] <;> rfl),hb_⟩
    ·replace c42:=Bool.eq_false_iff.mpr c42
     subst c42
     have H1 : ((impl_LeavesOf.f kj5 t1 t9).bind fun t27=>((impl_LeavesOf.f kj5 t1 t12).bind fun t30=>((impl_LeavesOf.f kj5 t1 t4).bind fun t33=>(laws_FnSplitGroup.l0 kj5 t7 t9 t27 t30 t33 0 t1)))) = some r:=by rw [if_neg (show ¬ (false = true) by decide)] at H;exact H
     clear H
     have H:=H1
     clear H1
     replace H:=Option.bind_eq_some_iff.mp H
     obtain ⟨t27,A520,H⟩:=H
     try dsimp only at H
     have A52:=a0_ A520
     clear A520
     replace H:=Option.bind_eq_some_iff.mp H
     obtain ⟨t30,A530,H⟩:=H
     try dsimp only at H
     have A53:=a0_ A530
     clear A530
     replace H:=Option.bind_eq_some_iff.mp H
     obtain ⟨t33,A540,H⟩:=H
     replace H : (laws_FnSplitGroup.l0 kj5 t7 t9 t27 t30 t33 0 t1) = some r:=H
     have A54:=a0_ A540
     clear A540
     have H':=a0_ H
     clear H
     have hcz55_0 : wc.cell? ⟨gb8,0,none⟩ = some (.slice Ao9 t1.length co9):=(blk_cell BK8.out 0).trans rfl
     have hfz55_0:=blk_frozen BK8.out 0
     obtain ⟨Ao56,co56,eo56⟩:=Kd.R_slice HO_6.out
     subst eo56
     go_wp2_with (first | ((with_reducible refine gate_callee (f:=17) rfl ?_);refine goesL_ (some 71) rfl rfl Try.func17 (by kernel_rfl) rfl #[.agg #[.slice Ao9 t1.length co9],.slice Ao56 t9.length co56] rfl lm_ ?_;(with_reducible refine (impl_LeavesOf.calls kj5 _ _ t1 _ _ t9 t27 _ ?side1 ?side2 ?side3 ?side4 A52.out).mono ?_);(case side1=>exact cc_ (Kd.R_reads' Z9.out).2.2);(case side2=>exact (Kd.R_reads' Z9.out).2.1);(case side3=>exact cc_ (Kd.R_reads' HO_6.out).2.2);(case side4=>exact (Kd.R_reads' HO_6.out).2.1);rintro e w57 ⟨v28,rfl,ho0,hb⟩;refine ⟨_,rfl,?_⟩;replace HO_4:=rb_ HO_4 hb;replace HO_6:=rb_ HO_6 hb;replace HO_7:=rb_ HO_7 hb;replace HO_8:=rb_ HO_8 hb;replace HO_9:=rb_ HO_9 hb;replace Z9:=rb_ Z9 hb;have HO29:=a0_ (Kd.R_lower ho0 (below_size hb_));replace BK8:=kb_ BK8 hb;replace HB:=a0_ (below_step hb_ hb);(try clear hb);(try clear ho0);have hcz58_0 : w57.cell? ⟨gb8,0,none⟩ = some (.slice Ao9 t1.length co9):=(blk_cell BK8.out 0).trans rfl;have hfz58_0:=blk_frozen BK8.out 0;obtain ⟨Ao59,co59,eo59⟩:=Kd.R_slice HO_7.out;subst eo59) | ((with_reducible refine gate_callee (f:=17) rfl ?_);refine goesL_ (some 74) rfl rfl Try.func17 (by kernel_rfl) rfl #[.agg #[.slice Ao9 t1.length co9],.slice Ao59 t12.length co59] rfl lm_ ?_;(with_reducible refine (impl_LeavesOf.calls kj5 _ _ t1 _ _ t12 t30 _ ?side1 ?side2 ?side3 ?side4 A53.out).mono ?_);(case side1=>exact cc_ (Kd.R_reads' Z9.out).2.2);(case side2=>exact (Kd.R_reads' Z9.out).2.1);(case side3=>exact cc_ (Kd.R_reads' HO_7.out).2.2);(case side4=>exact (Kd.R_reads' HO_7.out).2.1);rintro e w60 ⟨v31,rfl,ho0,hb⟩;refine ⟨_,rfl,?_⟩;have n0_:=rb_ HO_4 hb;have n1_:=rb_ HO_6 hb;have n2_:=rb_ HO_7 hb;have n3_:=rb_ HO_8 hb;have n4_:=rb_ HO_9 hb;have n5_:=rb_ Z9 hb;have n6_:=a0_ (Kd.R_elder' (rr_ HO29.out) (Kd.R_base ho0) hb);have n7_:=a0_ (Kd.R_lower (Kd.R_new' ho0 (Kd.R_lt (rr_ HO29.out))) (below_size hb_));have n8_:=kb_ BK8 hb;have n9_:=a0_ (below_step hb_ hb);clear HO_4 HO_6;clear HO_7 HO_8;clear HO_9 Z9;clear HO29 BK8 HB;have HO_4:=n0_;have HO_6:=n1_;have HO_7:=n2_;have HO_8:=n3_;have HO_9:=n4_;have Z9:=n5_;have HO29:=n6_;have HO32:=n7_;have BK8:=n8_;have HB:=n9_;clear n0_ n1_ n2_ n3_ n4_ n5_ n6_ n7_ n8_ n9_;(try clear hb);(try clear ho0);have hcz61_0 : w60.cell? ⟨gb8,0,none⟩ = some (.slice Ao9 t1.length co9):=(blk_cell BK8.out 0).trans rfl;have hfz61_0:=blk_frozen BK8.out 0) | ((with_reducible refine gate_callee (f:=17) rfl ?_);refine goesL_ (some 77) rfl rfl Try.func17 (by kernel_rfl) rfl #[.agg #[.slice Ao9 t1.length co9],.slice Ao11 t4.length co11] rfl lm_ ?_;(with_reducible refine (impl_LeavesOf.calls kj5 _ _ t1 _ _ t4 t33 _ ?side1 ?side2 ?side3 ?side4 A54.out).mono ?_);(case side1=>exact cc_ (Kd.R_reads' Z9.out).2.2);(case side2=>exact (Kd.R_reads' Z9.out).2.1);(case side3=>exact cc_ (Kd.R_reads' HO_4.out).2.2);(case side4=>exact (Kd.R_reads' HO_4.out).2.1);rintro e w62 ⟨v34,rfl,ho0,hb⟩;refine ⟨_,rfl,?_⟩;have n0_:=rb_ HO_4 hb;have n1_:=rb_ HO_6 hb;have n2_:=rb_ HO_7 hb;have n3_:=rb_ HO_8 hb;have n4_:=rb_ HO_9 hb;have n5_:=rb_ Z9 hb;have n6_:=a0_ (Kd.R_elder' (rr_ HO29.out) (Kd.R_base ho0) hb);have n7_:=a0_ (Kd.R_elder' (rr_ HO32.out) (Kd.R_base ho0) hb);have n8_:=a0_ (Kd.R_lower (Kd.R_new' (Kd.R_new' ho0 (Kd.R_lt (rr_ HO29.out))) (Kd.R_lt (rr_ HO32.out))) (below_size hb_));have n9_:=kb_ BK8 hb;have n10_:=a0_ (below_step hb_ hb);clear HO_4 HO_6;clear HO_7 HO_8;clear HO_9 Z9;clear HO29 HO32;clear BK8 HB;have HO_4:=n0_;have HO_6:=n1_;have HO_7:=n2_;have HO_8:=n3_;have HO_9:=n4_;have Z9:=n5_;have HO29:=n6_;have HO32:=n7_;have HO35:=n8_;have BK8:=n9_;have HB:=n10_;clear n0_ n1_ n2_ n3_ n4_ n5_ n6_ n7_ n8_ n9_ n10_;(try clear hb);(try clear ho0)))
     go_loopg [13] kj5 (fun kq v13 w'=>∃ (x13_2 : Int),v13 = .int .i64 x13_2 ∧ Aside0 (laws_FnSplitGroup.l0 kq t7 t9 t27 t30 t33 x13_2 t1 = some r) ∧ Aside0 (kq ≤ kj5) ∧ Aside0 (Kd.R k47 47 w' w.heap.size (fun _=>True) (.slice Ao56 t9.length co56) t9) ∧ Aside0 (Kd.R k43 43 w' w.heap.size (fun k_=>some k_ ≠ (v31 : Value).ownBlock ∧ some k_ ≠ (v34 : Value).ownBlock) v28 t27) ∧ Aside0 (Kd.R k43 43 w' w.heap.size (fun k_=>some k_ ≠ (v28 : Value).ownBlock ∧ some k_ ≠ (v34 : Value).ownBlock) v31 t30) ∧ Aside0 (Kd.R k43 43 w' w.heap.size (fun k_=>some k_ ≠ (v28 : Value).ownBlock ∧ some k_ ≠ (v31 : Value).ownBlock) v34 t33) ∧ Aside0 (Kd.R k85 85 w' w.heap.size (fun _=>True) (.slice Ao9 t1.length co9) t1) ∧ Aside0 (w'.heap[gb8]? = some (.cells #[(.slice Ao9 t1.length co9)] 25 (0,0))) ∧ Aside0 (Below w.heap.size w w'))
     case atStart=>exact ⟨(0),(by first | rfl | (simp;done) | (simp [*];done)),H',⟨Nat.le_refl _⟩,⟨by (with_reducible repeat (first | apply Kd.R_alloc | apply Kd.R_drewN | apply Kd.R_drew));exact Kd.R_mono HO_6.out (fun _ hk=>trivial)⟩,⟨by (with_reducible repeat (first | apply Kd.R_alloc | apply Kd.R_drewN | apply Kd.R_drew));exact Kd.R_mono HO29.out (fun _ hk=>⟨hk.1.2,hk.2⟩)⟩,⟨by (with_reducible repeat (first | apply Kd.R_alloc | apply Kd.R_drewN | apply Kd.R_drew));exact Kd.R_mono HO32.out (fun _ hk=>⟨hk.1.2,hk.2⟩)⟩,⟨by (with_reducible repeat (first | apply Kd.R_alloc | apply Kd.R_drewN | apply Kd.R_drew));exact Kd.R_mono HO35.out (fun _ hk=>⟨hk.1.2,hk.2⟩)⟩,⟨by (with_reducible repeat (first | apply Kd.R_alloc | apply Kd.R_drewN | apply Kd.R_drew));exact Z9.out⟩,⟨by (with_reducible repeat (first | refine blk_drewN ?_ _ | refine blk_drew ?_ | refine blk_alloc ?_ _));exact BK8.out⟩,⟨hb_⟩⟩
     case round =>
      clear H'
      try clear c1
      try clear c2
      try clear c2b0
      try clear c2b1
      try clear p2
      try clear c4
      try clear c7
      try clear c13
      try clear c16
      try clear c17
      try clear c18
      try clear c20
      try clear c24
      try clear c25
      try clear c26
      try clear c42
      try clear c44
      try clear hcz10_0
      try clear hcz13_0
      try clear hcz26_0
      try clear hcz28_0
      try clear hcz34_0
      try clear hcz55_0
      try clear hcz58_0
      try clear hcz61_0
      try clear hfz10_0
      try clear hfz13_0
      try clear hfz26_0
      try clear hfz28_0
      try clear hfz34_0
      try clear hfz55_0
      try clear hfz58_0
      try clear hfz61_0
      try clear p2
      obtain ⟨x13_2,rfl,HA,HK2,HO_6,HO_10,HO_11,HO_12,Z9,BK8,HB⟩:=hrel
      cases gk with
      | zero=>exact absurd HA.out (by simp [laws_FnSplitGroup.l0])
      | succ k2 =>
       have H:=HA.out
       clear HA
       simp only [laws_FnSplitGroup.l0] at H
       by_cases c63 : x13_2 < (t33.length : Int)
       ·rw [if_pos c63] at H
        have c63b0 : decide (x13_2 < (t33.length : Int)) = true:=decide_eq_true c63
        clear c63
        by_cases c64 : 0 ≤ x13_2
        ·rw [if_pos c64] at H
         have c64b0 : decide (0 ≤ x13_2) = true:=decide_eq_true c64
         clear c64
         replace H:=Option.bind_eq_some_iff.mp H
         obtain ⟨t44,A650,H⟩:=H
         try dsimp only at H
         have A65:=a0_ A650
         clear A650
         replace H:=Option.bind_eq_some_iff.mp H
         obtain ⟨t46,A660,H⟩:=H
         try dsimp only at H
         have A66:=a0_ A660
         clear A660
         replace H:=Option.bind_eq_some_iff.mp H
         obtain ⟨t48,A670,H⟩:=H
         try dsimp only at H
         have A67:=a0_ A670
         clear A670
         by_cases c68 : (wrap64 (t44 + t46)) = t48
         ·rw [if_pos c68] at H
          have c68b0 : ((wrap64 (t44 + t46)) == t48) = true:=beq_iff_eq.mpr c68
          have c68b1 : ((wrap64 (t44 + t46)) != t48) = false:=bne_eq_false_iff_eq.mpr c68
          clear c68
          replace H:=Option.bind_eq_some_iff.mp H
          obtain ⟨t50,A690,H⟩:=H
          try dsimp only at H
          have A69:=a0_ A690
          clear A690
          replace H:=Option.bind_eq_some_iff.mp H
          obtain ⟨t52,A700,H⟩:=H
          try dsimp only at H
          have A70:=a0_ A700
          clear A700
          by_cases c71 : ((decide (t50 > 0)) != t52) = true
          ·rw [if_pos c71] at H
           have c71b0 : ((decide (t50 > 0)) != t52) = true:=c71
           (try (have c71b1 : decide ((decide (t50 > 0)) = t52) = false:=by simpa using c71))
           (try (have c71b2 : ((decide (t50 > 0)) == t52) = false:=by simpa using c71))
           (try (have c71b3 : ¬ ((decide (t50 > 0)) = t52):=by simpa using c71))
           clear c71
           obtain rfl:=Option.some.inj H
           obtain ⟨Ao72,co72,eo72⟩:=Kd.R_slice HO_12.out
           subst eo72
           try go_wp2
           have n0_:=a0_ (Kd.R_drew HO_6.out)
           have n1_:=a0_ (Kd.R_drew HO_10.out)
           have n2_:=a0_ (Kd.R_drew HO_11.out)
           have n3_:=a0_ (Kd.R_drew HO_12.out)
           have n4_:=a0_ (Kd.R_drew Z9.out)
           have n5_:=a0_ (blk_drew BK8.out)
           have n6_:=a0_ (below_drew1 HB.out)
           clear HO_6
           clear HO_10
           clear HO_11
           clear HO_12
           clear Z9
           clear BK8
           clear HB
           have HO_6:=n0_
           have HO_10:=n1_
           have HO_11:=n2_
           have HO_12:=n3_
           have Z9:=n4_
           have BK8:=n5_
           have HB:=n6_
           clear n0_ n1_ n2_ n3_ n4_ n5_ n6_
           have p43 : 0 ≤ (x13_2 : Int):=of_decide_eq_true (by first | (with_reducible assumption) | assumption)
           have q43 : x13_2 < (t33.length : Int):=of_decide_eq_true (by first | (with_reducible assumption) | assumption)
           obtain ⟨ad43,e43,hx43_0,hx43_1⟩:=at_T43 (Kd.R_reads' HO_12.out).2.2 x13_2 p43 q43
           cases e43
           replace p43:=eq_true p43
           replace q43:=eq_true q43
           have p45 : 0 ≤ (x13_2 : Int):=of_decide_eq_true (by first | (with_reducible assumption) | assumption)
           have q45 : x13_2 < (t33.length : Int):=of_decide_eq_true (by first | (with_reducible assumption) | assumption)
           obtain ⟨ad45,e45,hx45_0,hx45_1⟩:=at_T43 (Kd.R_reads' HO_12.out).2.2 x13_2 p45 q45
           obtain rfl : ad43 = ad45:=(by injection e45)
           replace p45:=eq_true p45
           replace q45:=eq_true q45
           have p47 : 0 ≤ (x13_2 : Int):=of_decide_eq_true (by first | (with_reducible assumption) | assumption)
           have q47 : x13_2 < (t33.length : Int):=of_decide_eq_true (by first | (with_reducible assumption) | assumption)
           obtain ⟨ad47,e47,hx47_0,hx47_1⟩:=at_T43 (Kd.R_reads' HO_12.out).2.2 x13_2 p47 q47
           obtain rfl : ad43 = ad47:=(by injection e47)
           replace p47:=eq_true p47
           replace q47:=eq_true q47
           obtain ⟨Ao74,co74,eo74⟩:=Kd.R_slice HO_10.out
           (first | subst eo74 | (injection eo74 with f1_ f2_ f3_;have f4_:=f1_.symm;have f5_:=f3_.symm;clear f1_ f2_ f3_;subst f4_;subst f5_))
           have p49 : 0 ≤ (x13_2 : Int):=of_decide_eq_true (by first | (with_reducible assumption) | assumption)
           have q49 : x13_2 < (t33.length : Int):=of_decide_eq_true (by first | (with_reducible assumption) | assumption)
           obtain ⟨ad49,e49,hx49_0,hx49_1⟩:=at_T43 (Kd.R_reads' HO_12.out).2.2 x13_2 p49 q49
           obtain rfl : ad43 = ad49:=(by injection e49)
           replace p49:=eq_true p49
           replace q49:=eq_true q49
           have p51 : 0 ≤ (x13_2 : Int):=of_decide_eq_true (by first | (with_reducible assumption) | assumption)
           have q51 : x13_2 < (t33.length : Int):=of_decide_eq_true (by first | (with_reducible assumption) | assumption)
           obtain ⟨ad51,e51,hx51_0,hx51_1⟩:=at_T43 (Kd.R_reads' HO_12.out).2.2 x13_2 p51 q51
           obtain rfl : ad43 = ad51:=(by injection e51)
           replace p51:=eq_true p51
           replace q51:=eq_true q51
           refine start_ (n:=38) (S:=fun w'=>w'.cell? ⟨gb8,0,none⟩ = some (.slice Ao9 t1.length co9) ∧ w'.cell? (ad43.add ((x13_2).toNat * 2)) = some (.int .i64 ((rd_T43 t33 x13_2).f0)) ∧ w'.cell? ⟨(ad43.add ((x13_2).toNat * 2)).block,(ad43.add ((x13_2).toNat * 2)).off + 1,none⟩ = some (.int .i64 ((rd_T43 t33 x13_2).f1)) ∧ w'.cell? (ad43.add ((x13_2).toNat * 2)) = some (.int .i64 ((rd_T43 t33 x13_2).f0)) ∧ w'.cell? ⟨(ad43.add ((x13_2).toNat * 2)).block,(ad43.add ((x13_2).toNat * 2)).off + 1,none⟩ = some (.int .i64 ((rd_T43 t33 x13_2).f1)) ∧ w'.cell? (ad43.add ((x13_2).toNat * 2)) = some (.int .i64 ((rd_T43 t33 x13_2).f0)) ∧ w'.cell? ⟨(ad43.add ((x13_2).toNat * 2)).block,(ad43.add ((x13_2).toNat * 2)).off + 1,none⟩ = some (.int .i64 ((rd_T43 t33 x13_2).f1)) ∧ w'.cell? (ad43.add ((x13_2).toNat * 2)) = some (.int .i64 ((rd_T43 t33 x13_2).f0)) ∧ w'.cell? ⟨(ad43.add ((x13_2).toNat * 2)).block,(ad43.add ((x13_2).toNat * 2)).off + 1,none⟩ = some (.int .i64 ((rd_T43 t33 x13_2).f1)) ∧ w'.cell? (ad43.add ((x13_2).toNat * 2)) = some (.int .i64 ((rd_T43 t33 x13_2).f0)) ∧ w'.cell? ⟨(ad43.add ((x13_2).toNat * 2)).block,(ad43.add ((x13_2).toNat * 2)).off + 1,none⟩ = some (.int .i64 ((rd_T43 t33 x13_2).f1))) (ds:=[]) #[false,false,false,false,false,false,false,false,false,false,false,false,false,false,false,false,false,false,false,false,false,false,false,false,false,false,false,false,false,false,false,false,false,false,false,false,false,false] (by kernel_rfl) rfl rfl ⟨(blk_cell BK8.out 0).trans rfl,hx43_0,hx43_1,hx45_0,hx45_1,hx47_0,hx47_1,hx49_0,hx49_1,hx51_0,hx51_1⟩ (fun hHeld=>?_);refine with_tabW laws_FnSplitGroup.tab14 laws_FnSplitGroup.bits14 (fun HT_ HW_=>?_)
           generalize wr.drew = w73 at HO_6 HO_10 HO_11 HO_12 Z9 BK8 HB hx43_0 hx43_1 hx45_0 hx45_1 hx47_0 hx47_1 hx49_0 hx49_1 hx51_0 hx51_1 hHeld ⊢
           refine pure_ (i:=0) (N:=some 84) (v:=?_) (a':=?_) #[true,false,false,false,false,false,false,false,false,false,false,false,false,false,false,false,false,false,false,false,false,false,false,false,false,false,false,false,false,false,false,false,false,false,false,false,false,false] rfl rfl (any_of HT_.out (by kernel_rfl)) (fun _ _ _ h=>h) (Or.inl ⟨by rfl,?_⟩) ?_ ?_
           rotate_left
           ·intro w'
            go_simp
            with_reducible rfl
           rotate_left
           ·simp only [Act.put,s1_,s2_,s3_,i64_w,i32_w]
            rfl
           refine pure_ (i:=1) (N:=some 85) (v:=?_) (a':=?_) #[true,true,false,false,false,false,false,false,false,false,false,false,false,false,false,false,false,false,false,false,false,false,false,false,false,false,false,false,false,false,false,false,false,false,false,false,false,false] rfl rfl (any_of HT_.out (by kernel_rfl)) (fun _ _ _ h=>h) (Or.inl ⟨by rfl,?_⟩) ?_ ?_
           rotate_left
           ·intro w'
            go_simp
            with_reducible rfl
           rotate_left
           ·simp only [Act.put,s1_,s2_,s3_,i64_w,i32_w]
            rfl
           refine pure_ (i:=2) (N:=some 86) (v:=?_) (a':=?_) #[true,true,true,false,false,false,false,false,false,false,false,false,false,false,false,false,false,false,false,false,false,false,false,false,false,false,false,false,false,false,false,false,false,false,false,false,false,false] rfl rfl (any_of HT_.out (by kernel_rfl)) (fun _ _ _ h=>h) (Or.inl ⟨by rfl,?_⟩) ?_ ?_
           rotate_left
           ·intro w'
            go_simp
            with_reducible rfl
           rotate_left
           ·simp only [Act.put,s1_,s2_,s3_,i64_w,i32_w]
            rfl
           refine pure_ (i:=3) (N:=some 87) (v:=?_) (a':=?_) #[true,true,true,true,false,false,false,false,false,false,false,false,false,false,false,false,false,false,false,false,false,false,false,false,false,false,false,false,false,false,false,false,false,false,false,false,false,false] rfl rfl (any_of HT_.out (by kernel_rfl)) (fun _ _ _ h=>h) (Or.inl ⟨by rfl,?_⟩) ?_ ?_
           rotate_left
           ·intro w'
            go_simp
            with_reducible rfl
           rotate_left
           ·simp only [Act.put,s1_,s2_,s3_,i64_w,i32_w]
            rfl
           refine pure_ (i:=6) (N:=some 90) (v:=?_) (a':=?_) #[true,true,true,true,false,false,true,false,false,false,false,false,false,false,false,false,false,false,false,false,false,false,false,false,false,false,false,false,false,false,false,false,false,false,false,false,false,false] rfl rfl (any_of HT_.out (by kernel_rfl)) (fun _ _ _ h=>h) (Or.inl ⟨by rfl,?_⟩) ?_ ?_
           rotate_left
           ·intro w'
            go_simp
            with_reducible rfl
           rotate_left
           ·simp only [Act.put,s1_,s2_,s3_,i64_w,i32_w]
            rfl
           refine pure_ (i:=7) (N:=some 91) (v:=?_) (a':=?_) #[true,true,true,true,false,false,true,true,false,false,false,false,false,false,false,false,false,false,false,false,false,false,false,false,false,false,false,false,false,false,false,false,false,false,false,false,false,false] rfl rfl (any_of HT_.out (by kernel_rfl)) (fun _ _ _ h=>h) (Or.inl ⟨by rfl,?_⟩) ?_ ?_
           rotate_left
           ·intro w'
            go_simp
            with_reducible rfl
           rotate_left
           ·simp only [Act.put,s1_,s2_,s3_,i64_w,i32_w]
            rfl
           refine pure_ (i:=8) (N:=some 92) (v:=?_) (a':=?_) #[true,true,true,true,false,false,true,true,true,false,false,false,false,false,false,false,false,false,false,false,false,false,false,false,false,false,false,false,false,false,false,false,false,false,false,false,false,false] rfl rfl (any_of HT_.out (by kernel_rfl)) (fun _ _ _ h=>h) (Or.inl ⟨by rfl,?_⟩) ?_ ?_
           rotate_left
           ·intro w'
            go_simp
            with_reducible rfl
           rotate_left
           ·simp only [Act.put,s1_,s2_,s3_,i64_w,i32_w]
            rfl
           refine pure_ (i:=9) (N:=some 93) (v:=?_) (a':=?_) #[true,true,true,true,false,false,true,true,true,true,false,false,false,false,false,false,false,false,false,false,false,false,false,false,false,false,false,false,false,false,false,false,false,false,false,false,false,false] rfl rfl (any_of HT_.out (by kernel_rfl)) (fun _ _ _ h=>h) (Or.inl ⟨by rfl,?_⟩) ?_ ?_
           rotate_left
           ·intro w'
            go_simp
            with_reducible rfl
           rotate_left
           ·simp only [Act.put,s1_,s2_,s3_,i64_w,i32_w]
            rfl
           refine pure_ (i:=13) (N:=some 97) (v:=?_) (a':=?_) #[true,true,true,true,false,false,true,true,true,true,false,false,false,true,false,false,false,false,false,false,false,false,false,false,false,false,false,false,false,false,false,false,false,false,false,false,false,false] rfl rfl (any_of HT_.out (by kernel_rfl)) (fun _ _ _ h=>h) (Or.inl ⟨by rfl,?_⟩) ?_ ?_
           rotate_left
           ·intro w'
            go_simp
            with_reducible rfl
           rotate_left
           ·simp only [Act.put,s1_,s2_,s3_,i64_w,i32_w]
            rfl
           refine pure_ (i:=14) (N:=some 98) (v:=?_) (a':=?_) #[true,true,true,true,false,false,true,true,true,true,false,false,false,true,true,false,false,false,false,false,false,false,false,false,false,false,false,false,false,false,false,false,false,false,false,false,false,false] rfl rfl (any_of HT_.out (by kernel_rfl)) (fun _ _ _ h=>h) (Or.inl ⟨by rfl,?_⟩) ?_ ?_
           rotate_left
           ·intro w'
            go_simp
            with_reducible rfl
           rotate_left
           ·simp only [Act.put,s1_,s2_,s3_,i64_w,i32_w]
            rfl
           refine pure_ (i:=15) (N:=some 99) (v:=?_) (a':=?_) #[true,true,true,true,false,false,true,true,true,true,false,false,false,true,true,true,false,false,false,false,false,false,false,false,false,false,false,false,false,false,false,false,false,false,false,false,false,false] rfl rfl (any_of HT_.out (by kernel_rfl)) (fun _ _ _ h=>h) (Or.inl ⟨by rfl,?_⟩) ?_ ?_
           rotate_left
           ·intro w'
            go_simp
            with_reducible rfl
           rotate_left
           ·simp only [Act.put,s1_,s2_,s3_,i64_w,i32_w]
            rfl
           refine pure_ (i:=16) (N:=some 100) (v:=?_) (a':=?_) #[true,true,true,true,false,false,true,true,true,true,false,false,false,true,true,true,true,false,false,false,false,false,false,false,false,false,false,false,false,false,false,false,false,false,false,false,false,false] rfl rfl (any_of HT_.out (by kernel_rfl)) (fun _ _ _ h=>h) (Or.inl ⟨by rfl,?_⟩) ?_ ?_
           rotate_left
           ·intro w'
            go_simp
            with_reducible rfl
           rotate_left
           ·simp only [Act.put,s1_,s2_,s3_,i64_w,i32_w]
            rfl
           refine take_ (i:=4) (N:=some 88) (v:=?_) (a':=?_) #[true,true,true,true,true,false,true,true,true,true,false,false,false,true,true,true,true,false,false,false,false,false,false,false,false,false,false,false,false,false,false,false,false,false,false,false,false,false] rfl rfl (take_ofW HT_.out HW_.out (by kernel_rfl)) (fun _ _ _ h=>h) (Or.inl ⟨by rfl,?_⟩) hHeld ?_ ?_
           rotate_left
           ·rintro w' ⟨s0,s1,s2,s3,s4,s5,s6,s7,s8,s9,s10⟩
            go_simp
            with_reducible rfl
           rotate_left
           ·simp only [Act.put,s1_,s2_,s3_,i64_w,i32_w]
            rfl
           refine take_ (i:=10) (N:=some 94) (v:=?_) (a':=?_) #[true,true,true,true,true,false,true,true,true,true,true,false,false,true,true,true,true,false,false,false,false,false,false,false,false,false,false,false,false,false,false,false,false,false,false,false,false,false] rfl rfl (take_ofW HT_.out HW_.out (by kernel_rfl)) (fun _ _ _ h=>h) (Or.inl ⟨by rfl,?_⟩) hHeld ?_ ?_
           rotate_left
           ·rintro w' ⟨s0,s1,s2,s3,s4,s5,s6,s7,s8,s9,s10⟩
            go_simp
            with_reducible rfl
           rotate_left
           ·simp only [Act.put,s1_,s2_,s3_,i64_w,i32_w]
            rfl
           refine take_ (i:=17) (N:=some 101) (v:=?_) (a':=?_) #[true,true,true,true,true,false,true,true,true,true,true,false,false,true,true,true,true,true,false,false,false,false,false,false,false,false,false,false,false,false,false,false,false,false,false,false,false,false] rfl rfl (take_ofW HT_.out HW_.out (by kernel_rfl)) (fun _ _ _ h=>h) (Or.inl ⟨by rfl,?_⟩) hHeld ?_ ?_
           rotate_left
           ·rintro w' ⟨s0,s1,s2,s3,s4,s5,s6,s7,s8,s9,s10⟩
            go_simp
            with_reducible rfl
           rotate_left
           ·simp only [Act.put,s1_,s2_,s3_,i64_w,i32_w]
            rfl
           refine one_ (i:=5) (N:=some 89) #[true,true,true,true,true,true,true,true,true,true,true,false,false,true,true,true,true,true,false,false,false,false,false,false,false,false,false,false,false,false,false,false,false,false,false,false,false,false] rfl rfl (one_of HT_.out (by kernel_rfl)) (by decide) (fun K hK=>?_)
           refine goes_ Try.func27 (by kernel_rfl) rfl #[.slice Ao74 t27.length co74,.agg #[.int .i64 ((rd_T43 t33 x13_2).f0),.int .i64 ((rd_T43 t33 x13_2).f1)]] (by rfl) rfl rfl lm_ ?_
           with_reducible refine (laws_count.calls k2 _ _ t27 ((rd_T43 t33 x13_2).f0) ((rd_T43 t33 x13_2).f1) t44 _ ?side1 ?side2 A65.out).mono ?_
           (case side1=>exact cc_ (Kd.R_reads' HO_10.out).2.2)
           (case side2=>exact (Kd.R_reads' HO_10.out).2.1)
           rintro e w75 ⟨rfl,hb⟩
           have HS1_:=(hb.cell (World.block_lt_of_cell? _ _ (hHeld.2.1))).trans (hHeld.2.1)
           have HS2_:=(hb.cell (World.block_lt_of_cell? _ _ (hHeld.2.2.1))).trans (hHeld.2.2.1)
           have HS3_:=(hb.cell (World.block_lt_of_cell? _ _ (hHeld.2.2.2.1))).trans (hHeld.2.2.2.1)
           have HS4_:=(hb.cell (World.block_lt_of_cell? _ _ (hHeld.2.2.2.2.1))).trans (hHeld.2.2.2.2.1)
           have HS5_:=(hb.cell (World.block_lt_of_cell? _ _ (hHeld.2.2.2.2.2.1))).trans (hHeld.2.2.2.2.2.1)
           have HS6_:=(hb.cell (World.block_lt_of_cell? _ _ (hHeld.2.2.2.2.2.2.1))).trans (hHeld.2.2.2.2.2.2.1)
           have HS7_:=(hb.cell (World.block_lt_of_cell? _ _ (hHeld.2.2.2.2.2.2.2.1))).trans (hHeld.2.2.2.2.2.2.2.1)
           have HS8_:=(hb.cell (World.block_lt_of_cell? _ _ (hHeld.2.2.2.2.2.2.2.2.1))).trans (hHeld.2.2.2.2.2.2.2.2.1)
           have HS9_:=(hb.cell (World.block_lt_of_cell? _ _ (hHeld.2.2.2.2.2.2.2.2.2.1))).trans (hHeld.2.2.2.2.2.2.2.2.2.1)
           have HS10_:=(hb.cell (World.block_lt_of_cell? _ _ (hHeld.2.2.2.2.2.2.2.2.2.2))).trans (hHeld.2.2.2.2.2.2.2.2.2.2)
           refine ⟨_,rfl,?_⟩
           have n0_:=rb_ HO_6 hb
           have n1_:=rb_ HO_10 hb
           have n2_:=rb_ HO_11 hb
           have n3_:=rb_ HO_12 hb
           have n4_:=rb_ Z9 hb
           have n5_:=kb_ BK8 hb
           have n6_:=a0_ (below_step hb_ hb)
           clear HO_6
           clear HO_10
           clear HO_11
           clear HO_12
           clear Z9
           clear BK8
           clear HB
           have HO_6:=n0_
           have HO_10:=n1_
           have HO_11:=n2_
           have HO_12:=n3_
           have Z9:=n4_
           have BK8:=n5_
           have HB:=n6_
           clear n0_ n1_ n2_ n3_ n4_ n5_ n6_
           (try clear hb)
           (try clear hb2)
           (try clear hk)
           (try clear hi)
           obtain ⟨Ao76,co76,eo76⟩:=Kd.R_slice HO_11.out
           (first | subst eo76 | (injection eo76 with f1_ f2_ f3_;have f4_:=f1_.symm;have f5_:=f3_.symm;clear f1_ f2_ f3_;subst f4_;subst f5_))
           refine hK.out _ _ ⟨(blk_cell BK8.out 0).trans rfl,HS1_,HS2_,HS3_,HS4_,HS5_,HS6_,HS7_,HS8_,HS9_,HS10_⟩ (fun hHeld=>?_)
           clear hK K
           refine norm_ (a':=?_) ?_ ?_
           rotate_left
           ·show Act.put _ (some 89) _ = _
            simp only [Act.put,s1_,s2_,s3_,i64_w,i32_w]
            rfl
           refine one_ (i:=11) (N:=some 95) #[true,true,true,true,true,true,true,true,true,true,true,true,false,true,true,true,true,true,false,false,false,false,false,false,false,false,false,false,false,false,false,false,false,false,false,false,false,false] rfl rfl (one_of HT_.out (by kernel_rfl)) (by decide) (fun K hK=>?_)
           refine goes_ Try.func27 (by kernel_rfl) rfl #[.slice Ao76 t30.length co76,.agg #[.int .i64 ((rd_T43 t33 x13_2).f0),.int .i64 ((rd_T43 t33 x13_2).f1)]] (by rfl) rfl rfl lm_ ?_
           with_reducible refine (laws_count.calls k2 _ _ t30 ((rd_T43 t33 x13_2).f0) ((rd_T43 t33 x13_2).f1) t46 _ ?side1 ?side2 A66.out).mono ?_
           (case side1=>exact cc_ (Kd.R_reads' HO_11.out).2.2)
           (case side2=>exact (Kd.R_reads' HO_11.out).2.1)
           rintro e w77 ⟨rfl,hb⟩
           have HS1_:=(hb.cell (World.block_lt_of_cell? _ _ (hHeld.2.1))).trans (hHeld.2.1)
           have HS2_:=(hb.cell (World.block_lt_of_cell? _ _ (hHeld.2.2.1))).trans (hHeld.2.2.1)
           have HS3_:=(hb.cell (World.block_lt_of_cell? _ _ (hHeld.2.2.2.1))).trans (hHeld.2.2.2.1)
           have HS4_:=(hb.cell (World.block_lt_of_cell? _ _ (hHeld.2.2.2.2.1))).trans (hHeld.2.2.2.2.1)
           have HS5_:=(hb.cell (World.block_lt_of_cell? _ _ (hHeld.2.2.2.2.2.1))).trans (hHeld.2.2.2.2.2.1)
           have HS6_:=(hb.cell (World.block_lt_of_cell? _ _ (hHeld.2.2.2.2.2.2.1))).trans (hHeld.2.2.2.2.2.2.1)
           have HS7_:=(hb.cell (World.block_lt_of_cell? _ _ (hHeld.2.2.2.2.2.2.2.1))).trans (hHeld.2.2.2.2.2.2.2.1)
           have HS8_:=(hb.cell (World.block_lt_of_cell? _ _ (hHeld.2.2.2.2.2.2.2.2.1))).trans (hHeld.2.2.2.2.2.2.2.2.1)
           have HS9_:=(hb.cell (World.block_lt_of_cell? _ _ (hHeld.2.2.2.2.2.2.2.2.2.1))).trans (hHeld.2.2.2.2.2.2.2.2.2.1)
           have HS10_:=(hb.cell (World.block_lt_of_cell? _ _ (hHeld.2.2.2.2.2.2.2.2.2.2))).trans (hHeld.2.2.2.2.2.2.2.2.2.2)
           refine ⟨_,rfl,?_⟩
           have n0_:=rb_ HO_6 hb
           have n1_:=rb_ HO_10 hb
           have n2_:=rb_ HO_11 hb
           have n3_:=rb_ HO_12 hb
           have n4_:=rb_ Z9 hb
           have n5_:=kb_ BK8 hb
           have n6_:=a0_ (below_step hb_ hb)
           clear HO_6
           clear HO_10
           clear HO_11
           clear HO_12
           clear Z9
           clear BK8
           clear HB
           have HO_6:=n0_
           have HO_10:=n1_
           have HO_11:=n2_
           have HO_12:=n3_
           have Z9:=n4_
           have BK8:=n5_
           have HB:=n6_
           clear n0_ n1_ n2_ n3_ n4_ n5_ n6_
           (try clear hb)
           (try clear hb2)
           (try clear hk)
           (try clear hi)
           refine hK.out _ _ ⟨(blk_cell BK8.out 0).trans rfl,HS1_,HS2_,HS3_,HS4_,HS5_,HS6_,HS7_,HS8_,HS9_,HS10_⟩ (fun hHeld=>?_)
           clear hK K
           refine norm_ (a':=?_) ?_ ?_
           rotate_left
           ·show Act.put _ (some 95) _ = _
            simp only [Act.put,s1_,s2_,s3_,i64_w,i32_w]
            rfl
           refine pure_ (i:=12) (N:=some 96) (v:=?_) (a':=?_) #[true,true,true,true,true,true,true,true,true,true,true,true,true,true,true,true,true,true,false,false,false,false,false,false,false,false,false,false,false,false,false,false,false,false,false,false,false,false] rfl rfl (any_of HT_.out (by kernel_rfl)) (fun _ _ _ h=>h) (Or.inl ⟨by rfl,?_⟩) ?_ ?_
           rotate_left
           ·intro w'
            go_simp
            with_reducible rfl
           rotate_left
           ·simp only [Act.put,s1_,s2_,s3_,i64_w,i32_w]
            rfl
           refine one_ (i:=18) (N:=some 102) #[true,true,true,true,true,true,true,true,true,true,true,true,true,true,true,true,true,true,true,false,false,false,false,false,false,false,false,false,false,false,false,false,false,false,false,false,false,false] rfl rfl (one_of HT_.out (by kernel_rfl)) (by decide) (fun K hK=>?_)
           refine goes_ Try.func27 (by kernel_rfl) rfl #[.slice (some ad43) t33.length co72,.agg #[.int .i64 ((rd_T43 t33 x13_2).f0),.int .i64 ((rd_T43 t33 x13_2).f1)]] (by rfl) rfl rfl lm_ ?_
           with_reducible refine (laws_count.calls k2 _ _ t33 ((rd_T43 t33 x13_2).f0) ((rd_T43 t33 x13_2).f1) t48 _ ?side1 ?side2 A67.out).mono ?_
           (case side1=>exact cc_ (Kd.R_reads' HO_12.out).2.2)
           (case side2=>exact (Kd.R_reads' HO_12.out).2.1)
           rintro e w78 ⟨rfl,hb⟩
           have HS1_:=(hb.cell (World.block_lt_of_cell? _ _ (hHeld.2.1))).trans (hHeld.2.1)
           have HS2_:=(hb.cell (World.block_lt_of_cell? _ _ (hHeld.2.2.1))).trans (hHeld.2.2.1)
           have HS3_:=(hb.cell (World.block_lt_of_cell? _ _ (hHeld.2.2.2.1))).trans (hHeld.2.2.2.1)
           have HS4_:=(hb.cell (World.block_lt_of_cell? _ _ (hHeld.2.2.2.2.1))).trans (hHeld.2.2.2.2.1)
           have HS5_:=(hb.cell (World.block_lt_of_cell? _ _ (hHeld.2.2.2.2.2.1))).trans (hHeld.2.2.2.2.2.1)
           have HS6_:=(hb.cell (World.block_lt_of_cell? _ _ (hHeld.2.2.2.2.2.2.1))).trans (hHeld.2.2.2.2.2.2.1)
           have HS7_:=(hb.cell (World.block_lt_of_cell? _ _ (hHeld.2.2.2.2.2.2.2.1))).trans (hHeld.2.2.2.2.2.2.2.1)
           have HS8_:=(hb.cell (World.block_lt_of_cell? _ _ (hHeld.2.2.2.2.2.2.2.2.1))).trans (hHeld.2.2.2.2.2.2.2.2.1)
           have HS9_:=(hb.cell (World.block_lt_of_cell? _ _ (hHeld.2.2.2.2.2.2.2.2.2.1))).trans (hHeld.2.2.2.2.2.2.2.2.2.1)
           have HS10_:=(hb.cell (World.block_lt_of_cell? _ _ (hHeld.2.2.2.2.2.2.2.2.2.2))).trans (hHeld.2.2.2.2.2.2.2.2.2.2)
           refine ⟨_,rfl,?_⟩
           have n0_:=rb_ HO_6 hb
           have n1_:=rb_ HO_10 hb
           have n2_:=rb_ HO_11 hb
           have n3_:=rb_ HO_12 hb
           have n4_:=rb_ Z9 hb
           have n5_:=kb_ BK8 hb
           have n6_:=a0_ (below_step hb_ hb)
           clear HO_6
           clear HO_10
           clear HO_11
           clear HO_12
           clear Z9
           clear BK8
           clear HB
           have HO_6:=n0_
           have HO_10:=n1_
           have HO_11:=n2_
           have HO_12:=n3_
           have Z9:=n4_
           have BK8:=n5_
           have HB:=n6_
           clear n0_ n1_ n2_ n3_ n4_ n5_ n6_
           (try clear hb)
           (try clear hb2)
           (try clear hk)
           (try clear hi)
           refine hK.out _ _ ⟨(blk_cell BK8.out 0).trans rfl,HS1_,HS2_,HS3_,HS4_,HS5_,HS6_,HS7_,HS8_,HS9_,HS10_⟩ (fun hHeld=>?_)
           clear hK K
           refine norm_ (a':=?_) ?_ ?_
           rotate_left
           ·show Act.put _ (some 102) _ = _
            simp only [Act.put,s1_,s2_,s3_,i64_w,i32_w]
            rfl
           refine pure_ (i:=19) (N:=some 103) (v:=?_) (a':=?_) #[true,true,true,true,true,true,true,true,true,true,true,true,true,true,true,true,true,true,true,true,false,false,false,false,false,false,false,false,false,false,false,false,false,false,false,false,false,false] rfl rfl (any_of HT_.out (by kernel_rfl)) (fun _ _ _ h=>h) (Or.inl ⟨by rfl,?_⟩) ?_ ?_
           rotate_left
           ·intro w'
            go_simp
            with_reducible rfl
           rotate_left
           ·simp only [Act.put,s1_,s2_,s3_,i64_w,i32_w]
            rfl
           refine pure_ (i:=20) (N:=some 104) (v:=?_) (a':=?_) #[true,true,true,true,true,true,true,true,true,true,true,true,true,true,true,true,true,true,true,true,true,false,false,false,false,false,false,false,false,false,false,false,false,false,false,false,false,false] rfl rfl (any_of HT_.out (by kernel_rfl)) (fun _ _ _ h=>h) (Or.inl ⟨by rfl,?_⟩) ?_ ?_
           rotate_left
           ·intro w'
            go_simp
            with_reducible rfl
           rotate_left
           ·simp only [Act.put,s1_,s2_,s3_,i64_w,i32_w]
            rfl
           refine pure_ (i:=21) (N:=some 105) (v:=?_) (a':=?_) #[true,true,true,true,true,true,true,true,true,true,true,true,true,true,true,true,true,true,true,true,true,true,false,false,false,false,false,false,false,false,false,false,false,false,false,false,false,false] rfl rfl (any_of HT_.out (by kernel_rfl)) (fun _ _ _ h=>h) (Or.inl ⟨by rfl,?_⟩) ?_ ?_
           rotate_left
           ·intro w'
            go_simp
            with_reducible rfl
           rotate_left
           ·simp only [Act.put,s1_,s2_,s3_,i64_w,i32_w]
            rfl
           refine pure_ (i:=22) (N:=some 106) (v:=?_) (a':=?_) #[true,true,true,true,true,true,true,true,true,true,true,true,true,true,true,true,true,true,true,true,true,true,true,false,false,false,false,false,false,false,false,false,false,false,false,false,false,false] rfl rfl (any_of HT_.out (by kernel_rfl)) (fun _ _ _ h=>h) (Or.inl ⟨by rfl,?_⟩) ?_ ?_
           rotate_left
           ·intro w'
            go_simp
            with_reducible rfl
           rotate_left
           ·simp only [Act.put,s1_,s2_,s3_,i64_w,i32_w]
            rfl
           refine pure_ (i:=23) (N:=some 107) (v:=?_) (a':=?_) #[true,true,true,true,true,true,true,true,true,true,true,true,true,true,true,true,true,true,true,true,true,true,true,true,false,false,false,false,false,false,false,false,false,false,false,false,false,false] rfl rfl (any_of HT_.out (by kernel_rfl)) (fun _ _ _ h=>h) (Or.inl ⟨by rfl,?_⟩) ?_ ?_
           rotate_left
           ·intro w'
            go_simp
            with_reducible rfl
           rotate_left
           ·simp only [Act.put,s1_,s2_,s3_,i64_w,i32_w]
            rfl
           refine pure_ (i:=24) (N:=some 108) (v:=?_) (a':=?_) #[true,true,true,true,true,true,true,true,true,true,true,true,true,true,true,true,true,true,true,true,true,true,true,true,true,false,false,false,false,false,false,false,false,false,false,false,false,false] rfl rfl (any_of HT_.out (by kernel_rfl)) (fun _ _ _ h=>h) (Or.inl ⟨by rfl,?_⟩) ?_ ?_
           rotate_left
           ·intro w'
            go_simp
            with_reducible rfl
           rotate_left
           ·simp only [Act.put,s1_,s2_,s3_,i64_w,i32_w]
            rfl
           refine pure_ (i:=29) (N:=some 113) (v:=?_) (a':=?_) #[true,true,true,true,true,true,true,true,true,true,true,true,true,true,true,true,true,true,true,true,true,true,true,true,true,false,false,false,false,true,false,false,false,false,false,false,false,false] rfl rfl (any_of HT_.out (by kernel_rfl)) (fun _ _ _ h=>h) (Or.inl ⟨by rfl,?_⟩) ?_ ?_
           rotate_left
           ·intro w'
            go_simp
            with_reducible rfl
           rotate_left
           ·simp only [Act.put,s1_,s2_,s3_,i64_w,i32_w]
            rfl
           refine pure_ (i:=30) (N:=some 114) (v:=?_) (a':=?_) #[true,true,true,true,true,true,true,true,true,true,true,true,true,true,true,true,true,true,true,true,true,true,true,true,true,false,false,false,false,true,true,false,false,false,false,false,false,false] rfl rfl (any_of HT_.out (by kernel_rfl)) (fun _ _ _ h=>h) (Or.inl ⟨by rfl,?_⟩) ?_ ?_
           rotate_left
           ·intro w'
            go_simp
            with_reducible rfl
           rotate_left
           ·simp only [Act.put,s1_,s2_,s3_,i64_w,i32_w]
            rfl
           refine pure_ (i:=31) (N:=some 115) (v:=?_) (a':=?_) #[true,true,true,true,true,true,true,true,true,true,true,true,true,true,true,true,true,true,true,true,true,true,true,true,true,false,false,false,false,true,true,true,false,false,false,false,false,false] rfl rfl (any_of HT_.out (by kernel_rfl)) (fun _ _ _ h=>h) (Or.inl ⟨by rfl,?_⟩) ?_ ?_
           rotate_left
           ·intro w'
            go_simp
            with_reducible rfl
           rotate_left
           ·simp only [Act.put,s1_,s2_,s3_,i64_w,i32_w]
            rfl
           refine pure_ (i:=32) (N:=some 116) (v:=?_) (a':=?_) #[true,true,true,true,true,true,true,true,true,true,true,true,true,true,true,true,true,true,true,true,true,true,true,true,true,false,false,false,false,true,true,true,true,false,false,false,false,false] rfl rfl (any_of HT_.out (by kernel_rfl)) (fun _ _ _ h=>h) (Or.inl ⟨by rfl,?_⟩) ?_ ?_
           rotate_left
           ·intro w'
            go_simp
            with_reducible rfl
           rotate_left
           ·simp only [Act.put,s1_,s2_,s3_,i64_w,i32_w]
            rfl
           refine pure_ (i:=34) (N:=some 118) (v:=?_) (a':=?_) #[true,true,true,true,true,true,true,true,true,true,true,true,true,true,true,true,true,true,true,true,true,true,true,true,true,false,false,false,false,true,true,true,true,false,true,false,false,false] rfl rfl (any_of HT_.out (by kernel_rfl)) (fun _ _ _ h=>h) (Or.inl ⟨by rfl,?_⟩) ?_ ?_
           rotate_left
           ·intro w'
            go_simp
            with_reducible rfl
           rotate_left
           ·simp only [Act.put,s1_,s2_,s3_,i64_w,i32_w]
            rfl
           refine take_ (i:=25) (N:=some 109) (v:=?_) (a':=?_) #[true,true,true,true,true,true,true,true,true,true,true,true,true,true,true,true,true,true,true,true,true,true,true,true,true,true,false,false,false,true,true,true,true,false,true,false,false,false] rfl rfl (take_ofW HT_.out HW_.out (by kernel_rfl)) (fun _ _ _ h=>h) (Or.inl ⟨by rfl,?_⟩) hHeld ?_ ?_
           rotate_left
           ·rintro w' ⟨s0,s1,s2,s3,s4,s5,s6,s7,s8,s9,s10⟩
            go_simp
            with_reducible rfl
           rotate_left
           ·simp only [Act.put,s1_,s2_,s3_,i64_w,i32_w]
            rfl
           refine take_ (i:=28) (N:=some 112) (v:=?_) (a':=?_) #[true,true,true,true,true,true,true,true,true,true,true,true,true,true,true,true,true,true,true,true,true,true,true,true,true,true,false,false,true,true,true,true,true,false,true,false,false,false] rfl rfl (take_ofW HT_.out HW_.out (by kernel_rfl)) (fun _ _ _ h=>h) (Or.inl ⟨by rfl,?_⟩) hHeld ?_ ?_
           rotate_left
           ·rintro w' ⟨s0,s1,s2,s3,s4,s5,s6,s7,s8,s9,s10⟩
            go_simp
            with_reducible rfl
           rotate_left
           ·simp only [Act.put,s1_,s2_,s3_,i64_w,i32_w]
            rfl
           refine take_ (i:=33) (N:=some 117) (v:=?_) (a':=?_) #[true,true,true,true,true,true,true,true,true,true,true,true,true,true,true,true,true,true,true,true,true,true,true,true,true,true,false,false,true,true,true,true,true,true,true,false,false,false] rfl rfl (take_ofW HT_.out HW_.out (by kernel_rfl)) (fun _ _ _ h=>h) (Or.inl ⟨by rfl,?_⟩) hHeld ?_ ?_
           rotate_left
           ·rintro w' ⟨s0,s1,s2,s3,s4,s5,s6,s7,s8,s9,s10⟩
            go_simp
            with_reducible rfl
           rotate_left
           ·simp only [Act.put,s1_,s2_,s3_,i64_w,i32_w]
            rfl
           refine one_ (i:=26) (N:=some 110) #[true,true,true,true,true,true,true,true,true,true,true,true,true,true,true,true,true,true,true,true,true,true,true,true,true,true,true,false,true,true,true,true,true,true,true,false,false,false] rfl rfl (one_of HT_.out (by kernel_rfl)) (by decide) (fun K hK=>?_)
           refine goes_ Try.func27 (by kernel_rfl) rfl #[.slice Ao74 t27.length co74,.agg #[.int .i64 ((rd_T43 t33 x13_2).f0),.int .i64 ((rd_T43 t33 x13_2).f1)]] (by rfl) rfl rfl lm_ ?_
           with_reducible refine (laws_count.calls k2 _ _ t27 ((rd_T43 t33 x13_2).f0) ((rd_T43 t33 x13_2).f1) t50 _ ?side1 ?side2 A69.out).mono ?_
           (case side1=>exact cc_ (Kd.R_reads' HO_10.out).2.2)
           (case side2=>exact (Kd.R_reads' HO_10.out).2.1)
           rintro e w79 ⟨rfl,hb⟩
           have HS1_:=(hb.cell (World.block_lt_of_cell? _ _ (hHeld.2.1))).trans (hHeld.2.1)
           have HS2_:=(hb.cell (World.block_lt_of_cell? _ _ (hHeld.2.2.1))).trans (hHeld.2.2.1)
           have HS3_:=(hb.cell (World.block_lt_of_cell? _ _ (hHeld.2.2.2.1))).trans (hHeld.2.2.2.1)
           have HS4_:=(hb.cell (World.block_lt_of_cell? _ _ (hHeld.2.2.2.2.1))).trans (hHeld.2.2.2.2.1)
           have HS5_:=(hb.cell (World.block_lt_of_cell? _ _ (hHeld.2.2.2.2.2.1))).trans (hHeld.2.2.2.2.2.1)
           have HS6_:=(hb.cell (World.block_lt_of_cell? _ _ (hHeld.2.2.2.2.2.2.1))).trans (hHeld.2.2.2.2.2.2.1)
           have HS7_:=(hb.cell (World.block_lt_of_cell? _ _ (hHeld.2.2.2.2.2.2.2.1))).trans (hHeld.2.2.2.2.2.2.2.1)
           have HS8_:=(hb.cell (World.block_lt_of_cell? _ _ (hHeld.2.2.2.2.2.2.2.2.1))).trans (hHeld.2.2.2.2.2.2.2.2.1)
           have HS9_:=(hb.cell (World.block_lt_of_cell? _ _ (hHeld.2.2.2.2.2.2.2.2.2.1))).trans (hHeld.2.2.2.2.2.2.2.2.2.1)
           have HS10_:=(hb.cell (World.block_lt_of_cell? _ _ (hHeld.2.2.2.2.2.2.2.2.2.2))).trans (hHeld.2.2.2.2.2.2.2.2.2.2)
           refine ⟨_,rfl,?_⟩
           have n0_:=rb_ HO_6 hb
           have n1_:=rb_ HO_10 hb
           have n2_:=rb_ HO_11 hb
           have n3_:=rb_ HO_12 hb
           have n4_:=rb_ Z9 hb
           have n5_:=kb_ BK8 hb
           have n6_:=a0_ (below_step hb_ hb)
           clear HO_6
           clear HO_10
           clear HO_11
           clear HO_12
           clear Z9
           clear BK8
           clear HB
           have HO_6:=n0_
           have HO_10:=n1_
           have HO_11:=n2_
           have HO_12:=n3_
           have Z9:=n4_
           have BK8:=n5_
           have HB:=n6_
           clear n0_ n1_ n2_ n3_ n4_ n5_ n6_
           (try clear hb)
           (try clear hb2)
           (try clear hk)
           (try clear hi)
           refine hK.out _ _ ⟨(blk_cell BK8.out 0).trans rfl,HS1_,HS2_,HS3_,HS4_,HS5_,HS6_,HS7_,HS8_,HS9_,HS10_⟩ (fun hHeld=>?_)
           clear hK K
           refine norm_ (a':=?_) ?_ ?_
           rotate_left
           ·show Act.put _ (some 110) _ = _
            simp only [Act.put,s1_,s2_,s3_,i64_w,i32_w]
            rfl
           refine pure_ (i:=27) (N:=some 111) (v:=?_) (a':=?_) #[true,true,true,true,true,true,true,true,true,true,true,true,true,true,true,true,true,true,true,true,true,true,true,true,true,true,true,true,true,true,true,true,true,true,true,false,false,false] rfl rfl (any_of HT_.out (by kernel_rfl)) (fun _ _ _ h=>h) (Or.inl ⟨by rfl,?_⟩) ?_ ?_
           rotate_left
           ·intro w'
            go_simp
            with_reducible rfl
           rotate_left
           ·simp only [Act.put,s1_,s2_,s3_,i64_w,i32_w]
            rfl
           refine one_ (i:=35) (N:=some 119) #[true,true,true,true,true,true,true,true,true,true,true,true,true,true,true,true,true,true,true,true,true,true,true,true,true,true,true,true,true,true,true,true,true,true,true,true,false,false] rfl rfl (one_of HT_.out (by kernel_rfl)) (by decide) (fun K hK=>?_)
           refine goes_ Try.func23 (by kernel_rfl) rfl #[.agg #[.slice Ao9 t1.length co9],.int .i64 ((rd_T43 t33 x13_2).f0),.int .i64 t7] (by rfl) rfl rfl lm_ ?_
           with_reducible refine (impl_IsA.calls k2 _ _ t1 ((rd_T43 t33 x13_2).f0) t7 t52 _ ?side1 ?side2 A70.out).mono ?_
           (case side1=>exact cc_ (Kd.R_reads' Z9.out).2.2)
           (case side2=>exact (Kd.R_reads' Z9.out).2.1)
           rintro e w80 ⟨rfl,hb⟩
           have HS1_:=(hb.cell (World.block_lt_of_cell? _ _ (hHeld.2.1))).trans (hHeld.2.1)
           have HS2_:=(hb.cell (World.block_lt_of_cell? _ _ (hHeld.2.2.1))).trans (hHeld.2.2.1)
           have HS3_:=(hb.cell (World.block_lt_of_cell? _ _ (hHeld.2.2.2.1))).trans (hHeld.2.2.2.1)
           have HS4_:=(hb.cell (World.block_lt_of_cell? _ _ (hHeld.2.2.2.2.1))).trans (hHeld.2.2.2.2.1)
           have HS5_:=(hb.cell (World.block_lt_of_cell? _ _ (hHeld.2.2.2.2.2.1))).trans (hHeld.2.2.2.2.2.1)
           have HS6_:=(hb.cell (World.block_lt_of_cell? _ _ (hHeld.2.2.2.2.2.2.1))).trans (hHeld.2.2.2.2.2.2.1)
           have HS7_:=(hb.cell (World.block_lt_of_cell? _ _ (hHeld.2.2.2.2.2.2.2.1))).trans (hHeld.2.2.2.2.2.2.2.1)
           have HS8_:=(hb.cell (World.block_lt_of_cell? _ _ (hHeld.2.2.2.2.2.2.2.2.1))).trans (hHeld.2.2.2.2.2.2.2.2.1)
           have HS9_:=(hb.cell (World.block_lt_of_cell? _ _ (hHeld.2.2.2.2.2.2.2.2.2.1))).trans (hHeld.2.2.2.2.2.2.2.2.2.1)
           have HS10_:=(hb.cell (World.block_lt_of_cell? _ _ (hHeld.2.2.2.2.2.2.2.2.2.2))).trans (hHeld.2.2.2.2.2.2.2.2.2.2)
           refine ⟨_,rfl,?_⟩
           have n0_:=rb_ HO_6 hb
           have n1_:=rb_ HO_10 hb
           have n2_:=rb_ HO_11 hb
           have n3_:=rb_ HO_12 hb
           have n4_:=rb_ Z9 hb
           have n5_:=kb_ BK8 hb
           have n6_:=a0_ (below_step hb_ hb)
           clear HO_6
           clear HO_10
           clear HO_11
           clear HO_12
           clear Z9
           clear BK8
           clear HB
           have HO_6:=n0_
           have HO_10:=n1_
           have HO_11:=n2_
           have HO_12:=n3_
           have Z9:=n4_
           have BK8:=n5_
           have HB:=n6_
           clear n0_ n1_ n2_ n3_ n4_ n5_ n6_
           (try clear hb)
           (try clear hb2)
           (try clear hk)
           (try clear hi)
           refine hK.out _ _ ⟨(blk_cell BK8.out 0).trans rfl,HS1_,HS2_,HS3_,HS4_,HS5_,HS6_,HS7_,HS8_,HS9_,HS10_⟩ (fun hHeld=>?_)
           clear hK K
           refine norm_ (a':=?_) ?_ ?_
           rotate_left
           ·show Act.put _ (some 119) _ = _
            simp only [Act.put,s1_,s2_,s3_,i64_w,i32_w]
            rfl
           refine pure_ (i:=36) (N:=some 120) (v:=?_) (a':=?_) #[true,true,true,true,true,true,true,true,true,true,true,true,true,true,true,true,true,true,true,true,true,true,true,true,true,true,true,true,true,true,true,true,true,true,true,true,true,false] rfl rfl (any_of HT_.out (by kernel_rfl)) (fun _ _ _ h=>h) (Or.inl ⟨by rfl,?_⟩) ?_ ?_
           rotate_left
           ·intro w'
            go_simp
            with_reducible rfl
           rotate_left
           ·simp only [Act.put,s1_,s2_,s3_,i64_w,i32_w]
            rfl
           refine pure_ (i:=37) (N:=some 121) (v:=?_) (a':=?_) #[true,true,true,true,true,true,true,true,true,true,true,true,true,true,true,true,true,true,true,true,true,true,true,true,true,true,true,true,true,true,true,true,true,true,true,true,true,true] rfl rfl (any_of HT_.out (by kernel_rfl)) (fun _ _ _ h=>h) (Or.inl ⟨by rfl,?_⟩) ?_ ?_
           rotate_left
           ·intro w'
            go_simp
            with_reducible rfl
           rotate_left
           ·simp only [Act.put,s1_,s2_,s3_,i64_w,i32_w]
            rfl
           refine done_ (done_of HT_.out (by kernel_rfl)) ?_
           try go_wp2
           go_ret
           exact ⟨by first | rfl | (simp [errW_none,errW_some] <;> rfl) | (simp [*,errW_none,errW_some] <;> rfl),hb_⟩
          ·rw [if_neg c71] at H
           have c71b0 : ((decide (t50 > 0)) != t52) = false:=by simpa using c71
           (try (have c71b1 : decide ((decide (t50 > 0)) = t52) = true:=by simpa using c71))
           (try (have c71b2 : ((decide (t50 > 0)) == t52) = true:=by simpa using c71))
           clear c71
           have H':=a0_ H
           clear H
           obtain ⟨Ao81,co81,eo81⟩:=Kd.R_slice HO_12.out
           subst eo81
           try go_wp2
           have n0_:=a0_ (Kd.R_drew HO_6.out)
           have n1_:=a0_ (Kd.R_drew HO_10.out)
           have n2_:=a0_ (Kd.R_drew HO_11.out)
           have n3_:=a0_ (Kd.R_drew HO_12.out)
           have n4_:=a0_ (Kd.R_drew Z9.out)
           have n5_:=a0_ (blk_drew BK8.out)
           have n6_:=a0_ (below_drew1 HB.out)
           clear HO_6
           clear HO_10
           clear HO_11
           clear HO_12
           clear Z9
           clear BK8
           clear HB
           have HO_6:=n0_
           have HO_10:=n1_
           have HO_11:=n2_
           have HO_12:=n3_
           have Z9:=n4_
           have BK8:=n5_
           have HB:=n6_
           clear n0_ n1_ n2_ n3_ n4_ n5_ n6_
           have p43 : 0 ≤ (x13_2 : Int):=of_decide_eq_true (by first | (with_reducible assumption) | assumption)
           have q43 : x13_2 < (t33.length : Int):=of_decide_eq_true (by first | (with_reducible assumption) | assumption)
           obtain ⟨ad43,e43,hx43_0,hx43_1⟩:=at_T43 (Kd.R_reads' HO_12.out).2.2 x13_2 p43 q43
           cases e43
           replace p43:=eq_true p43
           replace q43:=eq_true q43
           have p45 : 0 ≤ (x13_2 : Int):=of_decide_eq_true (by first | (with_reducible assumption) | assumption)
           have q45 : x13_2 < (t33.length : Int):=of_decide_eq_true (by first | (with_reducible assumption) | assumption)
           obtain ⟨ad45,e45,hx45_0,hx45_1⟩:=at_T43 (Kd.R_reads' HO_12.out).2.2 x13_2 p45 q45
           obtain rfl : ad43 = ad45:=(by injection e45)
           replace p45:=eq_true p45
           replace q45:=eq_true q45
           have p47 : 0 ≤ (x13_2 : Int):=of_decide_eq_true (by first | (with_reducible assumption) | assumption)
           have q47 : x13_2 < (t33.length : Int):=of_decide_eq_true (by first | (with_reducible assumption) | assumption)
           obtain ⟨ad47,e47,hx47_0,hx47_1⟩:=at_T43 (Kd.R_reads' HO_12.out).2.2 x13_2 p47 q47
           obtain rfl : ad43 = ad47:=(by injection e47)
           replace p47:=eq_true p47
           replace q47:=eq_true q47
           obtain ⟨Ao83,co83,eo83⟩:=Kd.R_slice HO_10.out
           (first | subst eo83 | (injection eo83 with f1_ f2_ f3_;have f4_:=f1_.symm;have f5_:=f3_.symm;clear f1_ f2_ f3_;subst f4_;subst f5_))
           have p49 : 0 ≤ (x13_2 : Int):=of_decide_eq_true (by first | (with_reducible assumption) | assumption)
           have q49 : x13_2 < (t33.length : Int):=of_decide_eq_true (by first | (with_reducible assumption) | assumption)
           obtain ⟨ad49,e49,hx49_0,hx49_1⟩:=at_T43 (Kd.R_reads' HO_12.out).2.2 x13_2 p49 q49
           obtain rfl : ad43 = ad49:=(by injection e49)
           replace p49:=eq_true p49
           replace q49:=eq_true q49
           have p51 : 0 ≤ (x13_2 : Int):=of_decide_eq_true (by first | (with_reducible assumption) | assumption)
           have q51 : x13_2 < (t33.length : Int):=of_decide_eq_true (by first | (with_reducible assumption) | assumption)
           obtain ⟨ad51,e51,hx51_0,hx51_1⟩:=at_T43 (Kd.R_reads' HO_12.out).2.2 x13_2 p51 q51
           obtain rfl : ad43 = ad51:=(by injection e51)
           replace p51:=eq_true p51
           replace q51:=eq_true q51
           refine start_ (n:=38) (S:=fun w'=>w'.cell? ⟨gb8,0,none⟩ = some (.slice Ao9 t1.length co9) ∧ w'.cell? (ad43.add ((x13_2).toNat * 2)) = some (.int .i64 ((rd_T43 t33 x13_2).f0)) ∧ w'.cell? ⟨(ad43.add ((x13_2).toNat * 2)).block,(ad43.add ((x13_2).toNat * 2)).off + 1,none⟩ = some (.int .i64 ((rd_T43 t33 x13_2).f1)) ∧ w'.cell? (ad43.add ((x13_2).toNat * 2)) = some (.int .i64 ((rd_T43 t33 x13_2).f0)) ∧ w'.cell? ⟨(ad43.add ((x13_2).toNat * 2)).block,(ad43.add ((x13_2).toNat * 2)).off + 1,none⟩ = some (.int .i64 ((rd_T43 t33 x13_2).f1)) ∧ w'.cell? (ad43.add ((x13_2).toNat * 2)) = some (.int .i64 ((rd_T43 t33 x13_2).f0)) ∧ w'.cell? ⟨(ad43.add ((x13_2).toNat * 2)).block,(ad43.add ((x13_2).toNat * 2)).off + 1,none⟩ = some (.int .i64 ((rd_T43 t33 x13_2).f1)) ∧ w'.cell? (ad43.add ((x13_2).toNat * 2)) = some (.int .i64 ((rd_T43 t33 x13_2).f0)) ∧ w'.cell? ⟨(ad43.add ((x13_2).toNat * 2)).block,(ad43.add ((x13_2).toNat * 2)).off + 1,none⟩ = some (.int .i64 ((rd_T43 t33 x13_2).f1)) ∧ w'.cell? (ad43.add ((x13_2).toNat * 2)) = some (.int .i64 ((rd_T43 t33 x13_2).f0)) ∧ w'.cell? ⟨(ad43.add ((x13_2).toNat * 2)).block,(ad43.add ((x13_2).toNat * 2)).off + 1,none⟩ = some (.int .i64 ((rd_T43 t33 x13_2).f1))) (ds:=[]) #[false,false,false,false,false,false,false,false,false,false,false,false,false,false,false,false,false,false,false,false,false,false,false,false,false,false,false,false,false,false,false,false,false,false,false,false,false,false] (by kernel_rfl) rfl rfl ⟨(blk_cell BK8.out 0).trans rfl,hx43_0,hx43_1,hx45_0,hx45_1,hx47_0,hx47_1,hx49_0,hx49_1,hx51_0,hx51_1⟩ (fun hHeld=>?_);refine with_tabW laws_FnSplitGroup.tab14 laws_FnSplitGroup.bits14 (fun HT_ HW_=>?_)
           generalize wr.drew = w82 at HO_6 HO_10 HO_11 HO_12 Z9 BK8 HB hx43_0 hx43_1 hx45_0 hx45_1 hx47_0 hx47_1 hx49_0 hx49_1 hx51_0 hx51_1 hHeld ⊢
           refine pure_ (i:=0) (N:=some 84) (v:=?_) (a':=?_) #[true,false,false,false,false,false,false,false,false,false,false,false,false,false,false,false,false,false,false,false,false,false,false,false,false,false,false,false,false,false,false,false,false,false,false,false,false,false] rfl rfl (any_of HT_.out (by kernel_rfl)) (fun _ _ _ h=>h) (Or.inl ⟨by rfl,?_⟩) ?_ ?_
           rotate_left
           ·intro w'
            go_simp
            with_reducible rfl
           rotate_left
           ·simp only [Act.put,s1_,s2_,s3_,i64_w,i32_w]
            rfl
           refine pure_ (i:=1) (N:=some 85) (v:=?_) (a':=?_) #[true,true,false,false,false,false,false,false,false,false,false,false,false,false,false,false,false,false,false,false,false,false,false,false,false,false,false,false,false,false,false,false,false,false,false,false,false,false] rfl rfl (any_of HT_.out (by kernel_rfl)) (fun _ _ _ h=>h) (Or.inl ⟨by rfl,?_⟩) ?_ ?_
           rotate_left
           ·intro w'
            go_simp
            with_reducible rfl
           rotate_left
           ·simp only [Act.put,s1_,s2_,s3_,i64_w,i32_w]
            rfl
           refine pure_ (i:=2) (N:=some 86) (v:=?_) (a':=?_) #[true,true,true,false,false,false,false,false,false,false,false,false,false,false,false,false,false,false,false,false,false,false,false,false,false,false,false,false,false,false,false,false,false,false,false,false,false,false] rfl rfl (any_of HT_.out (by kernel_rfl)) (fun _ _ _ h=>h) (Or.inl ⟨by rfl,?_⟩) ?_ ?_
           rotate_left
           ·intro w'
            go_simp
            with_reducible rfl
           rotate_left
           ·simp only [Act.put,s1_,s2_,s3_,i64_w,i32_w]
            rfl
           refine pure_ (i:=3) (N:=some 87) (v:=?_) (a':=?_) #[true,true,true,true,false,false,false,false,false,false,false,false,false,false,false,false,false,false,false,false,false,false,false,false,false,false,false,false,false,false,false,false,false,false,false,false,false,false] rfl rfl (any_of HT_.out (by kernel_rfl)) (fun _ _ _ h=>h) (Or.inl ⟨by rfl,?_⟩) ?_ ?_
           rotate_left
           ·intro w'
            go_simp
            with_reducible rfl
           rotate_left
           ·simp only [Act.put,s1_,s2_,s3_,i64_w,i32_w]
            rfl
           refine pure_ (i:=6) (N:=some 90) (v:=?_) (a':=?_) #[true,true,true,true,false,false,true,false,false,false,false,false,false,false,false,false,false,false,false,false,false,false,false,false,false,false,false,false,false,false,false,false,false,false,false,false,false,false] rfl rfl (any_of HT_.out (by kernel_rfl)) (fun _ _ _ h=>h) (Or.inl ⟨by rfl,?_⟩) ?_ ?_
           rotate_left
           ·intro w'
            go_simp
            with_reducible rfl
           rotate_left
           ·simp only [Act.put,s1_,s2_,s3_,i64_w,i32_w]
            rfl
           refine pure_ (i:=7) (N:=some 91) (v:=?_) (a':=?_) #[true,true,true,true,false,false,true,true,false,false,false,false,false,false,false,false,false,false,false,false,false,false,false,false,false,false,false,false,false,false,false,false,false,false,false,false,false,false] rfl rfl (any_of HT_.out (by kernel_rfl)) (fun _ _ _ h=>h) (Or.inl ⟨by rfl,?_⟩) ?_ ?_
           rotate_left
           ·intro w'
            go_simp
            with_reducible rfl
           rotate_left
           ·simp only [Act.put,s1_,s2_,s3_,i64_w,i32_w]
            rfl
           refine pure_ (i:=8) (N:=some 92) (v:=?_) (a':=?_) #[true,true,true,true,false,false,true,true,true,false,false,false,false,false,false,false,false,false,false,false,false,false,false,false,false,false,false,false,false,false,false,false,false,false,false,false,false,false] rfl rfl (any_of HT_.out (by kernel_rfl)) (fun _ _ _ h=>h) (Or.inl ⟨by rfl,?_⟩) ?_ ?_
           rotate_left
           ·intro w'
            go_simp
            with_reducible rfl
           rotate_left
           ·simp only [Act.put,s1_,s2_,s3_,i64_w,i32_w]
            rfl
           refine pure_ (i:=9) (N:=some 93) (v:=?_) (a':=?_) #[true,true,true,true,false,false,true,true,true,true,false,false,false,false,false,false,false,false,false,false,false,false,false,false,false,false,false,false,false,false,false,false,false,false,false,false,false,false] rfl rfl (any_of HT_.out (by kernel_rfl)) (fun _ _ _ h=>h) (Or.inl ⟨by rfl,?_⟩) ?_ ?_
           rotate_left
           ·intro w'
            go_simp
            with_reducible rfl
           rotate_left
           ·simp only [Act.put,s1_,s2_,s3_,i64_w,i32_w]
            rfl
           refine pure_ (i:=13) (N:=some 97) (v:=?_) (a':=?_) #[true,true,true,true,false,false,true,true,true,true,false,false,false,true,false,false,false,false,false,false,false,false,false,false,false,false,false,false,false,false,false,false,false,false,false,false,false,false] rfl rfl (any_of HT_.out (by kernel_rfl)) (fun _ _ _ h=>h) (Or.inl ⟨by rfl,?_⟩) ?_ ?_
           rotate_left
           ·intro w'
            go_simp
            with_reducible rfl
           rotate_left
           ·simp only [Act.put,s1_,s2_,s3_,i64_w,i32_w]
            rfl
           refine pure_ (i:=14) (N:=some 98) (v:=?_) (a':=?_) #[true,true,true,true,false,false,true,true,true,true,false,false,false,true,true,false,false,false,false,false,false,false,false,false,false,false,false,false,false,false,false,false,false,false,false,false,false,false] rfl rfl (any_of HT_.out (by kernel_rfl)) (fun _ _ _ h=>h) (Or.inl ⟨by rfl,?_⟩) ?_ ?_
           rotate_left
           ·intro w'
            go_simp
            with_reducible rfl
           rotate_left
           ·simp only [Act.put,s1_,s2_,s3_,i64_w,i32_w]
            rfl
           refine pure_ (i:=15) (N:=some 99) (v:=?_) (a':=?_) #[true,true,true,true,false,false,true,true,true,true,false,false,false,true,true,true,false,false,false,false,false,false,false,false,false,false,false,false,false,false,false,false,false,false,false,false,false,false] rfl rfl (any_of HT_.out (by kernel_rfl)) (fun _ _ _ h=>h) (Or.inl ⟨by rfl,?_⟩) ?_ ?_
           rotate_left
           ·intro w'
            go_simp
            with_reducible rfl
           rotate_left
           ·simp only [Act.put,s1_,s2_,s3_,i64_w,i32_w]
            rfl
           refine pure_ (i:=16) (N:=some 100) (v:=?_) (a':=?_) #[true,true,true,true,false,false,true,true,true,true,false,false,false,true,true,true,true,false,false,false,false,false,false,false,false,false,false,false,false,false,false,false,false,false,false,false,false,false] rfl rfl (any_of HT_.out (by kernel_rfl)) (fun _ _ _ h=>h) (Or.inl ⟨by rfl,?_⟩) ?_ ?_
           rotate_left
           ·intro w'
            go_simp
            with_reducible rfl
           rotate_left
           ·simp only [Act.put,s1_,s2_,s3_,i64_w,i32_w]
            rfl
           refine take_ (i:=4) (N:=some 88) (v:=?_) (a':=?_) #[true,true,true,true,true,false,true,true,true,true,false,false,false,true,true,true,true,false,false,false,false,false,false,false,false,false,false,false,false,false,false,false,false,false,false,false,false,false] rfl rfl (take_ofW HT_.out HW_.out (by kernel_rfl)) (fun _ _ _ h=>h) (Or.inl ⟨by rfl,?_⟩) hHeld ?_ ?_
           rotate_left
           ·rintro w' ⟨s0,s1,s2,s3,s4,s5,s6,s7,s8,s9,s10⟩
            go_simp
            with_reducible rfl
           rotate_left
           ·simp only [Act.put,s1_,s2_,s3_,i64_w,i32_w]
            rfl
           refine take_ (i:=10) (N:=some 94) (v:=?_) (a':=?_) #[true,true,true,true,true,false,true,true,true,true,true,false,false,true,true,true,true,false,false,false,false,false,false,false,false,false,false,false,false,false,false,false,false,false,false,false,false,false] rfl rfl (take_ofW HT_.out HW_.out (by kernel_rfl)) (fun _ _ _ h=>h) (Or.inl ⟨by rfl,?_⟩) hHeld ?_ ?_
           rotate_left
           ·rintro w' ⟨s0,s1,s2,s3,s4,s5,s6,s7,s8,s9,s10⟩
            go_simp
            with_reducible rfl
           rotate_left
           ·simp only [Act.put,s1_,s2_,s3_,i64_w,i32_w]
            rfl
           refine take_ (i:=17) (N:=some 101) (v:=?_) (a':=?_) #[true,true,true,true,true,false,true,true,true,true,true,false,false,true,true,true,true,true,false,false,false,false,false,false,false,false,false,false,false,false,false,false,false,false,false,false,false,false] rfl rfl (take_ofW HT_.out HW_.out (by kernel_rfl)) (fun _ _ _ h=>h) (Or.inl ⟨by rfl,?_⟩) hHeld ?_ ?_
           rotate_left
           ·rintro w' ⟨s0,s1,s2,s3,s4,s5,s6,s7,s8,s9,s10⟩
            go_simp
            with_reducible rfl
           rotate_left
           ·simp only [Act.put,s1_,s2_,s3_,i64_w,i32_w]
            rfl
           refine one_ (i:=5) (N:=some 89) #[true,true,true,true,true,true,true,true,true,true,true,false,false,true,true,true,true,true,false,false,false,false,false,false,false,false,false,false,false,false,false,false,false,false,false,false,false,false] rfl rfl (one_of HT_.out (by kernel_rfl)) (by decide) (fun K hK=>?_)
           refine goes_ Try.func27 (by kernel_rfl) rfl #[.slice Ao83 t27.length co83,.agg #[.int .i64 ((rd_T43 t33 x13_2).f0),.int .i64 ((rd_T43 t33 x13_2).f1)]] (by rfl) rfl rfl lm_ ?_
           with_reducible refine (laws_count.calls k2 _ _ t27 ((rd_T43 t33 x13_2).f0) ((rd_T43 t33 x13_2).f1) t44 _ ?side1 ?side2 A65.out).mono ?_
           (case side1=>exact cc_ (Kd.R_reads' HO_10.out).2.2)
           (case side2=>exact (Kd.R_reads' HO_10.out).2.1)
           rintro e w84 ⟨rfl,hb⟩
           have HS1_:=(hb.cell (World.block_lt_of_cell? _ _ (hHeld.2.1))).trans (hHeld.2.1)
           have HS2_:=(hb.cell (World.block_lt_of_cell? _ _ (hHeld.2.2.1))).trans (hHeld.2.2.1)
           have HS3_:=(hb.cell (World.block_lt_of_cell? _ _ (hHeld.2.2.2.1))).trans (hHeld.2.2.2.1)
           have HS4_:=(hb.cell (World.block_lt_of_cell? _ _ (hHeld.2.2.2.2.1))).trans (hHeld.2.2.2.2.1)
           have HS5_:=(hb.cell (World.block_lt_of_cell? _ _ (hHeld.2.2.2.2.2.1))).trans (hHeld.2.2.2.2.2.1)
           have HS6_:=(hb.cell (World.block_lt_of_cell? _ _ (hHeld.2.2.2.2.2.2.1))).trans (hHeld.2.2.2.2.2.2.1)
           have HS7_:=(hb.cell (World.block_lt_of_cell? _ _ (hHeld.2.2.2.2.2.2.2.1))).trans (hHeld.2.2.2.2.2.2.2.1)
           have HS8_:=(hb.cell (World.block_lt_of_cell? _ _ (hHeld.2.2.2.2.2.2.2.2.1))).trans (hHeld.2.2.2.2.2.2.2.2.1)
           have HS9_:=(hb.cell (World.block_lt_of_cell? _ _ (hHeld.2.2.2.2.2.2.2.2.2.1))).trans (hHeld.2.2.2.2.2.2.2.2.2.1)
           have HS10_:=(hb.cell (World.block_lt_of_cell? _ _ (hHeld.2.2.2.2.2.2.2.2.2.2))).trans (hHeld.2.2.2.2.2.2.2.2.2.2)
           refine ⟨_,rfl,?_⟩
           have n0_:=rb_ HO_6 hb
           have n1_:=rb_ HO_10 hb
           have n2_:=rb_ HO_11 hb
           have n3_:=rb_ HO_12 hb
           have n4_:=rb_ Z9 hb
           have n5_:=kb_ BK8 hb
           have n6_:=a0_ (below_step hb_ hb)
           clear HO_6
           clear HO_10
           clear HO_11
           clear HO_12
           clear Z9
           clear BK8
           clear HB
           have HO_6:=n0_
           have HO_10:=n1_
           have HO_11:=n2_
           have HO_12:=n3_
           have Z9:=n4_
           have BK8:=n5_
           have HB:=n6_
           clear n0_ n1_ n2_ n3_ n4_ n5_ n6_
           (try clear hb)
           (try clear hb2)
           (try clear hk)
           (try clear hi)
           obtain ⟨Ao85,co85,eo85⟩:=Kd.R_slice HO_11.out
           (first | subst eo85 | (injection eo85 with f1_ f2_ f3_;have f4_:=f1_.symm;have f5_:=f3_.symm;clear f1_ f2_ f3_;subst f4_;subst f5_))
           refine hK.out _ _ ⟨(blk_cell BK8.out 0).trans rfl,HS1_,HS2_,HS3_,HS4_,HS5_,HS6_,HS7_,HS8_,HS9_,HS10_⟩ (fun hHeld=>?_)
           clear hK K
           refine norm_ (a':=?_) ?_ ?_
           rotate_left
           ·show Act.put _ (some 89) _ = _
            simp only [Act.put,s1_,s2_,s3_,i64_w,i32_w]
            rfl
           refine one_ (i:=11) (N:=some 95) #[true,true,true,true,true,true,true,true,true,true,true,true,false,true,true,true,true,true,false,false,false,false,false,false,false,false,false,false,false,false,false,false,false,false,false,false,false,false] rfl rfl (one_of HT_.out (by kernel_rfl)) (by decide) (fun K hK=>?_)
           refine goes_ Try.func27 (by kernel_rfl) rfl #[.slice Ao85 t30.length co85,.agg #[.int .i64 ((rd_T43 t33 x13_2).f0),.int .i64 ((rd_T43 t33 x13_2).f1)]] (by rfl) rfl rfl lm_ ?_
           with_reducible refine (laws_count.calls k2 _ _ t30 ((rd_T43 t33 x13_2).f0) ((rd_T43 t33 x13_2).f1) t46 _ ?side1 ?side2 A66.out).mono ?_
           (case side1=>exact cc_ (Kd.R_reads' HO_11.out).2.2)
           (case side2=>exact (Kd.R_reads' HO_11.out).2.1)
           rintro e w86 ⟨rfl,hb⟩
           have HS1_:=(hb.cell (World.block_lt_of_cell? _ _ (hHeld.2.1))).trans (hHeld.2.1)
           have HS2_:=(hb.cell (World.block_lt_of_cell? _ _ (hHeld.2.2.1))).trans (hHeld.2.2.1)
           have HS3_:=(hb.cell (World.block_lt_of_cell? _ _ (hHeld.2.2.2.1))).trans (hHeld.2.2.2.1)
           have HS4_:=(hb.cell (World.block_lt_of_cell? _ _ (hHeld.2.2.2.2.1))).trans (hHeld.2.2.2.2.1)
           have HS5_:=(hb.cell (World.block_lt_of_cell? _ _ (hHeld.2.2.2.2.2.1))).trans (hHeld.2.2.2.2.2.1)
           have HS6_:=(hb.cell (World.block_lt_of_cell? _ _ (hHeld.2.2.2.2.2.2.1))).trans (hHeld.2.2.2.2.2.2.1)
           have HS7_:=(hb.cell (World.block_lt_of_cell? _ _ (hHeld.2.2.2.2.2.2.2.1))).trans (hHeld.2.2.2.2.2.2.2.1)
           have HS8_:=(hb.cell (World.block_lt_of_cell? _ _ (hHeld.2.2.2.2.2.2.2.2.1))).trans (hHeld.2.2.2.2.2.2.2.2.1)
           have HS9_:=(hb.cell (World.block_lt_of_cell? _ _ (hHeld.2.2.2.2.2.2.2.2.2.1))).trans (hHeld.2.2.2.2.2.2.2.2.2.1)
           have HS10_:=(hb.cell (World.block_lt_of_cell? _ _ (hHeld.2.2.2.2.2.2.2.2.2.2))).trans (hHeld.2.2.2.2.2.2.2.2.2.2)
           refine ⟨_,rfl,?_⟩
           have n0_:=rb_ HO_6 hb
           have n1_:=rb_ HO_10 hb
           have n2_:=rb_ HO_11 hb
           have n3_:=rb_ HO_12 hb
           have n4_:=rb_ Z9 hb
           have n5_:=kb_ BK8 hb
           have n6_:=a0_ (below_step hb_ hb)
           clear HO_6
           clear HO_10
           clear HO_11
           clear HO_12
           clear Z9
           clear BK8
           clear HB
           have HO_6:=n0_
           have HO_10:=n1_
           have HO_11:=n2_
           have HO_12:=n3_
           have Z9:=n4_
           have BK8:=n5_
           have HB:=n6_
           clear n0_ n1_ n2_ n3_ n4_ n5_ n6_
           (try clear hb)
           (try clear hb2)
           (try clear hk)
           (try clear hi)
           refine hK.out _ _ ⟨(blk_cell BK8.out 0).trans rfl,HS1_,HS2_,HS3_,HS4_,HS5_,HS6_,HS7_,HS8_,HS9_,HS10_⟩ (fun hHeld=>?_)
           clear hK K
           refine norm_ (a':=?_) ?_ ?_
           rotate_left
           ·show Act.put _ (some 95) _ = _
            simp only [Act.put,s1_,s2_,s3_,i64_w,i32_w]
            rfl
           refine pure_ (i:=12) (N:=some 96) (v:=?_) (a':=?_) #[true,true,true,true,true,true,true,true,true,true,true,true,true,true,true,true,true,true,false,false,false,false,false,false,false,false,false,false,false,false,false,false,false,false,false,false,false,false] rfl rfl (any_of HT_.out (by kernel_rfl)) (fun _ _ _ h=>h) (Or.inl ⟨by rfl,?_⟩) ?_ ?_
           rotate_left
           ·intro w'
            go_simp
            with_reducible rfl
           rotate_left
           ·simp only [Act.put,s1_,s2_,s3_,i64_w,i32_w]
            rfl
           refine one_ (i:=18) (N:=some 102) #[true,true,true,true,true,true,true,true,true,true,true,true,true,true,true,true,true,true,true,false,false,false,false,false,false,false,false,false,false,false,false,false,false,false,false,false,false,false] rfl rfl (one_of HT_.out (by kernel_rfl)) (by decide) (fun K hK=>?_)
           refine goes_ Try.func27 (by kernel_rfl) rfl #[.slice (some ad43) t33.length co81,.agg #[.int .i64 ((rd_T43 t33 x13_2).f0),.int .i64 ((rd_T43 t33 x13_2).f1)]] (by rfl) rfl rfl lm_ ?_
           with_reducible refine (laws_count.calls k2 _ _ t33 ((rd_T43 t33 x13_2).f0) ((rd_T43 t33 x13_2).f1) t48 _ ?side1 ?side2 A67.out).mono ?_
           (case side1=>exact cc_ (Kd.R_reads' HO_12.out).2.2)
           (case side2=>exact (Kd.R_reads' HO_12.out).2.1)
           rintro e w87 ⟨rfl,hb⟩
           have HS1_:=(hb.cell (World.block_lt_of_cell? _ _ (hHeld.2.1))).trans (hHeld.2.1)
           have HS2_:=(hb.cell (World.block_lt_of_cell? _ _ (hHeld.2.2.1))).trans (hHeld.2.2.1)
           have HS3_:=(hb.cell (World.block_lt_of_cell? _ _ (hHeld.2.2.2.1))).trans (hHeld.2.2.2.1)
           have HS4_:=(hb.cell (World.block_lt_of_cell? _ _ (hHeld.2.2.2.2.1))).trans (hHeld.2.2.2.2.1)
           have HS5_:=(hb.cell (World.block_lt_of_cell? _ _ (hHeld.2.2.2.2.2.1))).trans (hHeld.2.2.2.2.2.1)
           have HS6_:=(hb.cell (World.block_lt_of_cell? _ _ (hHeld.2.2.2.2.2.2.1))).trans (hHeld.2.2.2.2.2.2.1)
           have HS7_:=(hb.cell (World.block_lt_of_cell? _ _ (hHeld.2.2.2.2.2.2.2.1))).trans (hHeld.2.2.2.2.2.2.2.1)
           have HS8_:=(hb.cell (World.block_lt_of_cell? _ _ (hHeld.2.2.2.2.2.2.2.2.1))).trans (hHeld.2.2.2.2.2.2.2.2.1)
           have HS9_:=(hb.cell (World.block_lt_of_cell? _ _ (hHeld.2.2.2.2.2.2.2.2.2.1))).trans (hHeld.2.2.2.2.2.2.2.2.2.1)
           have HS10_:=(hb.cell (World.block_lt_of_cell? _ _ (hHeld.2.2.2.2.2.2.2.2.2.2))).trans (hHeld.2.2.2.2.2.2.2.2.2.2)
           refine ⟨_,rfl,?_⟩
           have n0_:=rb_ HO_6 hb
           have n1_:=rb_ HO_10 hb
           have n2_:=rb_ HO_11 hb
           have n3_:=rb_ HO_12 hb
           have n4_:=rb_ Z9 hb
           have n5_:=kb_ BK8 hb
           have n6_:=a0_ (below_step hb_ hb)
           clear HO_6
           clear HO_10
           clear HO_11
           clear HO_12
           clear Z9
           clear BK8
           clear HB
           have HO_6:=n0_
           have HO_10:=n1_
           have HO_11:=n2_
           have HO_12:=n3_
           have Z9:=n4_
           have BK8:=n5_
           have HB:=n6_
           clear n0_ n1_ n2_ n3_ n4_ n5_ n6_
           (try clear hb)
           (try clear hb2)
           (try clear hk)
           (try clear hi)
           refine hK.out _ _ ⟨(blk_cell BK8.out 0).trans rfl,HS1_,HS2_,HS3_,HS4_,HS5_,HS6_,HS7_,HS8_,HS9_,HS10_⟩ (fun hHeld=>?_)
           clear hK K
           refine norm_ (a':=?_) ?_ ?_
           rotate_left
           ·show Act.put _ (some 102) _ = _
            simp only [Act.put,s1_,s2_,s3_,i64_w,i32_w]
            rfl
           refine pure_ (i:=19) (N:=some 103) (v:=?_) (a':=?_) #[true,true,true,true,true,true,true,true,true,true,true,true,true,true,true,true,true,true,true,true,false,false,false,false,false,false,false,false,false,false,false,false,false,false,false,false,false,false] rfl rfl (any_of HT_.out (by kernel_rfl)) (fun _ _ _ h=>h) (Or.inl ⟨by rfl,?_⟩) ?_ ?_
           rotate_left
           ·intro w'
            go_simp
            with_reducible rfl
           rotate_left
           ·simp only [Act.put,s1_,s2_,s3_,i64_w,i32_w]
            rfl
           refine pure_ (i:=20) (N:=some 104) (v:=?_) (a':=?_) #[true,true,true,true,true,true,true,true,true,true,true,true,true,true,true,true,true,true,true,true,true,false,false,false,false,false,false,false,false,false,false,false,false,false,false,false,false,false] rfl rfl (any_of HT_.out (by kernel_rfl)) (fun _ _ _ h=>h) (Or.inl ⟨by rfl,?_⟩) ?_ ?_
           rotate_left
           ·intro w'
            go_simp
            with_reducible rfl
           rotate_left
           ·simp only [Act.put,s1_,s2_,s3_,i64_w,i32_w]
            rfl
           refine pure_ (i:=21) (N:=some 105) (v:=?_) (a':=?_) #[true,true,true,true,true,true,true,true,true,true,true,true,true,true,true,true,true,true,true,true,true,true,false,false,false,false,false,false,false,false,false,false,false,false,false,false,false,false] rfl rfl (any_of HT_.out (by kernel_rfl)) (fun _ _ _ h=>h) (Or.inl ⟨by rfl,?_⟩) ?_ ?_
           rotate_left
           ·intro w'
            go_simp
            with_reducible rfl
           rotate_left
           ·simp only [Act.put,s1_,s2_,s3_,i64_w,i32_w]
            rfl
           refine pure_ (i:=22) (N:=some 106) (v:=?_) (a':=?_) #[true,true,true,true,true,true,true,true,true,true,true,true,true,true,true,true,true,true,true,true,true,true,true,false,false,false,false,false,false,false,false,false,false,false,false,false,false,false] rfl rfl (any_of HT_.out (by kernel_rfl)) (fun _ _ _ h=>h) (Or.inl ⟨by rfl,?_⟩) ?_ ?_
           rotate_left
           ·intro w'
            go_simp
            with_reducible rfl
           rotate_left
           ·simp only [Act.put,s1_,s2_,s3_,i64_w,i32_w]
            rfl
           refine pure_ (i:=23) (N:=some 107) (v:=?_) (a':=?_) #[true,true,true,true,true,true,true,true,true,true,true,true,true,true,true,true,true,true,true,true,true,true,true,true,false,false,false,false,false,false,false,false,false,false,false,false,false,false] rfl rfl (any_of HT_.out (by kernel_rfl)) (fun _ _ _ h=>h) (Or.inl ⟨by rfl,?_⟩) ?_ ?_
           rotate_left
           ·intro w'
            go_simp
            with_reducible rfl
           rotate_left
           ·simp only [Act.put,s1_,s2_,s3_,i64_w,i32_w]
            rfl
           refine pure_ (i:=24) (N:=some 108) (v:=?_) (a':=?_) #[true,true,true,true,true,true,true,true,true,true,true,true,true,true,true,true,true,true,true,true,true,true,true,true,true,false,false,false,false,false,false,false,false,false,false,false,false,false] rfl rfl (any_of HT_.out (by kernel_rfl)) (fun _ _ _ h=>h) (Or.inl ⟨by rfl,?_⟩) ?_ ?_
           rotate_left
           ·intro w'
            go_simp
            with_reducible rfl
           rotate_left
           ·simp only [Act.put,s1_,s2_,s3_,i64_w,i32_w]
            rfl
           refine pure_ (i:=29) (N:=some 113) (v:=?_) (a':=?_) #[true,true,true,true,true,true,true,true,true,true,true,true,true,true,true,true,true,true,true,true,true,true,true,true,true,false,false,false,false,true,false,false,false,false,false,false,false,false] rfl rfl (any_of HT_.out (by kernel_rfl)) (fun _ _ _ h=>h) (Or.inl ⟨by rfl,?_⟩) ?_ ?_
           rotate_left
           ·intro w'
            go_simp
            with_reducible rfl
           rotate_left
           ·simp only [Act.put,s1_,s2_,s3_,i64_w,i32_w]
            rfl
           refine pure_ (i:=30) (N:=some 114) (v:=?_) (a':=?_) #[true,true,true,true,true,true,true,true,true,true,true,true,true,true,true,true,true,true,true,true,true,true,true,true,true,false,false,false,false,true,true,false,false,false,false,false,false,false] rfl rfl (any_of HT_.out (by kernel_rfl)) (fun _ _ _ h=>h) (Or.inl ⟨by rfl,?_⟩) ?_ ?_
           rotate_left
           ·intro w'
            go_simp
            with_reducible rfl
           rotate_left
           ·simp only [Act.put,s1_,s2_,s3_,i64_w,i32_w]
            rfl
           refine pure_ (i:=31) (N:=some 115) (v:=?_) (a':=?_) #[true,true,true,true,true,true,true,true,true,true,true,true,true,true,true,true,true,true,true,true,true,true,true,true,true,false,false,false,false,true,true,true,false,false,false,false,false,false] rfl rfl (any_of HT_.out (by kernel_rfl)) (fun _ _ _ h=>h) (Or.inl ⟨by rfl,?_⟩) ?_ ?_
           rotate_left
           ·intro w'
            go_simp
            with_reducible rfl
           rotate_left
           ·simp only [Act.put,s1_,s2_,s3_,i64_w,i32_w]
            rfl
           refine pure_ (i:=32) (N:=some 116) (v:=?_) (a':=?_) #[true,true,true,true,true,true,true,true,true,true,true,true,true,true,true,true,true,true,true,true,true,true,true,true,true,false,false,false,false,true,true,true,true,false,false,false,false,false] rfl rfl (any_of HT_.out (by kernel_rfl)) (fun _ _ _ h=>h) (Or.inl ⟨by rfl,?_⟩) ?_ ?_
           rotate_left
           ·intro w'
            go_simp
            with_reducible rfl
           rotate_left
           ·simp only [Act.put,s1_,s2_,s3_,i64_w,i32_w]
            rfl
           refine pure_ (i:=34) (N:=some 118) (v:=?_) (a':=?_) #[true,true,true,true,true,true,true,true,true,true,true,true,true,true,true,true,true,true,true,true,true,true,true,true,true,false,false,false,false,true,true,true,true,false,true,false,false,false] rfl rfl (any_of HT_.out (by kernel_rfl)) (fun _ _ _ h=>h) (Or.inl ⟨by rfl,?_⟩) ?_ ?_
           rotate_left
           ·intro w'
            go_simp
            with_reducible rfl
           rotate_left
           ·simp only [Act.put,s1_,s2_,s3_,i64_w,i32_w]
            rfl
           refine take_ (i:=25) (N:=some 109) (v:=?_) (a':=?_) #[true,true,true,true,true,true,true,true,true,true,true,true,true,true,true,true,true,true,true,true,true,true,true,true,true,true,false,false,false,true,true,true,true,false,true,false,false,false] rfl rfl (take_ofW HT_.out HW_.out (by kernel_rfl)) (fun _ _ _ h=>h) (Or.inl ⟨by rfl,?_⟩) hHeld ?_ ?_
           rotate_left
           ·rintro w' ⟨s0,s1,s2,s3,s4,s5,s6,s7,s8,s9,s10⟩
            go_simp
            with_reducible rfl
           rotate_left
           ·simp only [Act.put,s1_,s2_,s3_,i64_w,i32_w]
            rfl
           refine take_ (i:=28) (N:=some 112) (v:=?_) (a':=?_) #[true,true,true,true,true,true,true,true,true,true,true,true,true,true,true,true,true,true,true,true,true,true,true,true,true,true,false,false,true,true,true,true,true,false,true,false,false,false] rfl rfl (take_ofW HT_.out HW_.out (by kernel_rfl)) (fun _ _ _ h=>h) (Or.inl ⟨by rfl,?_⟩) hHeld ?_ ?_
           rotate_left
           ·rintro w' ⟨s0,s1,s2,s3,s4,s5,s6,s7,s8,s9,s10⟩
            go_simp
            with_reducible rfl
           rotate_left
           ·simp only [Act.put,s1_,s2_,s3_,i64_w,i32_w]
            rfl
           refine take_ (i:=33) (N:=some 117) (v:=?_) (a':=?_) #[true,true,true,true,true,true,true,true,true,true,true,true,true,true,true,true,true,true,true,true,true,true,true,true,true,true,false,false,true,true,true,true,true,true,true,false,false,false] rfl rfl (take_ofW HT_.out HW_.out (by kernel_rfl)) (fun _ _ _ h=>h) (Or.inl ⟨by rfl,?_⟩) hHeld ?_ ?_
           rotate_left
           ·rintro w' ⟨s0,s1,s2,s3,s4,s5,s6,s7,s8,s9,s10⟩
            go_simp
            with_reducible rfl
           rotate_left
           ·simp only [Act.put,s1_,s2_,s3_,i64_w,i32_w]
            rfl
           refine one_ (i:=26) (N:=some 110) #[true,true,true,true,true,true,true,true,true,true,true,true,true,true,true,true,true,true,true,true,true,true,true,true,true,true,true,false,true,true,true,true,true,true,true,false,false,false] rfl rfl (one_of HT_.out (by kernel_rfl)) (by decide) (fun K hK=>?_)
           refine goes_ Try.func27 (by kernel_rfl) rfl #[.slice Ao83 t27.length co83,.agg #[.int .i64 ((rd_T43 t33 x13_2).f0),.int .i64 ((rd_T43 t33 x13_2).f1)]] (by rfl) rfl rfl lm_ ?_
           with_reducible refine (laws_count.calls k2 _ _ t27 ((rd_T43 t33 x13_2).f0) ((rd_T43 t33 x13_2).f1) t50 _ ?side1 ?side2 A69.out).mono ?_
           (case side1=>exact cc_ (Kd.R_reads' HO_10.out).2.2)
           (case side2=>exact (Kd.R_reads' HO_10.out).2.1)
           rintro e w88 ⟨rfl,hb⟩
           have HS1_:=(hb.cell (World.block_lt_of_cell? _ _ (hHeld.2.1))).trans (hHeld.2.1)
           have HS2_:=(hb.cell (World.block_lt_of_cell? _ _ (hHeld.2.2.1))).trans (hHeld.2.2.1)
           have HS3_:=(hb.cell (World.block_lt_of_cell? _ _ (hHeld.2.2.2.1))).trans (hHeld.2.2.2.1)
           have HS4_:=(hb.cell (World.block_lt_of_cell? _ _ (hHeld.2.2.2.2.1))).trans (hHeld.2.2.2.2.1)
           have HS5_:=(hb.cell (World.block_lt_of_cell? _ _ (hHeld.2.2.2.2.2.1))).trans (hHeld.2.2.2.2.2.1)
           have HS6_:=(hb.cell (World.block_lt_of_cell? _ _ (hHeld.2.2.2.2.2.2.1))).trans (hHeld.2.2.2.2.2.2.1)
           have HS7_:=(hb.cell (World.block_lt_of_cell? _ _ (hHeld.2.2.2.2.2.2.2.1))).trans (hHeld.2.2.2.2.2.2.2.1)
           have HS8_:=(hb.cell (World.block_lt_of_cell? _ _ (hHeld.2.2.2.2.2.2.2.2.1))).trans (hHeld.2.2.2.2.2.2.2.2.1)
           have HS9_:=(hb.cell (World.block_lt_of_cell? _ _ (hHeld.2.2.2.2.2.2.2.2.2.1))).trans (hHeld.2.2.2.2.2.2.2.2.2.1)
           have HS10_:=(hb.cell (World.block_lt_of_cell? _ _ (hHeld.2.2.2.2.2.2.2.2.2.2))).trans (hHeld.2.2.2.2.2.2.2.2.2.2)
           refine ⟨_,rfl,?_⟩
           have n0_:=rb_ HO_6 hb
           have n1_:=rb_ HO_10 hb
           have n2_:=rb_ HO_11 hb
           have n3_:=rb_ HO_12 hb
           have n4_:=rb_ Z9 hb
           have n5_:=kb_ BK8 hb
           have n6_:=a0_ (below_step hb_ hb)
           clear HO_6
           clear HO_10
           clear HO_11
           clear HO_12
           clear Z9
           clear BK8
           clear HB
           have HO_6:=n0_
           have HO_10:=n1_
           have HO_11:=n2_
           have HO_12:=n3_
           have Z9:=n4_
           have BK8:=n5_
           have HB:=n6_
           clear n0_ n1_ n2_ n3_ n4_ n5_ n6_
           (try clear hb)
           (try clear hb2)
           (try clear hk)
           (try clear hi)
           refine hK.out _ _ ⟨(blk_cell BK8.out 0).trans rfl,HS1_,HS2_,HS3_,HS4_,HS5_,HS6_,HS7_,HS8_,HS9_,HS10_⟩ (fun hHeld=>?_)
           clear hK K
           refine norm_ (a':=?_) ?_ ?_
           rotate_left
           ·show Act.put _ (some 110) _ = _
            simp only [Act.put,s1_,s2_,s3_,i64_w,i32_w]
            rfl
           refine pure_ (i:=27) (N:=some 111) (v:=?_) (a':=?_) #[true,true,true,true,true,true,true,true,true,true,true,true,true,true,true,true,true,true,true,true,true,true,true,true,true,true,true,true,true,true,true,true,true,true,true,false,false,false] rfl rfl (any_of HT_.out (by kernel_rfl)) (fun _ _ _ h=>h) (Or.inl ⟨by rfl,?_⟩) ?_ ?_
           rotate_left
           ·intro w'
            go_simp
            with_reducible rfl
           rotate_left
           ·simp only [Act.put,s1_,s2_,s3_,i64_w,i32_w]
            rfl
           refine one_ (i:=35) (N:=some 119) #[true,true,true,true,true,true,true,true,true,true,true,true,true,true,true,true,true,true,true,true,true,true,true,true,true,true,true,true,true,true,true,true,true,true,true,true,false,false] rfl rfl (one_of HT_.out (by kernel_rfl)) (by decide) (fun K hK=>?_)
           refine goes_ Try.func23 (by kernel_rfl) rfl #[.agg #[.slice Ao9 t1.length co9],.int .i64 ((rd_T43 t33 x13_2).f0),.int .i64 t7] (by rfl) rfl rfl lm_ ?_
           with_reducible refine (impl_IsA.calls k2 _ _ t1 ((rd_T43 t33 x13_2).f0) t7 t52 _ ?side1 ?side2 A70.out).mono ?_
           (case side1=>exact cc_ (Kd.R_reads' Z9.out).2.2)
           (case side2=>exact (Kd.R_reads' Z9.out).2.1)
           rintro e w89 ⟨rfl,hb⟩
           have HS1_:=(hb.cell (World.block_lt_of_cell? _ _ (hHeld.2.1))).trans (hHeld.2.1)
           have HS2_:=(hb.cell (World.block_lt_of_cell? _ _ (hHeld.2.2.1))).trans (hHeld.2.2.1)
           have HS3_:=(hb.cell (World.block_lt_of_cell? _ _ (hHeld.2.2.2.1))).trans (hHeld.2.2.2.1)
           have HS4_:=(hb.cell (World.block_lt_of_cell? _ _ (hHeld.2.2.2.2.1))).trans (hHeld.2.2.2.2.1)
           have HS5_:=(hb.cell (World.block_lt_of_cell? _ _ (hHeld.2.2.2.2.2.1))).trans (hHeld.2.2.2.2.2.1)
           have HS6_:=(hb.cell (World.block_lt_of_cell? _ _ (hHeld.2.2.2.2.2.2.1))).trans (hHeld.2.2.2.2.2.2.1)
           have HS7_:=(hb.cell (World.block_lt_of_cell? _ _ (hHeld.2.2.2.2.2.2.2.1))).trans (hHeld.2.2.2.2.2.2.2.1)
           have HS8_:=(hb.cell (World.block_lt_of_cell? _ _ (hHeld.2.2.2.2.2.2.2.2.1))).trans (hHeld.2.2.2.2.2.2.2.2.1)
           have HS9_:=(hb.cell (World.block_lt_of_cell? _ _ (hHeld.2.2.2.2.2.2.2.2.2.1))).trans (hHeld.2.2.2.2.2.2.2.2.2.1)
           have HS10_:=(hb.cell (World.block_lt_of_cell? _ _ (hHeld.2.2.2.2.2.2.2.2.2.2))).trans (hHeld.2.2.2.2.2.2.2.2.2.2)
           refine ⟨_,rfl,?_⟩
           have n0_:=rb_ HO_6 hb
           have n1_:=rb_ HO_10 hb
           have n2_:=rb_ HO_11 hb
           have n3_:=rb_ HO_12 hb
           have n4_:=rb_ Z9 hb
           have n5_:=kb_ BK8 hb
           have n6_:=a0_ (below_step hb_ hb)
           clear HO_6
           clear HO_10
           clear HO_11
           clear HO_12
           clear Z9
           clear BK8
           clear HB
           have HO_6:=n0_
           have HO_10:=n1_
           have HO_11:=n2_
           have HO_12:=n3_
           have Z9:=n4_
           have BK8:=n5_
           have HB:=n6_
           clear n0_ n1_ n2_ n3_ n4_ n5_ n6_
           (try clear hb)
           (try clear hb2)
           (try clear hk)
           (try clear hi)
           refine hK.out _ _ ⟨(blk_cell BK8.out 0).trans rfl,HS1_,HS2_,HS3_,HS4_,HS5_,HS6_,HS7_,HS8_,HS9_,HS10_⟩ (fun hHeld=>?_)
           clear hK K
           refine norm_ (a':=?_) ?_ ?_
           rotate_left
           ·show Act.put _ (some 119) _ = _
            simp only [Act.put,s1_,s2_,s3_,i64_w,i32_w]
            rfl
           refine pure_ (i:=36) (N:=some 120) (v:=?_) (a':=?_) #[true,true,true,true,true,true,true,true,true,true,true,true,true,true,true,true,true,true,true,true,true,true,true,true,true,true,true,true,true,true,true,true,true,true,true,true,true,false] rfl rfl (any_of HT_.out (by kernel_rfl)) (fun _ _ _ h=>h) (Or.inl ⟨by rfl,?_⟩) ?_ ?_
           rotate_left
           ·intro w'
            go_simp
            with_reducible rfl
           rotate_left
           ·simp only [Act.put,s1_,s2_,s3_,i64_w,i32_w]
            rfl
           refine pure_ (i:=37) (N:=some 121) (v:=?_) (a':=?_) #[true,true,true,true,true,true,true,true,true,true,true,true,true,true,true,true,true,true,true,true,true,true,true,true,true,true,true,true,true,true,true,true,true,true,true,true,true,true] rfl rfl (any_of HT_.out (by kernel_rfl)) (fun _ _ _ h=>h) (Or.inl ⟨by rfl,?_⟩) ?_ ?_
           rotate_left
           ·intro w'
            go_simp
            with_reducible rfl
           rotate_left
           ·simp only [Act.put,s1_,s2_,s3_,i64_w,i32_w]
            rfl
           refine done_ (done_of HT_.out (by kernel_rfl)) ?_
           try go_wp2
           go_roundg k2
           case measure=>have:=HJ5.out;have:=HK2.out;omega
           case rel=>exact ⟨(wrap64 (x13_2 + 1)),(by first | rfl | (simp;done) | (simp [*];done)),H',⟨by have:=HJ5.out;have:=HK2.out;omega⟩,⟨by (with_reducible repeat (first | apply Kd.R_alloc | apply Kd.R_drewN | apply Kd.R_drew));exact HO_6.out⟩,⟨by (with_reducible repeat (first | apply Kd.R_alloc | apply Kd.R_drewN | apply Kd.R_drew));exact HO_10.out⟩,⟨by (with_reducible repeat (first | apply Kd.R_alloc | apply Kd.R_drewN | apply Kd.R_drew));exact HO_11.out⟩,⟨by (with_reducible repeat (first | apply Kd.R_alloc | apply Kd.R_drewN | apply Kd.R_drew));exact HO_12.out⟩,⟨by (with_reducible repeat (first | apply Kd.R_alloc | apply Kd.R_drewN | apply Kd.R_drew));exact Z9.out⟩,⟨by (with_reducible repeat (first | refine blk_drewN ?_ _ | refine blk_drew ?_ | refine blk_alloc ?_ _));exact BK8.out⟩,⟨hb_⟩⟩
         ·rw [if_neg c68] at H
          have c68b0 : ((wrap64 (t44 + t46)) == t48) = false:=beq_eq_false_iff_ne.mpr c68
          have c68b1 : ((wrap64 (t44 + t46)) != t48) = true:=bne_iff_ne.mpr c68
          obtain rfl:=Option.some.inj H
          obtain ⟨Ao90,co90,eo90⟩:=Kd.R_slice HO_12.out
          subst eo90
          try go_wp2
          have n0_:=a0_ (Kd.R_drew HO_6.out)
          have n1_:=a0_ (Kd.R_drew HO_10.out)
          have n2_:=a0_ (Kd.R_drew HO_11.out)
          have n3_:=a0_ (Kd.R_drew HO_12.out)
          have n4_:=a0_ (Kd.R_drew Z9.out)
          have n5_:=a0_ (blk_drew BK8.out)
          have n6_:=a0_ (below_drew1 HB.out)
          clear HO_6
          clear HO_10
          clear HO_11
          clear HO_12
          clear Z9
          clear BK8
          clear HB
          have HO_6:=n0_
          have HO_10:=n1_
          have HO_11:=n2_
          have HO_12:=n3_
          have Z9:=n4_
          have BK8:=n5_
          have HB:=n6_
          clear n0_ n1_ n2_ n3_ n4_ n5_ n6_
          have p43 : 0 ≤ (x13_2 : Int):=of_decide_eq_true (by first | (with_reducible assumption) | assumption)
          have q43 : x13_2 < (t33.length : Int):=of_decide_eq_true (by first | (with_reducible assumption) | assumption)
          obtain ⟨ad43,e43,hx43_0,hx43_1⟩:=at_T43 (Kd.R_reads' HO_12.out).2.2 x13_2 p43 q43
          cases e43
          replace p43:=eq_true p43
          replace q43:=eq_true q43
          have p45 : 0 ≤ (x13_2 : Int):=of_decide_eq_true (by first | (with_reducible assumption) | assumption)
          have q45 : x13_2 < (t33.length : Int):=of_decide_eq_true (by first | (with_reducible assumption) | assumption)
          obtain ⟨ad45,e45,hx45_0,hx45_1⟩:=at_T43 (Kd.R_reads' HO_12.out).2.2 x13_2 p45 q45
          obtain rfl : ad43 = ad45:=(by injection e45)
          replace p45:=eq_true p45
          replace q45:=eq_true q45
          have p47 : 0 ≤ (x13_2 : Int):=of_decide_eq_true (by first | (with_reducible assumption) | assumption)
          have q47 : x13_2 < (t33.length : Int):=of_decide_eq_true (by first | (with_reducible assumption) | assumption)
          obtain ⟨ad47,e47,hx47_0,hx47_1⟩:=at_T43 (Kd.R_reads' HO_12.out).2.2 x13_2 p47 q47
          obtain rfl : ad43 = ad47:=(by injection e47)
          replace p47:=eq_true p47
          replace q47:=eq_true q47
          obtain ⟨Ao92,co92,eo92⟩:=Kd.R_slice HO_10.out
          (first | subst eo92 | (injection eo92 with f1_ f2_ f3_;have f4_:=f1_.symm;have f5_:=f3_.symm;clear f1_ f2_ f3_;subst f4_;subst f5_))
          refine start_ (n:=38) (S:=fun w'=>w'.cell? (ad43.add ((x13_2).toNat * 2)) = some (.int .i64 ((rd_T43 t33 x13_2).f0)) ∧ w'.cell? ⟨(ad43.add ((x13_2).toNat * 2)).block,(ad43.add ((x13_2).toNat * 2)).off + 1,none⟩ = some (.int .i64 ((rd_T43 t33 x13_2).f1)) ∧ w'.cell? (ad43.add ((x13_2).toNat * 2)) = some (.int .i64 ((rd_T43 t33 x13_2).f0)) ∧ w'.cell? ⟨(ad43.add ((x13_2).toNat * 2)).block,(ad43.add ((x13_2).toNat * 2)).off + 1,none⟩ = some (.int .i64 ((rd_T43 t33 x13_2).f1)) ∧ w'.cell? (ad43.add ((x13_2).toNat * 2)) = some (.int .i64 ((rd_T43 t33 x13_2).f0)) ∧ w'.cell? ⟨(ad43.add ((x13_2).toNat * 2)).block,(ad43.add ((x13_2).toNat * 2)).off + 1,none⟩ = some (.int .i64 ((rd_T43 t33 x13_2).f1))) (ds:=[]) #[false,false,false,false,false,false,false,false,false,false,false,false,false,false,false,false,false,false,false,false,false,false,false,false,false,false,false,false,false,false,false,false,false,false,false,false,false,false] (by kernel_rfl) rfl rfl ⟨hx43_0,hx43_1,hx45_0,hx45_1,hx47_0,hx47_1⟩ (fun hHeld=>?_);refine with_tabW laws_FnSplitGroup.tab14 laws_FnSplitGroup.bits14 (fun HT_ HW_=>?_)
          generalize wr.drew = w91 at HO_6 HO_10 HO_11 HO_12 Z9 BK8 HB hx43_0 hx43_1 hx45_0 hx45_1 hx47_0 hx47_1 hHeld ⊢
          refine pure_ (i:=0) (N:=some 84) (v:=?_) (a':=?_) #[true,false,false,false,false,false,false,false,false,false,false,false,false,false,false,false,false,false,false,false,false,false,false,false,false,false,false,false,false,false,false,false,false,false,false,false,false,false] rfl rfl (any_of HT_.out (by kernel_rfl)) (fun _ _ _ h=>h) (Or.inl ⟨by rfl,?_⟩) ?_ ?_
          rotate_left
          ·intro w'
           go_simp
           with_reducible rfl
          rotate_left
          ·simp only [Act.put,s1_,s2_,s3_,i64_w,i32_w]
           rfl
          refine pure_ (i:=1) (N:=some 85) (v:=?_) (a':=?_) #[true,true,false,false,false,false,false,false,false,false,false,false,false,false,false,false,false,false,false,false,false,false,false,false,false,false,false,false,false,false,false,false,false,false,false,false,false,false] rfl rfl (any_of HT_.out (by kernel_rfl)) (fun _ _ _ h=>h) (Or.inl ⟨by rfl,?_⟩) ?_ ?_
          rotate_left
          ·intro w'
           go_simp
           with_reducible rfl
          rotate_left
          ·simp only [Act.put,s1_,s2_,s3_,i64_w,i32_w]
           rfl
          refine pure_ (i:=2) (N:=some 86) (v:=?_) (a':=?_) #[true,true,true,false,false,false,false,false,false,false,false,false,false,false,false,false,false,false,false,false,false,false,false,false,false,false,false,false,false,false,false,false,false,false,false,false,false,false] rfl rfl (any_of HT_.out (by kernel_rfl)) (fun _ _ _ h=>h) (Or.inl ⟨by rfl,?_⟩) ?_ ?_
          rotate_left
          ·intro w'
           go_simp
           with_reducible rfl
          rotate_left
          ·simp only [Act.put,s1_,s2_,s3_,i64_w,i32_w]
           rfl
          refine pure_ (i:=3) (N:=some 87) (v:=?_) (a':=?_) #[true,true,true,true,false,false,false,false,false,false,false,false,false,false,false,false,false,false,false,false,false,false,false,false,false,false,false,false,false,false,false,false,false,false,false,false,false,false] rfl rfl (any_of HT_.out (by kernel_rfl)) (fun _ _ _ h=>h) (Or.inl ⟨by rfl,?_⟩) ?_ ?_
          rotate_left
          ·intro w'
           go_simp
           with_reducible rfl
          rotate_left
          ·simp only [Act.put,s1_,s2_,s3_,i64_w,i32_w]
           rfl
          refine pure_ (i:=6) (N:=some 90) (v:=?_) (a':=?_) #[true,true,true,true,false,false,true,false,false,false,false,false,false,false,false,false,false,false,false,false,false,false,false,false,false,false,false,false,false,false,false,false,false,false,false,false,false,false] rfl rfl (any_of HT_.out (by kernel_rfl)) (fun _ _ _ h=>h) (Or.inl ⟨by rfl,?_⟩) ?_ ?_
          rotate_left
          ·intro w'
           go_simp
           with_reducible rfl
          rotate_left
          ·simp only [Act.put,s1_,s2_,s3_,i64_w,i32_w]
           rfl
          refine pure_ (i:=7) (N:=some 91) (v:=?_) (a':=?_) #[true,true,true,true,false,false,true,true,false,false,false,false,false,false,false,false,false,false,false,false,false,false,false,false,false,false,false,false,false,false,false,false,false,false,false,false,false,false] rfl rfl (any_of HT_.out (by kernel_rfl)) (fun _ _ _ h=>h) (Or.inl ⟨by rfl,?_⟩) ?_ ?_
          rotate_left
          ·intro w'
           go_simp
           with_reducible rfl
          rotate_left
          ·simp only [Act.put,s1_,s2_,s3_,i64_w,i32_w]
           rfl
          refine pure_ (i:=8) (N:=some 92) (v:=?_) (a':=?_) #[true,true,true,true,false,false,true,true,true,false,false,false,false,false,false,false,false,false,false,false,false,false,false,false,false,false,false,false,false,false,false,false,false,false,false,false,false,false] rfl rfl (any_of HT_.out (by kernel_rfl)) (fun _ _ _ h=>h) (Or.inl ⟨by rfl,?_⟩) ?_ ?_
          rotate_left
          ·intro w'
           go_simp
           with_reducible rfl
          rotate_left
          ·simp only [Act.put,s1_,s2_,s3_,i64_w,i32_w]
           rfl
          refine pure_ (i:=9) (N:=some 93) (v:=?_) (a':=?_) #[true,true,true,true,false,false,true,true,true,true,false,false,false,false,false,false,false,false,false,false,false,false,false,false,false,false,false,false,false,false,false,false,false,false,false,false,false,false] rfl rfl (any_of HT_.out (by kernel_rfl)) (fun _ _ _ h=>h) (Or.inl ⟨by rfl,?_⟩) ?_ ?_
          rotate_left
          ·intro w'
           go_simp
           with_reducible rfl
          rotate_left
          ·simp only [Act.put,s1_,s2_,s3_,i64_w,i32_w]
           rfl
          refine pure_ (i:=13) (N:=some 97) (v:=?_) (a':=?_) #[true,true,true,true,false,false,true,true,true,true,false,false,false,true,false,false,false,false,false,false,false,false,false,false,false,false,false,false,false,false,false,false,false,false,false,false,false,false] rfl rfl (any_of HT_.out (by kernel_rfl)) (fun _ _ _ h=>h) (Or.inl ⟨by rfl,?_⟩) ?_ ?_
          rotate_left
          ·intro w'
           go_simp
           with_reducible rfl
          rotate_left
          ·simp only [Act.put,s1_,s2_,s3_,i64_w,i32_w]
           rfl
          refine pure_ (i:=14) (N:=some 98) (v:=?_) (a':=?_) #[true,true,true,true,false,false,true,true,true,true,false,false,false,true,true,false,false,false,false,false,false,false,false,false,false,false,false,false,false,false,false,false,false,false,false,false,false,false] rfl rfl (any_of HT_.out (by kernel_rfl)) (fun _ _ _ h=>h) (Or.inl ⟨by rfl,?_⟩) ?_ ?_
          rotate_left
          ·intro w'
           go_simp
           with_reducible rfl
          rotate_left
          ·simp only [Act.put,s1_,s2_,s3_,i64_w,i32_w]
           rfl
          refine pure_ (i:=15) (N:=some 99) (v:=?_) (a':=?_) #[true,true,true,true,false,false,true,true,true,true,false,false,false,true,true,true,false,false,false,false,false,false,false,false,false,false,false,false,false,false,false,false,false,false,false,false,false,false] rfl rfl (any_of HT_.out (by kernel_rfl)) (fun _ _ _ h=>h) (Or.inl ⟨by rfl,?_⟩) ?_ ?_
          rotate_left
          ·intro w'
           go_simp
           with_reducible rfl
          rotate_left
          ·simp only [Act.put,s1_,s2_,s3_,i64_w,i32_w]
           rfl
          refine pure_ (i:=16) (N:=some 100) (v:=?_) (a':=?_) #[true,true,true,true,false,false,true,true,true,true,false,false,false,true,true,true,true,false,false,false,false,false,false,false,false,false,false,false,false,false,false,false,false,false,false,false,false,false] rfl rfl (any_of HT_.out (by kernel_rfl)) (fun _ _ _ h=>h) (Or.inl ⟨by rfl,?_⟩) ?_ ?_
          rotate_left
          ·intro w'
           go_simp
           with_reducible rfl
          rotate_left
          ·simp only [Act.put,s1_,s2_,s3_,i64_w,i32_w]
           rfl
          refine take_ (i:=4) (N:=some 88) (v:=?_) (a':=?_) #[true,true,true,true,true,false,true,true,true,true,false,false,false,true,true,true,true,false,false,false,false,false,false,false,false,false,false,false,false,false,false,false,false,false,false,false,false,false] rfl rfl (take_ofW HT_.out HW_.out (by kernel_rfl)) (fun _ _ _ h=>h) (Or.inl ⟨by rfl,?_⟩) hHeld ?_ ?_
          rotate_left
          ·rintro w' ⟨s0,s1,s2,s3,s4,s5⟩
           go_simp
           with_reducible rfl
          rotate_left
          ·simp only [Act.put,s1_,s2_,s3_,i64_w,i32_w]
           rfl
          refine take_ (i:=10) (N:=some 94) (v:=?_) (a':=?_) #[true,true,true,true,true,false,true,true,true,true,true,false,false,true,true,true,true,false,false,false,false,false,false,false,false,false,false,false,false,false,false,false,false,false,false,false,false,false] rfl rfl (take_ofW HT_.out HW_.out (by kernel_rfl)) (fun _ _ _ h=>h) (Or.inl ⟨by rfl,?_⟩) hHeld ?_ ?_
          rotate_left
          ·rintro w' ⟨s0,s1,s2,s3,s4,s5⟩
           go_simp
           with_reducible rfl
          rotate_left
          ·simp only [Act.put,s1_,s2_,s3_,i64_w,i32_w]
           rfl
          refine take_ (i:=17) (N:=some 101) (v:=?_) (a':=?_) #[true,true,true,true,true,false,true,true,true,true,true,false,false,true,true,true,true,true,false,false,false,false,false,false,false,false,false,false,false,false,false,false,false,false,false,false,false,false] rfl rfl (take_ofW HT_.out HW_.out (by kernel_rfl)) (fun _ _ _ h=>h) (Or.inl ⟨by rfl,?_⟩) hHeld ?_ ?_
          rotate_left
          ·rintro w' ⟨s0,s1,s2,s3,s4,s5⟩
           go_simp
           with_reducible rfl
          rotate_left
          ·simp only [Act.put,s1_,s2_,s3_,i64_w,i32_w]
           rfl
          refine one_ (i:=5) (N:=some 89) #[true,true,true,true,true,true,true,true,true,true,true,false,false,true,true,true,true,true,false,false,false,false,false,false,false,false,false,false,false,false,false,false,false,false,false,false,false,false] rfl rfl (one_of HT_.out (by kernel_rfl)) (by decide) (fun K hK=>?_)
          refine goes_ Try.func27 (by kernel_rfl) rfl #[.slice Ao92 t27.length co92,.agg #[.int .i64 ((rd_T43 t33 x13_2).f0),.int .i64 ((rd_T43 t33 x13_2).f1)]] (by rfl) rfl rfl lm_ ?_
          with_reducible refine (laws_count.calls k2 _ _ t27 ((rd_T43 t33 x13_2).f0) ((rd_T43 t33 x13_2).f1) t44 _ ?side1 ?side2 A65.out).mono ?_
          (case side1=>exact cc_ (Kd.R_reads' HO_10.out).2.2)
          (case side2=>exact (Kd.R_reads' HO_10.out).2.1)
          rintro e w93 ⟨rfl,hb⟩
          have HS0_:=(hb.cell (World.block_lt_of_cell? _ _ (hHeld.1))).trans (hHeld.1)
          have HS1_:=(hb.cell (World.block_lt_of_cell? _ _ (hHeld.2.1))).trans (hHeld.2.1)
          have HS2_:=(hb.cell (World.block_lt_of_cell? _ _ (hHeld.2.2.1))).trans (hHeld.2.2.1)
          have HS3_:=(hb.cell (World.block_lt_of_cell? _ _ (hHeld.2.2.2.1))).trans (hHeld.2.2.2.1)
          have HS4_:=(hb.cell (World.block_lt_of_cell? _ _ (hHeld.2.2.2.2.1))).trans (hHeld.2.2.2.2.1)
          have HS5_:=(hb.cell (World.block_lt_of_cell? _ _ (hHeld.2.2.2.2.2))).trans (hHeld.2.2.2.2.2)
          refine ⟨_,rfl,?_⟩
          have n0_:=rb_ HO_6 hb
          have n1_:=rb_ HO_10 hb
          have n2_:=rb_ HO_11 hb
          have n3_:=rb_ HO_12 hb
          have n4_:=rb_ Z9 hb
          have n5_:=kb_ BK8 hb
          have n6_:=a0_ (below_step hb_ hb)
          clear HO_6
          clear HO_10
          clear HO_11
          clear HO_12
          clear Z9
          clear BK8
          clear HB
          have HO_6:=n0_
          have HO_10:=n1_
          have HO_11:=n2_
          have HO_12:=n3_
          have Z9:=n4_
          have BK8:=n5_
          have HB:=n6_
          clear n0_ n1_ n2_ n3_ n4_ n5_ n6_
          (try clear hb)
          (try clear hb2)
          (try clear hk)
          (try clear hi)
          obtain ⟨Ao94,co94,eo94⟩:=Kd.R_slice HO_11.out
          (first | subst eo94 | (injection eo94 with f1_ f2_ f3_;have f4_:=f1_.symm;have f5_:=f3_.symm;clear f1_ f2_ f3_;subst f4_;subst f5_))
          refine hK.out _ _ ⟨HS0_,HS1_,HS2_,HS3_,HS4_,HS5_⟩ (fun hHeld=>?_)
          clear hK K
          refine norm_ (a':=?_) ?_ ?_
          rotate_left
          ·show Act.put _ (some 89) _ = _
           simp only [Act.put,s1_,s2_,s3_,i64_w,i32_w]
           rfl
          refine one_ (i:=11) (N:=some 95) #[true,true,true,true,true,true,true,true,true,true,true,true,false,true,true,true,true,true,false,false,false,false,false,false,false,false,false,false,false,false,false,false,false,false,false,false,false,false] rfl rfl (one_of HT_.out (by kernel_rfl)) (by decide) (fun K hK=>?_)
          refine goes_ Try.func27 (by kernel_rfl) rfl #[.slice Ao94 t30.length co94,.agg #[.int .i64 ((rd_T43 t33 x13_2).f0),.int .i64 ((rd_T43 t33 x13_2).f1)]] (by rfl) rfl rfl lm_ ?_
          with_reducible refine (laws_count.calls k2 _ _ t30 ((rd_T43 t33 x13_2).f0) ((rd_T43 t33 x13_2).f1) t46 _ ?side1 ?side2 A66.out).mono ?_
          (case side1=>exact cc_ (Kd.R_reads' HO_11.out).2.2)
          (case side2=>exact (Kd.R_reads' HO_11.out).2.1)
          rintro e w95 ⟨rfl,hb⟩
          have HS0_:=(hb.cell (World.block_lt_of_cell? _ _ (hHeld.1))).trans (hHeld.1)
          have HS1_:=(hb.cell (World.block_lt_of_cell? _ _ (hHeld.2.1))).trans (hHeld.2.1)
          have HS2_:=(hb.cell (World.block_lt_of_cell? _ _ (hHeld.2.2.1))).trans (hHeld.2.2.1)
          have HS3_:=(hb.cell (World.block_lt_of_cell? _ _ (hHeld.2.2.2.1))).trans (hHeld.2.2.2.1)
          have HS4_:=(hb.cell (World.block_lt_of_cell? _ _ (hHeld.2.2.2.2.1))).trans (hHeld.2.2.2.2.1)
          have HS5_:=(hb.cell (World.block_lt_of_cell? _ _ (hHeld.2.2.2.2.2))).trans (hHeld.2.2.2.2.2)
          refine ⟨_,rfl,?_⟩
          have n0_:=rb_ HO_6 hb
          have n1_:=rb_ HO_10 hb
          have n2_:=rb_ HO_11 hb
          have n3_:=rb_ HO_12 hb
          have n4_:=rb_ Z9 hb
          have n5_:=kb_ BK8 hb
          have n6_:=a0_ (below_step hb_ hb)
          clear HO_6
          clear HO_10
          clear HO_11
          clear HO_12
          clear Z9
          clear BK8
          clear HB
          have HO_6:=n0_
          have HO_10:=n1_
          have HO_11:=n2_
          have HO_12:=n3_
          have Z9:=n4_
          have BK8:=n5_
          have HB:=n6_
          clear n0_ n1_ n2_ n3_ n4_ n5_ n6_
          (try clear hb)
          (try clear hb2)
          (try clear hk)
          (try clear hi)
          refine hK.out _ _ ⟨HS0_,HS1_,HS2_,HS3_,HS4_,HS5_⟩ (fun hHeld=>?_)
          clear hK K
          refine norm_ (a':=?_) ?_ ?_
          rotate_left
          ·show Act.put _ (some 95) _ = _
           simp only [Act.put,s1_,s2_,s3_,i64_w,i32_w]
           rfl
          refine pure_ (i:=12) (N:=some 96) (v:=?_) (a':=?_) #[true,true,true,true,true,true,true,true,true,true,true,true,true,true,true,true,true,true,false,false,false,false,false,false,false,false,false,false,false,false,false,false,false,false,false,false,false,false] rfl rfl (any_of HT_.out (by kernel_rfl)) (fun _ _ _ h=>h) (Or.inl ⟨by rfl,?_⟩) ?_ ?_
          rotate_left
          ·intro w'
           go_simp
           with_reducible rfl
          rotate_left
          ·simp only [Act.put,s1_,s2_,s3_,i64_w,i32_w]
           rfl
          refine one_ (i:=18) (N:=some 102) #[true,true,true,true,true,true,true,true,true,true,true,true,true,true,true,true,true,true,true,false,false,false,false,false,false,false,false,false,false,false,false,false,false,false,false,false,false,false] rfl rfl (one_of HT_.out (by kernel_rfl)) (by decide) (fun K hK=>?_)
          refine goes_ Try.func27 (by kernel_rfl) rfl #[.slice (some ad43) t33.length co90,.agg #[.int .i64 ((rd_T43 t33 x13_2).f0),.int .i64 ((rd_T43 t33 x13_2).f1)]] (by rfl) rfl rfl lm_ ?_
          with_reducible refine (laws_count.calls k2 _ _ t33 ((rd_T43 t33 x13_2).f0) ((rd_T43 t33 x13_2).f1) t48 _ ?side1 ?side2 A67.out).mono ?_
          (case side1=>exact cc_ (Kd.R_reads' HO_12.out).2.2)
          (case side2=>exact (Kd.R_reads' HO_12.out).2.1)
          rintro e w96 ⟨rfl,hb⟩
          have HS0_:=(hb.cell (World.block_lt_of_cell? _ _ (hHeld.1))).trans (hHeld.1)
          have HS1_:=(hb.cell (World.block_lt_of_cell? _ _ (hHeld.2.1))).trans (hHeld.2.1)
          have HS2_:=(hb.cell (World.block_lt_of_cell? _ _ (hHeld.2.2.1))).trans (hHeld.2.2.1)
          have HS3_:=(hb.cell (World.block_lt_of_cell? _ _ (hHeld.2.2.2.1))).trans (hHeld.2.2.2.1)
          have HS4_:=(hb.cell (World.block_lt_of_cell? _ _ (hHeld.2.2.2.2.1))).trans (hHeld.2.2.2.2.1)
          have HS5_:=(hb.cell (World.block_lt_of_cell? _ _ (hHeld.2.2.2.2.2))).trans (hHeld.2.2.2.2.2)
          refine ⟨_,rfl,?_⟩
          have n0_:=rb_ HO_6 hb
          have n1_:=rb_ HO_10 hb
          have n2_:=rb_ HO_11 hb
          have n3_:=rb_ HO_12 hb
          have n4_:=rb_ Z9 hb
          have n5_:=kb_ BK8 hb
          have n6_:=a0_ (below_step hb_ hb)
          clear HO_6
          clear HO_10
          clear HO_11
          clear HO_12
          clear Z9
          clear BK8
          clear HB
          have HO_6:=n0_
          have HO_10:=n1_
          have HO_11:=n2_
          have HO_12:=n3_
          have Z9:=n4_
          have BK8:=n5_
          have HB:=n6_
          clear n0_ n1_ n2_ n3_ n4_ n5_ n6_
          (try clear hb)
          (try clear hb2)
          (try clear hk)
          (try clear hi)
          refine hK.out _ _ ⟨HS0_,HS1_,HS2_,HS3_,HS4_,HS5_⟩ (fun hHeld=>?_)
          clear hK K
          refine norm_ (a':=?_) ?_ ?_
          rotate_left
          ·show Act.put _ (some 102) _ = _
           simp only [Act.put,s1_,s2_,s3_,i64_w,i32_w]
           rfl
          refine pure_ (i:=19) (N:=some 103) (v:=?_) (a':=?_) #[true,true,true,true,true,true,true,true,true,true,true,true,true,true,true,true,true,true,true,true,false,false,false,false,false,false,false,false,false,false,false,false,false,false,false,false,false,false] rfl rfl (any_of HT_.out (by kernel_rfl)) (fun _ _ _ h=>h) (Or.inl ⟨by rfl,?_⟩) ?_ ?_
          rotate_left
          ·intro w'
           go_simp
           with_reducible rfl
          rotate_left
          ·simp only [Act.put,s1_,s2_,s3_,i64_w,i32_w]
           rfl
          refine pure_ (i:=20) (N:=some 104) (v:=?_) (a':=?_) #[true,true,true,true,true,true,true,true,true,true,true,true,true,true,true,true,true,true,true,true,true,false,false,false,false,false,false,false,false,false,false,false,false,false,false,false,false,false] rfl rfl (any_of HT_.out (by kernel_rfl)) (fun _ _ _ h=>h) (Or.inl ⟨by rfl,?_⟩) ?_ ?_
          rotate_left
          ·intro w'
           go_simp
           with_reducible rfl
          rotate_left
          ·simp only [Act.put,s1_,s2_,s3_,i64_w,i32_w]
           rfl
          refine pure_ (i:=21) (N:=some 105) (v:=undef) (a':=?_) #[true,true,true,true,true,true,true,true,true,true,true,true,true,true,true,true,true,true,true,true,true,true,false,false,false,false,false,false,false,false,false,false,false,false,false,false,false,false] rfl rfl (any_of HT_.out (by kernel_rfl)) (fun _ _ _ h=>h) (Or.inr ⟨by rfl,rfl⟩) ?_ ?_
          rotate_left
          ·simp only [Act.put,s1_,s2_,s3_,i64_w,i32_w]
           rfl
          refine pure_ (i:=22) (N:=some 106) (v:=undef) (a':=?_) #[true,true,true,true,true,true,true,true,true,true,true,true,true,true,true,true,true,true,true,true,true,true,true,false,false,false,false,false,false,false,false,false,false,false,false,false,false,false] rfl rfl (any_of HT_.out (by kernel_rfl)) (fun _ _ _ h=>h) (Or.inr ⟨by rfl,rfl⟩) ?_ ?_
          rotate_left
          ·simp only [Act.put,s1_,s2_,s3_,i64_w,i32_w]
           rfl
          refine pure_ (i:=23) (N:=some 107) (v:=undef) (a':=?_) #[true,true,true,true,true,true,true,true,true,true,true,true,true,true,true,true,true,true,true,true,true,true,true,true,false,false,false,false,false,false,false,false,false,false,false,false,false,false] rfl rfl (any_of HT_.out (by kernel_rfl)) (fun _ _ _ h=>h) (Or.inr ⟨by rfl,rfl⟩) ?_ ?_
          rotate_left
          ·simp only [Act.put,s1_,s2_,s3_,i64_w,i32_w]
           rfl
          refine pure_ (i:=24) (N:=some 108) (v:=undef) (a':=?_) #[true,true,true,true,true,true,true,true,true,true,true,true,true,true,true,true,true,true,true,true,true,true,true,true,true,false,false,false,false,false,false,false,false,false,false,false,false,false] rfl rfl (any_of HT_.out (by kernel_rfl)) (fun _ _ _ h=>h) (Or.inr ⟨by rfl,rfl⟩) ?_ ?_
          rotate_left
          ·simp only [Act.put,s1_,s2_,s3_,i64_w,i32_w]
           rfl
          refine pure_ (i:=25) (N:=some 109) (v:=undef) (a':=?_) #[true,true,true,true,true,true,true,true,true,true,true,true,true,true,true,true,true,true,true,true,true,true,true,true,true,true,false,false,false,false,false,false,false,false,false,false,false,false] rfl rfl (any_of HT_.out (by kernel_rfl)) (fun _ _ _ h=>h) (Or.inr ⟨by rfl,rfl⟩) ?_ ?_
          rotate_left
          ·simp only [Act.put,s1_,s2_,s3_,i64_w,i32_w]
           rfl
          refine pure_ (i:=26) (N:=some 110) (v:=undef) (a':=?_) #[true,true,true,true,true,true,true,true,true,true,true,true,true,true,true,true,true,true,true,true,true,true,true,true,true,true,true,false,false,false,false,false,false,false,false,false,false,false] rfl rfl (any_of HT_.out (by kernel_rfl)) (fun _ _ _ h=>h) (Or.inr ⟨by rfl,rfl⟩) ?_ ?_
          rotate_left
          ·simp only [Act.put,s1_,s2_,s3_,i64_w,i32_w]
           rfl
          refine pure_ (i:=27) (N:=some 111) (v:=undef) (a':=?_) #[true,true,true,true,true,true,true,true,true,true,true,true,true,true,true,true,true,true,true,true,true,true,true,true,true,true,true,true,false,false,false,false,false,false,false,false,false,false] rfl rfl (any_of HT_.out (by kernel_rfl)) (fun _ _ _ h=>h) (Or.inr ⟨by rfl,rfl⟩) ?_ ?_
          rotate_left
          ·simp only [Act.put,s1_,s2_,s3_,i64_w,i32_w]
           rfl
          refine pure_ (i:=28) (N:=some 112) (v:=undef) (a':=?_) #[true,true,true,true,true,true,true,true,true,true,true,true,true,true,true,true,true,true,true,true,true,true,true,true,true,true,true,true,true,false,false,false,false,false,false,false,false,false] rfl rfl (any_of HT_.out (by kernel_rfl)) (fun _ _ _ h=>h) (Or.inr ⟨by rfl,rfl⟩) ?_ ?_
          rotate_left
          ·simp only [Act.put,s1_,s2_,s3_,i64_w,i32_w]
           rfl
          refine pure_ (i:=29) (N:=some 113) (v:=undef) (a':=?_) #[true,true,true,true,true,true,true,true,true,true,true,true,true,true,true,true,true,true,true,true,true,true,true,true,true,true,true,true,true,true,false,false,false,false,false,false,false,false] rfl rfl (any_of HT_.out (by kernel_rfl)) (fun _ _ _ h=>h) (Or.inr ⟨by rfl,rfl⟩) ?_ ?_
          rotate_left
          ·simp only [Act.put,s1_,s2_,s3_,i64_w,i32_w]
           rfl
          refine pure_ (i:=30) (N:=some 114) (v:=undef) (a':=?_) #[true,true,true,true,true,true,true,true,true,true,true,true,true,true,true,true,true,true,true,true,true,true,true,true,true,true,true,true,true,true,true,false,false,false,false,false,false,false] rfl rfl (any_of HT_.out (by kernel_rfl)) (fun _ _ _ h=>h) (Or.inr ⟨by rfl,rfl⟩) ?_ ?_
          rotate_left
          ·simp only [Act.put,s1_,s2_,s3_,i64_w,i32_w]
           rfl
          refine pure_ (i:=31) (N:=some 115) (v:=undef) (a':=?_) #[true,true,true,true,true,true,true,true,true,true,true,true,true,true,true,true,true,true,true,true,true,true,true,true,true,true,true,true,true,true,true,true,false,false,false,false,false,false] rfl rfl (any_of HT_.out (by kernel_rfl)) (fun _ _ _ h=>h) (Or.inr ⟨by rfl,rfl⟩) ?_ ?_
          rotate_left
          ·simp only [Act.put,s1_,s2_,s3_,i64_w,i32_w]
           rfl
          refine pure_ (i:=32) (N:=some 116) (v:=undef) (a':=?_) #[true,true,true,true,true,true,true,true,true,true,true,true,true,true,true,true,true,true,true,true,true,true,true,true,true,true,true,true,true,true,true,true,true,false,false,false,false,false] rfl rfl (any_of HT_.out (by kernel_rfl)) (fun _ _ _ h=>h) (Or.inr ⟨by rfl,rfl⟩) ?_ ?_
          rotate_left
          ·simp only [Act.put,s1_,s2_,s3_,i64_w,i32_w]
           rfl
          refine pure_ (i:=33) (N:=some 117) (v:=undef) (a':=?_) #[true,true,true,true,true,true,true,true,true,true,true,true,true,true,true,true,true,true,true,true,true,true,true,true,true,true,true,true,true,true,true,true,true,true,false,false,false,false] rfl rfl (any_of HT_.out (by kernel_rfl)) (fun _ _ _ h=>h) (Or.inr ⟨by rfl,rfl⟩) ?_ ?_
          rotate_left
          ·simp only [Act.put,s1_,s2_,s3_,i64_w,i32_w]
           rfl
          refine pure_ (i:=34) (N:=some 118) (v:=undef) (a':=?_) #[true,true,true,true,true,true,true,true,true,true,true,true,true,true,true,true,true,true,true,true,true,true,true,true,true,true,true,true,true,true,true,true,true,true,true,false,false,false] rfl rfl (any_of HT_.out (by kernel_rfl)) (fun _ _ _ h=>h) (Or.inr ⟨by rfl,rfl⟩) ?_ ?_
          rotate_left
          ·simp only [Act.put,s1_,s2_,s3_,i64_w,i32_w]
           rfl
          refine pure_ (i:=35) (N:=some 119) (v:=undef) (a':=?_) #[true,true,true,true,true,true,true,true,true,true,true,true,true,true,true,true,true,true,true,true,true,true,true,true,true,true,true,true,true,true,true,true,true,true,true,true,false,false] rfl rfl (any_of HT_.out (by kernel_rfl)) (fun _ _ _ h=>h) (Or.inr ⟨by rfl,rfl⟩) ?_ ?_
          rotate_left
          ·simp only [Act.put,s1_,s2_,s3_,i64_w,i32_w]
           rfl
          refine pure_ (i:=36) (N:=some 120) (v:=undef) (a':=?_) #[true,true,true,true,true,true,true,true,true,true,true,true,true,true,true,true,true,true,true,true,true,true,true,true,true,true,true,true,true,true,true,true,true,true,true,true,true,false] rfl rfl (any_of HT_.out (by kernel_rfl)) (fun _ _ _ h=>h) (Or.inr ⟨by rfl,rfl⟩) ?_ ?_
          rotate_left
          ·simp only [Act.put,s1_,s2_,s3_,i64_w,i32_w]
           rfl
          refine pure_ (i:=37) (N:=some 121) (v:=?_) (a':=?_) #[true,true,true,true,true,true,true,true,true,true,true,true,true,true,true,true,true,true,true,true,true,true,true,true,true,true,true,true,true,true,true,true,true,true,true,true,true,true] rfl rfl (any_of HT_.out (by kernel_rfl)) (fun _ _ _ h=>h) (Or.inl ⟨by rfl,?_⟩) ?_ ?_
          rotate_left
          ·intro w'
           go_simp
           with_reducible rfl
          rotate_left
          ·simp only [Act.put,s1_,s2_,s3_,i64_w,i32_w]
           rfl
          refine done_ (done_of HT_.out (by kernel_rfl)) ?_
          try go_wp2
          go_ret
          exact ⟨by first | rfl | (simp [errW_none,errW_some] <;> rfl) | (simp [*,errW_none,errW_some] <;> rfl),hb_⟩
        ·rw [if_neg c64] at H
         exact absurd H (by simp)
       ·rw [if_neg c63] at H
        have c63b0 : decide (x13_2 < (t33.length : Int)) = false:=decide_eq_false c63
        clear c63
        replace H:=Option.bind_eq_some_iff.mp H
        obtain ⟨⟨t36,t39⟩,A970,H⟩:=H
        try dsimp only at H
        have A97:=a0_ A970
        clear A970
        by_cases c98 : (wrap64 ((t27.length : Int) + (t30.length : Int))) = (t33.length : Int)
        ·rw [if_pos c98] at H
         have c98b0 : ((wrap64 ((t27.length : Int) + (t30.length : Int))) == (t33.length : Int)) = true:=beq_iff_eq.mpr c98
         have c98b1 : ((wrap64 ((t27.length : Int) + (t30.length : Int))) != (t33.length : Int)) = false:=bne_eq_false_iff_eq.mpr c98
         clear c98
         by_cases c99 : (t9.length : Int) = 0
         ·rw [if_pos c99] at H
          have c99b0 : ((t9.length : Int) == 0) = true:=beq_iff_eq.mpr c99
          have c99b1 : ((t9.length : Int) != 0) = false:=bne_eq_false_iff_eq.mpr c99
          clear c99
          obtain rfl:=Option.some.inj H
          obtain ⟨Ao100,co100,eo100⟩:=Kd.R_slice HO_12.out
          subst eo100
          have hcz101_0 : wr.cell? ⟨gb8,0,none⟩ = some (.slice Ao9 t1.length co9):=(blk_cell BK8.out 0).trans rfl
          have hfz101_0:=blk_frozen BK8.out 0
          go_wp2_with (first | ((with_reducible refine gate_callee (f:=25) rfl ?_);refine goesL_ (some 126) rfl rfl Try.func25 (by kernel_rfl) rfl #[.agg #[.slice Ao9 t1.length co9],.slice Ao56 t9.length co56,.int .i64 t7] rfl lm_ ?_;(with_reducible refine (impl_SplitGroup.calls _ _ t1 _ _ t9 t7 t36 t39 _ ?side1 ?side2 ?side3 ?side4 A97.out).mono ?_);(case side1=>exact cc_ (Kd.R_reads' Z9.out).2.2);(case side2=>exact (Kd.R_reads' Z9.out).2.1);(case side3=>exact cc_ (Kd.R_reads' HO_6.out).2.2);(case side4=>exact (Kd.R_reads' HO_6.out).2.1);rintro e w102 ⟨v37,v40,rfl,ho0,ho1,hb⟩;refine ⟨_,rfl,?_⟩;have n0_:=a0_ (Kd.R_mono (Kd.R_told (Kd.R_told (Kd.R_old (rr_ HO_6.out) hb) (Kd.R_base ho0)) (Kd.R_base ho1)) (fun _ h_=>h_.1));have n1_:=rb_ HO_10 hb;have n2_:=rb_ HO_11 hb;have n3_:=rb_ HO_12 hb;have n4_:=rb_ Z9 hb;have n5_:=a0_ (Kd.R_lower (Kd.R_new' ho0 (Kd.R_lt (rr_ HO_6.out))) (below_size hb_));have n6_:=a0_ (Kd.R_lower (Kd.R_new' ho1 (Kd.R_lt (rr_ HO_6.out))) (below_size hb_));have n7_:=kb_ BK8 hb;have n8_:=a0_ (below_step hb_ hb);clear HO_6 HO_10;clear HO_11 HO_12;clear Z9 BK8 HB;have HO_6:=n0_;have HO_10:=n1_;have HO_11:=n2_;have HO_12:=n3_;have Z9:=n4_;have HO38:=n5_;have HO41:=n6_;have BK8:=n7_;have HB:=n8_;clear n0_ n1_ n2_ n3_ n4_ n5_ n6_ n7_ n8_;(try clear hb);(try clear ho0);(try clear ho1);obtain ⟨Ao103,co103,eo103⟩:=Kd.R_slice HO_10.out;subst eo103;obtain ⟨Ao104,co104,eo104⟩:=Kd.R_slice HO_11.out;subst eo104))
          go_ret
          exact ⟨by first | rfl | (simp [errW_none,errW_some] <;> rfl) | (simp [*,errW_none,errW_some] <;> rfl),hb_⟩
         ·rw [if_neg c99] at H
          have c99b0 : ((t9.length : Int) == 0) = false:=beq_eq_false_iff_ne.mpr c99
          have c99b1 : ((t9.length : Int) != 0) = true:=bne_iff_ne.mpr c99
          have c99b2 : ¬ (t9 = []):=fun h_=>c99 (by rw [h_];rfl)
          replace H:=Option.bind_eq_some_iff.mp H
          obtain ⟨t42,A1050,H⟩:=H
          try dsimp only at H
          have A105:=a0_ A1050
          clear A1050
          by_cases c106 : t42 = true
          ·subst c106
           have H1 : (some ((t39.length : Int) == 0)) = some r:=by rw [if_pos rfl] at H;exact H
           clear H
           have H:=H1
           clear H1
           obtain rfl:=Option.some.inj H
           obtain ⟨Ao107,co107,eo107⟩:=Kd.R_slice HO_12.out
           subst eo107
           have hcz108_0 : wr.cell? ⟨gb8,0,none⟩ = some (.slice Ao9 t1.length co9):=(blk_cell BK8.out 0).trans rfl
           have hfz108_0:=blk_frozen BK8.out 0
           go_wp2_with (first | ((with_reducible refine gate_callee (f:=25) rfl ?_);refine goesL_ (some 126) rfl rfl Try.func25 (by kernel_rfl) rfl #[.agg #[.slice Ao9 t1.length co9],.slice Ao56 t9.length co56,.int .i64 t7] rfl lm_ ?_;(with_reducible refine (impl_SplitGroup.calls _ _ t1 _ _ t9 t7 t36 t39 _ ?side1 ?side2 ?side3 ?side4 A97.out).mono ?_);(case side1=>exact cc_ (Kd.R_reads' Z9.out).2.2);(case side2=>exact (Kd.R_reads' Z9.out).2.1);(case side3=>exact cc_ (Kd.R_reads' HO_6.out).2.2);(case side4=>exact (Kd.R_reads' HO_6.out).2.1);rintro e w109 ⟨v37,v40,rfl,ho0,ho1,hb⟩;refine ⟨_,rfl,?_⟩;have n0_:=a0_ (Kd.R_mono (Kd.R_told (Kd.R_told (Kd.R_old (rr_ HO_6.out) hb) (Kd.R_base ho0)) (Kd.R_base ho1)) (fun _ h_=>h_.1));have n1_:=rb_ HO_10 hb;have n2_:=rb_ HO_11 hb;have n3_:=rb_ HO_12 hb;have n4_:=rb_ Z9 hb;have n5_:=a0_ (Kd.R_lower (Kd.R_new' ho0 (Kd.R_lt (rr_ HO_6.out))) (below_size hb_));have n6_:=a0_ (Kd.R_lower (Kd.R_new' ho1 (Kd.R_lt (rr_ HO_6.out))) (below_size hb_));have n7_:=kb_ BK8 hb;have n8_:=a0_ (below_step hb_ hb);clear HO_6 HO_10;clear HO_11 HO_12;clear Z9 BK8 HB;have HO_6:=n0_;have HO_10:=n1_;have HO_11:=n2_;have HO_12:=n3_;have Z9:=n4_;have HO38:=n5_;have HO41:=n6_;have BK8:=n7_;have HB:=n8_;clear n0_ n1_ n2_ n3_ n4_ n5_ n6_ n7_ n8_;(try clear hb);(try clear ho0);(try clear ho1);obtain ⟨Ao110,co110,eo110⟩:=Kd.R_slice HO_10.out;subst eo110;obtain ⟨Ao111,co111,eo111⟩:=Kd.R_slice HO_11.out;subst eo111;obtain ⟨Ao112,co112,eo112⟩:=Kd.R_slice HO38.out;subst eo112) | (go_at_call 13;(with_reducible refine (laws_equalGroup.calls k2 _ _ t36 _ _ t9 true _ ?side1 ?side2 ?side3 ?side4 A105.out).mono ?_);(case side1=>exact cc_ (Kd.R_reads' HO38.out).2.2);(case side2=>exact (Kd.R_reads' HO38.out).2.1);(case side3=>exact cc_ (Kd.R_reads' HO_6.out).2.2);(case side4=>exact (Kd.R_reads' HO_6.out).2.1);rintro e w' ⟨rfl,⟨nd,rfl⟩⟩;obtain ⟨Ao113,co113,eo113⟩:=Kd.R_slice HO41.out;subst eo113))
           go_ret
           exact ⟨by first | rfl | (simp [errW_none,errW_some] <;> rfl) | (simp [*,errW_none,errW_some] <;> rfl),hb_⟩
          ·replace c106:=Bool.eq_false_iff.mpr c106
           subst c106
           have H1 : (some false) = some r:=by rw [if_neg (show ¬ (false = true) by decide)] at H;exact H
           clear H
           have H:=H1
           clear H1
           obtain rfl:=Option.some.inj H
           obtain ⟨Ao114,co114,eo114⟩:=Kd.R_slice HO_12.out
           subst eo114
           have hcz115_0 : wr.cell? ⟨gb8,0,none⟩ = some (.slice Ao9 t1.length co9):=(blk_cell BK8.out 0).trans rfl
           have hfz115_0:=blk_frozen BK8.out 0
           go_wp2_with (first | ((with_reducible refine gate_callee (f:=25) rfl ?_);refine goesL_ (some 126) rfl rfl Try.func25 (by kernel_rfl) rfl #[.agg #[.slice Ao9 t1.length co9],.slice Ao56 t9.length co56,.int .i64 t7] rfl lm_ ?_;(with_reducible refine (impl_SplitGroup.calls _ _ t1 _ _ t9 t7 t36 t39 _ ?side1 ?side2 ?side3 ?side4 A97.out).mono ?_);(case side1=>exact cc_ (Kd.R_reads' Z9.out).2.2);(case side2=>exact (Kd.R_reads' Z9.out).2.1);(case side3=>exact cc_ (Kd.R_reads' HO_6.out).2.2);(case side4=>exact (Kd.R_reads' HO_6.out).2.1);rintro e w116 ⟨v37,v40,rfl,ho0,ho1,hb⟩;refine ⟨_,rfl,?_⟩;have n0_:=a0_ (Kd.R_mono (Kd.R_told (Kd.R_told (Kd.R_old (rr_ HO_6.out) hb) (Kd.R_base ho0)) (Kd.R_base ho1)) (fun _ h_=>h_.1));have n1_:=rb_ HO_10 hb;have n2_:=rb_ HO_11 hb;have n3_:=rb_ HO_12 hb;have n4_:=rb_ Z9 hb;have n5_:=a0_ (Kd.R_lower (Kd.R_new' ho0 (Kd.R_lt (rr_ HO_6.out))) (below_size hb_));have n6_:=a0_ (Kd.R_lower (Kd.R_new' ho1 (Kd.R_lt (rr_ HO_6.out))) (below_size hb_));have n7_:=kb_ BK8 hb;have n8_:=a0_ (below_step hb_ hb);clear HO_6 HO_10;clear HO_11 HO_12;clear Z9 BK8 HB;have HO_6:=n0_;have HO_10:=n1_;have HO_11:=n2_;have HO_12:=n3_;have Z9:=n4_;have HO38:=n5_;have HO41:=n6_;have BK8:=n7_;have HB:=n8_;clear n0_ n1_ n2_ n3_ n4_ n5_ n6_ n7_ n8_;(try clear hb);(try clear ho0);(try clear ho1);obtain ⟨Ao117,co117,eo117⟩:=Kd.R_slice HO_10.out;subst eo117;obtain ⟨Ao118,co118,eo118⟩:=Kd.R_slice HO_11.out;subst eo118;obtain ⟨Ao119,co119,eo119⟩:=Kd.R_slice HO38.out;subst eo119) | (go_at_call 13;(with_reducible refine (laws_equalGroup.calls k2 _ _ t36 _ _ t9 false _ ?side1 ?side2 ?side3 ?side4 A105.out).mono ?_);(case side1=>exact cc_ (Kd.R_reads' HO38.out).2.2);(case side2=>exact (Kd.R_reads' HO38.out).2.1);(case side3=>exact cc_ (Kd.R_reads' HO_6.out).2.2);(case side4=>exact (Kd.R_reads' HO_6.out).2.1);rintro e w' ⟨rfl,⟨nd,rfl⟩⟩))
           go_ret
           exact ⟨by first | rfl | (simp [errW_none,errW_some] <;> rfl) | (simp [*,errW_none,errW_some] <;> rfl),hb_⟩
        ·rw [if_neg c98] at H
         have c98b0 : ((wrap64 ((t27.length : Int) + (t30.length : Int))) == (t33.length : Int)) = false:=beq_eq_false_iff_ne.mpr c98
         have c98b1 : ((wrap64 ((t27.length : Int) + (t30.length : Int))) != (t33.length : Int)) = true:=bne_iff_ne.mpr c98
         obtain rfl:=Option.some.inj H
         obtain ⟨Ao120,co120,eo120⟩:=Kd.R_slice HO_12.out
         subst eo120
         have hcz121_0 : wr.cell? ⟨gb8,0,none⟩ = some (.slice Ao9 t1.length co9):=(blk_cell BK8.out 0).trans rfl
         have hfz121_0:=blk_frozen BK8.out 0
         go_wp2_with (first | ((with_reducible refine gate_callee (f:=25) rfl ?_);refine goesL_ (some 126) rfl rfl Try.func25 (by kernel_rfl) rfl #[.agg #[.slice Ao9 t1.length co9],.slice Ao56 t9.length co56,.int .i64 t7] rfl lm_ ?_;(with_reducible refine (impl_SplitGroup.calls _ _ t1 _ _ t9 t7 t36 t39 _ ?side1 ?side2 ?side3 ?side4 A97.out).mono ?_);(case side1=>exact cc_ (Kd.R_reads' Z9.out).2.2);(case side2=>exact (Kd.R_reads' Z9.out).2.1);(case side3=>exact cc_ (Kd.R_reads' HO_6.out).2.2);(case side4=>exact (Kd.R_reads' HO_6.out).2.1);rintro e w122 ⟨v37,v40,rfl,ho0,ho1,hb⟩;refine ⟨_,rfl,?_⟩;have n0_:=a0_ (Kd.R_mono (Kd.R_told (Kd.R_told (Kd.R_old (rr_ HO_6.out) hb) (Kd.R_base ho0)) (Kd.R_base ho1)) (fun _ h_=>h_.1));have n1_:=rb_ HO_10 hb;have n2_:=rb_ HO_11 hb;have n3_:=rb_ HO_12 hb;have n4_:=rb_ Z9 hb;have n5_:=a0_ (Kd.R_lower (Kd.R_new' ho0 (Kd.R_lt (rr_ HO_6.out))) (below_size hb_));have n6_:=a0_ (Kd.R_lower (Kd.R_new' ho1 (Kd.R_lt (rr_ HO_6.out))) (below_size hb_));have n7_:=kb_ BK8 hb;have n8_:=a0_ (below_step hb_ hb);clear HO_6 HO_10;clear HO_11 HO_12;clear Z9 BK8 HB;have HO_6:=n0_;have HO_10:=n1_;have HO_11:=n2_;have HO_12:=n3_;have Z9:=n4_;have HO38:=n5_;have HO41:=n6_;have BK8:=n7_;have HB:=n8_;clear n0_ n1_ n2_ n3_ n4_ n5_ n6_ n7_ n8_;(try clear hb);(try clear ho0);(try clear ho1);obtain ⟨Ao123,co123,eo123⟩:=Kd.R_slice HO_10.out;subst eo123;obtain ⟨Ao124,co124,eo124⟩:=Kd.R_slice HO_11.out;subst eo124))
         go_ret
         exact ⟨by first | rfl | (simp [errW_none,errW_some] <;> rfl) | (simp [*,errW_none,errW_some] <;> rfl),hb_⟩
def laws_FnSplitGroup.Pure : Prop:=∀ (l0 : List Int),l0.length ≤ maxLen → l0.length * 1 ≤ 140737488351232 → (∀ x ∈ l0,(Lit.int .u8 x).wf = true) → ∃ k,laws_FnSplitGroup.f k l0 = some true
theorem laws_FnSplitGroup.walk (P : laws_FnSplitGroup.Pure) (a0 : Option Addr) (len0 cap0 : Nat) (z0 : List Int) (w : World) (w0 : (a0 = none ∧ len0 = 0 ∧ cap0 = 0 ∧ z0 = []) ∨ ∃ x,a0 = some x ∧ len0 ≤ cap0 ∧ cap0 ≤ maxLen ∧ z0.length = cap0 ∧ (∀ i,i < z0.length → w.cell? (x.add i) = some (.int .u8 (z0.getD i 0))) ∧ ∀ n ∈ z0,(Lit.int .u8 n).wf = true) (y0 : len0 * 1 ≤ 140737488351232) :
  Calls Try.prog 7 #[.slice a0 len0 cap0] w fun e w'=>e = .returned (.bool true) ∧ Below w.heap.size w w':=by
 obtain ⟨l0,rfl,hr0,hm0,hw0,hc0⟩:=ReadsInt.ofRowC w0
 obtain ⟨k,h⟩:=P l0 hm0 y0 hw0
 refine (laws_FnSplitGroup.calls k _ _ l0 true w (Kd.C_of_reads (d:=(0 : Int)) (h1:=fun _=>rfl) hr0) hc0 h).mono ?_
 rintro e w' ⟨rfl,hd⟩
 exact ⟨rfl,hd⟩
end Go.Proofs.Ytfphcdbnnienhaa.P
namespace Go.Proofs.Ytfphcdbnnienhaa.P
open Go.RowKit Go.Proofs.YtfphcdbnnienhaaW.PrintWords Go.Proofs.YtfphcdbnnienhaaW.PrintLast Go.Proofs.YtfphcdbnnienhaaW.PrintMore
attribute [local go_sem] max2_int min2_int max_two min_two max_three min_three max_four min_four
set_option linter.unusedVariables false
set_option linter.unusedSimpArgs false
def ForN : Nat → Int → List Prt → Prop
 | 0,_,l=>l = []
 | n + 1,d,l=>l = [] ∨ (∃ p r,l = p :: r ∧ p.f0 = d ∧ p.f1 = false ∧ ForN n d r) ∨ (∃ p k r,l = p :: (k ++ r) ∧ p.f0 = d ∧ p.f1 = true ∧ k ≠ [] ∧ ForN n (d + 1) k ∧ ForN n d r)
def Fr (d : Int) (l : List Prt) : Prop:=∃ n,ForN n d l
theorem ForN_mono : ∀ (n : Nat) (d : Int) (l : List Prt),ForN n d l → ForN (n + 1) d l:=by
 intro n
 induction n with
 | zero=>intro d l h;exact Or.inl h
 | succ n ih =>
  intro d l h
  rcases h with h | ⟨p,r,h1,h2,h3,h4⟩ | ⟨p,k,r,h1,h2,h3,h4,h5,h6⟩
  ·exact Or.inl h
  ·exact Or.inr (Or.inl ⟨p,r,h1,h2,h3,ih _ _ h4⟩)
  ·exact Or.inr (Or.inr ⟨p,k,r,h1,h2,h3,h4,ih _ _ h5,ih _ _ h6⟩)
theorem ForN_le {n m : Nat} {d : Int} {l : List Prt} (h : n ≤ m) (hs : ForN n d l) : ForN m d l:=by
 obtain ⟨e,rfl⟩:=Nat.exists_eq_add_of_le h
 clear h
 induction e with
 | zero=>exact hs
 | succ e ih=>exact ForN_mono _ _ _ ih
theorem Fr.nil (d : Int) : Fr d []:=⟨0,rfl⟩
theorem Fr.leaf {d : Int} {p : Prt} {r : List Prt} (h0 : p.f0 = d) (h1 : p.f1 = false) (hr : Fr d r) : Fr d (p :: r):=by
 obtain ⟨n,hn⟩:=hr
 exact ⟨n + 1,Or.inr (Or.inl ⟨p,r,rfl,h0,h1,hn⟩)⟩
theorem Fr.node {d : Int} {p : Prt} {k r : List Prt} (h0 : p.f0 = d) (h1 : p.f1 = true) (hne : k ≠ []) (hk : Fr (d + 1) k) (hr : Fr d r) : Fr d (p :: (k ++ r)):=by
 obtain ⟨n,hn⟩:=hk
 obtain ⟨m,hm⟩:=hr
 exact ⟨max n m + 1,Or.inr (Or.inr ⟨p,k,r,rfl,h0,h1,hne,ForN_le (Nat.le_max_left _ _) hn,ForN_le (Nat.le_max_right _ _) hm⟩)⟩
theorem Fr.rec2 {P : Int → List Prt → Prop} (hnil : ∀ d,P d []) (hleaf : ∀ d p r,p.f0 = d → p.f1 = false → Fr d r → P d r → P d (p :: r)) (hnode : ∀ d p k r,p.f0 = d → p.f1 = true → k ≠ [] → Fr (d + 1) k → Fr d r → P (d + 1) k → P d r → P d (p :: (k ++ r))) {d : Int} {l : List Prt} (h : Fr d l) : P d l:=by
 obtain ⟨n,hn⟩:=h
 induction n generalizing d l with
 | zero =>
  have : l = []:=hn
  rw [this]
  exact hnil d
 | succ n ih =>
  rcases hn with h | ⟨p,r,rfl,h2,h3,h4⟩ | ⟨p,k,r,rfl,h2,h3,h4,h5,h6⟩
  ·rw [h];exact hnil d
  ·exact hleaf d p r h2 h3 ⟨n,h4⟩ (ih h4)
  ·exact hnode d p k r h2 h3 h4 ⟨n,h5⟩ ⟨n,h6⟩ (ih h5) (ih h6)
theorem Fr.depth {d : Int} {l : List Prt} (h : Fr d l) : (∀ q ∈ l,d ≤ q.f0) ∧ ∀ q,l.head? = some q → q.f0 = d:=by
 refine Fr.rec2 (P:=fun d l=>(∀ q ∈ l,d ≤ q.f0) ∧ ∀ q,l.head? = some q → q.f0 = d) (fun d=>⟨fun q hq=>absurd hq (by simp),fun q hq=>by simp at hq⟩) (fun d p r h0 h1 _ ih=>⟨fun q hq=>?_,fun q hq=>?_⟩) (fun d p k r h0 h1 _ _ _ ihk ihr=>⟨fun q hq=>?_,fun q hq=>?_⟩) h
 ·rcases List.mem_cons.1 hq with rfl | hq
  ·omega
  ·exact ih.1 q hq
 ·obtain rfl : p = q:=by simpa using hq
  exact h0
 ·rcases List.mem_cons.1 hq with rfl | hq
  ·omega
  ·rcases List.mem_append.1 hq with hq | hq
   ·have:=ihk.1 q hq;omega
   ·exact ihr.1 q hq
 ·obtain rfl : p = q:=by simpa using hq
  exact h0
theorem Fr.append {d : Int} {l r : List Prt} (h : Fr d l) (hr : Fr d r) : Fr d (l ++ r):=by
 refine Fr.rec2 (P:=fun d l=>∀ r,Fr d r → Fr d (l ++ r)) (fun d r hr=>hr) (fun d p s h0 h1 _ ih r hr=>Fr.leaf h0 h1 (ih r hr)) (fun d p k s h0 h1 hne hk _ _ ihr r hr=>?_) h r hr
 rw [List.cons_append,List.append_assoc]
 exact Fr.node h0 h1 hne hk (ihr r hr)
def chn : List Prt → Prop
 | []=>True
 | p :: r=>(match r with | []=>p.f1 = false | q :: _=>(p.f1 = true → q.f0 = p.f0 + 1) ∧ (p.f1 = false → q.f0 ≤ p.f0)) ∧ chn r
theorem tw_all {α : Type} {p : α → Bool} {l : List α} (h : ∀ x ∈ l,p x = true) : l.takeWhile p = l:=by
 have:=List.takeWhile_append_of_pos (l₂:=[]) h
 simpa using this
theorem chn_suffix : ∀ (a b : List Prt),chn (a ++ b) → chn b:=by
 intro a
 induction a with
 | nil=>intro b h;exact h
 | cons p a ih=>intro b h;exact ih b h.2
theorem chn_Fr : ∀ (n : Nat) (l : List Prt) (d : Int),l.length ≤ n → chn l → (∀ q,l.head? = some q → q.f0 ≤ d) → Fr d (l.takeWhile (fun q=>decide (d ≤ q.f0))):=by
 intro n
 induction n with
 | zero =>
  intro l d hl _ _
  have : l = []:=List.length_eq_zero_iff.1 (by omega)
  rw [this]
  exact Fr.nil d
 | succ n ih =>
  intro l d hl hc hh
  cases l with
  | nil=>exact Fr.nil d
  | cons p r =>
   have hp:=hh p rfl
   rw [List.length_cons] at hl
   by_cases hd : d ≤ p.f0
   ·rw [List.takeWhile_cons,if_pos (by simpa using hd)]
    have hpd : p.f0 = d:=by omega
    cases hg : p.f1 with
    | false =>
     refine Fr.leaf hpd hg (ih r d (by omega) hc.2 (fun q hq=>?_))
     cases r with
     | nil=>simp at hq
     | cons q' r =>
      obtain rfl : q' = q:=by simpa using hq
      have:=hc.1.2 hg
      omega
    | true =>
     cases r with
     | nil=>have : p.f1 = false:=hc.1;rw [hg] at this;cases this
     | cons q r =>
      have hq:=hc.1.1 hg
      have hsplit:=List.takeWhile_append_dropWhile (p:=fun x : Prt=>decide (d + 1 ≤ x.f0)) (l:=q :: r)
      have hk:=ih (q :: r) (d + 1) (by omega) hc.2 (fun x hx=>by
       obtain rfl : q = x:=by simpa using hx
       omega)
      have hne : (q :: r).takeWhile (fun x=>decide (d + 1 ≤ x.f0)) ≠ []:=by
       rw [List.takeWhile_cons,if_pos (by simp;omega)]
       simp
      have hlen : ((q :: r).dropWhile (fun x=>decide (d + 1 ≤ x.f0))).length ≤ n:=by
       have:=(List.dropWhile_sublist (fun x : Prt=>decide (d + 1 ≤ x.f0)) (l:=q :: r)).length_le
       omega
      have hhd : ∀ x,((q :: r).dropWhile (fun x=>decide (d + 1 ≤ x.f0))).head? = some x → x.f0 ≤ d:=by
       intro x hx
       have:=List.head?_dropWhile_not (fun x : Prt=>decide (d + 1 ≤ x.f0)) (q :: r)
       rw [hx] at this
       simp at this
       omega
      have hr:=ih _ d hlen (chn_suffix ((q :: r).takeWhile (fun x=>decide (d + 1 ≤ x.f0))) _ (by rw [hsplit];exact hc.2)) hhd
      have e : (q :: r).takeWhile (fun x=>decide (d ≤ x.f0)) = (q :: r).takeWhile (fun x=>decide (d + 1 ≤ x.f0)) ++ ((q :: r).dropWhile (fun x=>decide (d + 1 ≤ x.f0))).takeWhile (fun x=>decide (d ≤ x.f0)):=by
       conv=>lhs;rw [← hsplit]
       rw [List.takeWhile_append_of_pos]
       intro x hx
       have:=List.all_eq_true.1 (List.all_takeWhile (p:=fun x : Prt=>decide (d + 1 ≤ x.f0)) (l:=q :: r)) x hx
       simp at this ⊢
       omega
      rw [e]
      exact Fr.node hpd hg hne hk hr
   ·rw [List.takeWhile_cons,if_neg (by simpa using hd)]
    exact Fr.nil d
theorem Fr_chn {d : Int} {l : List Prt} (h : Fr d l) : ∀ b,chn b → (∀ q,b.head? = some q → q.f0 ≤ d) → chn (l ++ b):=by
 refine Fr.rec2 (P:=fun d l=>∀ b,chn b → (∀ q,b.head? = some q → q.f0 ≤ d) → chn (l ++ b)) (fun d b hb _=>hb) (fun d p r h0 h1 hr ih b hb hh=>?_) (fun d p k r h0 h1 hne hk hr ihk ihr b hb hh=>?_) h
 ·refine ⟨?_,ih b hb hh⟩
  cases r with
  | nil =>
   cases b with
   | nil=>exact h1
   | cons q b =>
    refine ⟨(fun hf=>by rw [h1] at hf;cases hf),fun _=>?_⟩
    have:=hh q rfl
    omega
  | cons q r =>
   refine ⟨(fun hf=>by rw [h1] at hf;cases hf),fun _=>?_⟩
   have:=hr.depth.2 q rfl
   omega
 ·rw [List.cons_append,List.append_assoc]
  have hd : ∀ q,(r ++ b).head? = some q → q.f0 ≤ d:=by
   intro q hq
   cases r with
   | nil=>exact hh q hq
   | cons q' r =>
    obtain rfl : q' = q:=by simpa using hq
    have:=hr.depth.2 q' rfl
    omega
  refine ⟨?_,ihk (r ++ b) (ihr b hb hh) (fun q hq=>by have:=hd q hq;omega)⟩
  cases k with
  | nil=>exact absurd rfl hne
  | cons q k =>
   refine ⟨fun _=>?_,(fun hf=>by rw [h1] at hf;cases hf)⟩
   have:=hk.depth.2 q rfl
   omega
def okE (t : List Cls) (p : Prt) : Prop:=(0 ≤ p.f3 ∧ p.f3 ≤ 99) ∧ (p.f1 = true → p.f2 = 0) ∧ (p.f1 = false → hasC t p.f2 = true)
def Tre (g : List Prt) : Prop:=∃ p r,g = p :: r ∧ p.f0 = 0 ∧ ((p.f1 = false ∧ r = []) ∨ (p.f1 = true ∧ r ≠ [] ∧ Fr 1 r))
theorem Tre_Fr {g : List Prt} (h : Tre g) : Fr 0 g:=by
 obtain ⟨p,r,rfl,h0,⟨h1,rfl⟩ | ⟨h1,h2,h3⟩⟩:=h
 ·exact Fr.leaf h0 h1 (Fr.nil 0)
 ·have:=Fr.node h0 h1 h2 h3 (Fr.nil 0)
  rwa [List.append_nil] at this
theorem getD_at {g : List Prt} {i : Nat} (hi : i < g.length) : g.getD i z47 = g[i]:=by simp [List.getD,hi]
theorem vG_chn {t : List Cls} {g : List Prt} (h : psG t g = true) : ∀ (d j : Nat),j + d = g.length → chn (g.drop j):=by
 intro d
 induction d with
 | zero=>intro j hj;rw [List.drop_eq_nil_of_le (by omega)];trivial
 | succ d ih =>
  intro j hj
  have hlt : j < g.length:=by omega
  rw [List.drop_eq_getElem_cons hlt]
  refine ⟨?_,ih (j + 1) (by omega)⟩
  have h1:=psG_at h j hlt
  rw [getD_at hlt] at h1
  unfold okP at h1
  rw [endG_below] at h1
  unfold belowB at h1
  rw [getD_at hlt] at h1
  simp only [Bool.and_eq_true] at h1
  have hb:=h1.2.2
  by_cases hn : j + 1 < g.length
  ·rw [List.drop_eq_getElem_cons hn]
   have h2:=psG_at h (j + 1) hn
   rw [getD_at hn] at h2
   unfold okP okUp at h2
   rw [if_neg (by omega),show j + 1 - 1 = j by omega,getD_at hlt] at h2
   simp only [Bool.and_eq_true,Bool.not_eq_true',decide_eq_false_iff_not,Bool.and_eq_false_iff,Bool.not_eq_false'] at h2
   rw [getD_at hn,decide_eq_true hn,Bool.true_and] at hb
   constructor
   ·intro hg
    rw [hg] at hb
    simp at hb
    have:=h2.2.1.1
    omega
   ·intro hg
    rcases h2.2.1.2 with h3 | h3
    ·omega
    ·rw [hg] at h3;cases h3
  ·rw [List.drop_eq_nil_of_le (by omega)]
   rw [decide_eq_false hn,Bool.false_and] at hb
   simpa using hb
theorem vG_tre {t : List Cls} {g : List Prt} (h : vG t g = true) : Tre g ∧ (∀ p ∈ g,okE t p ∧ 0 ≤ p.f0 ∧ p.f0 ≤ 5) ∧ g.length ≤ 16 ∧ vT t = true:=by
 obtain ⟨ht,h1,h2⟩:=vG_tree h
 unfold vG at h
 rw [Bool.and_eq_true] at h
 have hp:=h.1
 have hc:=vG_chn hp g.length 0 (by omega)
 rw [List.drop_zero] at hc
 have hat : ∀ j (hj : j < g.length),okE t g[j] ∧ (0 ≤ g[j].f0 ∧ g[j].f0 ≤ 5) ∧ (g[j].f0 = 0 ↔ j = 0):=by
  intro j hj
  have h3:=psG_at hp j hj
  rw [getD_at hj] at h3
  unfold okP okP1 at h3
  simp only [Bool.and_eq_true,decide_eq_true_eq] at h3
  obtain ⟨⟨a,b,c,d,e⟩,_⟩:=h3
  refine ⟨⟨a,fun hg=>?_,fun hg=>?_⟩,b,?_⟩
  ·rw [hg] at c;simpa using c
  ·rw [hg] at d;simpa using d
  ·have e2 : ((g[j].f0 == 0) = true) = (((j : Int) == 0) = true):=by rw [beq_iff_eq.1 e]
   rw [beq_iff_eq,beq_iff_eq] at e2
   have:=e2 ▸ Iff.rfl (a:=g[j].f0 = 0)
   constructor
   ·intro h0;have:=e2.mp h0;omega
   ·intro h0;exact e2.mpr (by omega)
 refine ⟨?_,fun p hm=>?_,h2,ht⟩
 ·cases g with
  | nil=>simp at h1
  | cons p r =>
   have h0:=hat 0 (by simp)
   refine ⟨p,r,rfl,h0.2.2.2 rfl,?_⟩
   have hd : ∀ q ∈ r,1 ≤ q.f0:=by
    intro q hq
    obtain ⟨i,hi,rfl⟩:=List.getElem_of_mem hq
    have:=hat (i + 1) (by simp;omega)
    simp only [List.getElem_cons_succ] at this
    have h3:=this.2.2
    have h4:=this.2.1.1
    omega
   have hp0 : p.f0 = 0:=h0.2.2.2 rfl
   cases hg : p.f1 with
   | false =>
    left
    refine ⟨rfl,?_⟩
    cases r with
    | nil=>rfl
    | cons q r =>
     have h5:=hc.1.2 hg
     have:=hd q (by simp)
     omega
   | true =>
    right
    cases r with
    | nil=>have : p.f1 = false:=hc.1;rw [hg] at this;cases this
    | cons q r =>
     refine ⟨rfl,by simp,?_⟩
     have h5:=hc.1.1 hg
     have:=chn_Fr _ (q :: r) 1 (Nat.le_refl _) hc.2 (fun x hx=>by
      obtain rfl : q = x:=by simpa using hx
      omega)
     rwa [tw_all (fun x hx=>by simpa using hd x hx)] at this
 ·obtain ⟨i,hi,rfl⟩:=List.getElem_of_mem hm
  have:=hat i hi
  exact ⟨this.1,this.2.1⟩
theorem chn_at : ∀ (g : List Prt) (i : Nat) (_ : chn g) (hi : i < g.length),(∀ hn : i + 1 < g.length,(g[i].f1 = true → g[i + 1].f0 = g[i].f0 + 1) ∧ (g[i].f1 = false → g[i + 1].f0 ≤ g[i].f0)) ∧ (i + 1 = g.length → g[i].f1 = false):=by
 intro g
 induction g with
 | nil=>intro i _ hi;simp at hi
 | cons p r ih =>
  intro i hc hi
  cases i with
  | zero =>
   cases r with
   | nil=>exact ⟨fun hn=>by simp at hn,fun _=>hc.1⟩
   | cons q r=>exact ⟨fun _=>hc.1,fun he=>by simp at he⟩
  | succ i =>
   have:=ih i hc.2 (by simpa using hi)
   simp only [List.getElem_cons_succ,List.length_cons]
   exact ⟨fun hn=>this.1 (by omega),fun he=>this.2 (by omega)⟩
theorem vG_mk {t : List Cls} {g : List Prt} (hT : Tre g) (he : ∀ p ∈ g,okE t p ∧ p.f0 ≤ 5) (hl : g.length ≤ 16) (ht : vT t = true) : vG t g = true:=by
 have hF:=Tre_Fr hT
 have hc:=Fr_chn hF [] trivial (fun q hq=>by simp at hq)
 rw [List.append_nil] at hc
 have hz : ∀ j (hj : j < g.length),0 ≤ g[j].f0 ∧ (g[j].f0 = 0 ↔ j = 0):=by
  obtain ⟨p,r,rfl,h0,h⟩:=hT
  intro j hj
  cases j with
  | zero=>exact ⟨by simpa using Int.le_of_eq h0.symm,by simpa using h0⟩
  | succ j =>
   rcases h with ⟨_,rfl⟩ | ⟨_,_,hr⟩
   ·simp at hj
   ·have:=hr.depth.1 (r[j]'(by simpa using hj)) (List.getElem_mem _)
    simp only [List.getElem_cons_succ]
    omega
 unfold vG
 rw [ht,decide_eq_true hl,decide_eq_true (show 1 ≤ g.length by obtain ⟨p,r,rfl,_⟩:=hT;simp)]
 rw [Bool.true_and,Bool.and_true,Bool.and_true]
 refine psG_of (fun j hj=>?_)
 have h1:=he g[j] (List.getElem_mem _)
 have h2:=hz j hj
 have h3:=chn_at g j hc hj
 rw [getD_at hj]
 unfold okP okP1
 rw [endG_below]
 unfold belowB
 rw [getD_at hj]
 obtain ⟨⟨⟨a1,a2⟩,a3,a4⟩,a5⟩:=h1
 have e0 : ((g[j].f0 == 0) == ((j : Int) == 0)) = true:=by
  rw [beq_iff_eq]
  by_cases e : j = 0
  ·rw [h2.2.2 e,e];rfl
  ·rw [beq_eq_false_iff_ne.2 (fun hh=>e (h2.2.1 hh)),beq_eq_false_iff_ne.2 (by omega)]
 have e1 : (g[j].f1 && !(g[j].f2 == 0)) = false:=by
  cases hg : g[j].f1 with
  | false=>rfl
  | true=>rw [a3 hg];rfl
 have e2 : (!g[j].f1 && !hasC t g[j].f2) = false:=by
  cases hg : g[j].f1 with
  | true=>rfl
  | false=>rw [a4 hg];rfl
 rw [e0,e1,e2,decide_eq_true a1,decide_eq_true a2,decide_eq_true h2.1,decide_eq_true a5]
 simp only [Bool.and_self,Bool.not_false,Bool.true_and,Bool.and_eq_true]
 constructor
 ·by_cases e : j = 0
  ·rw [if_pos e]
  ·rw [if_neg e]
   obtain ⟨i,rfl⟩ : ∃ i,j = i + 1:=⟨j - 1,by omega⟩
   have h4:=(chn_at g i hc (by omega)).1 hj
   rw [show i + 1 - 1 = i by omega,getD_at (show i < g.length by omega)]
   unfold okUp
   cases hg : g[i].f1 with
   | true =>
    have:=h4.1 hg
    simp
    omega
   | false =>
    have:=h4.2 hg
    simp
    omega
 ·cases hg : g[j].f1 with
  | false=>rfl
  | true =>
   by_cases hn : j + 1 < g.length
   ·have:=(h3.1 hn).1 hg
    rw [decide_eq_true hn,getD_at hn,decide_eq_true (by omega)]
    rfl
   ·have:=h3.2 (by omega)
    rw [hg] at this
    cases this
end Go.Proofs.Ytfphcdbnnienhaa.P
namespace Go.Proofs.Ytfphcdbnnienhaa.P
open Go.RowKit Go.Proofs.YtfphcdbnnienhaaW.PrintWords Go.Proofs.YtfphcdbnnienhaaW.PrintLast Go.Proofs.YtfphcdbnnienhaaW.PrintMore
attribute [local go_sem] max2_int min2_int max_two min_two max_three min_three max_four min_four
set_option linter.unusedVariables false
set_option linter.unusedSimpArgs false
def lfQ (P : Prt → Bool) (q : Prt) : Bool:=!q.f1 && P q
def belw (p : Prt) (r : List Prt) : List Prt:=r.takeWhile (fun q=>decide (p.f0 < q.f0))
def selR (P : Prt → Bool) : List Prt → List Prt
 | []=>[]
 | p :: r=>(if (lfQ P p || (belw p r).any (lfQ P)) = true then [p] else []) ++ selR P r
theorem take_tw {α : Type} (p : α → Bool) : ∀ l : List α,l.take (l.takeWhile p).length = l.takeWhile p:=by
 intro l
 induction l with
 | nil=>rfl
 | cons x l ih =>
  rw [List.takeWhile_cons]
  split
  ·rw [List.length_cons,List.take_succ_cons,ih]
  ·rfl
theorem keepW_at (P : Prt → Bool) (g : List Prt) (i : Nat) (hi : i < g.length) : keepW P g i = (lfQ P g[i] || (belw g[i] (g.drop (i + 1))).any (lfQ P)):=by
 unfold keepW endG belw
 have e : g.getD i z47 = g[i]:=by simp [List.getD,hi]
 rw [e,List.drop_eq_getElem_cons hi]
 rw [show i + 1 + ((g.drop (i + 1)).takeWhile (fun q=>decide (g[i].f0 < q.f0))).length - i = ((g.drop (i + 1)).takeWhile (fun q=>decide (g[i].f0 < q.f0))).length + 1 by omega]
 rw [List.take_succ_cons,List.any_cons]
 have e2:=take_tw (fun q : Prt=>decide (g[i].f0 < q.f0)) (g.drop (i + 1))
 rw [e2]
 rfl
theorem selW_selR (P : Prt → Bool) (g : List Prt) : selW P g g.length = selR P g:=by
 have key : ∀ d j,j + d = g.length → selW P g j ++ selR P (g.drop j) = selW P g g.length:=by
  intro d
  induction d with
  | zero =>
   intro j hj
   have e : j = g.length:=by omega
   rw [e,List.drop_length]
   simp [selR]
  | succ d ih =>
   intro j hj
   have hlt : j < g.length:=by omega
   rw [← ih (j + 1) (by omega),selW_succ,List.drop_eq_getElem_cons hlt,selR,keepW_at P g j hlt,List.append_assoc]
   have e : g.getD j z47 = g[j]:=by simp [List.getD,hlt]
   rw [e]
 have:=key g.length 0 (by omega)
 rw [← this]
 simp [selW]
theorem selR_sub (P : Prt → Bool) : ∀ l : List Prt,(selR P l).Sublist l:=by
 intro l
 induction l with
 | nil=>exact List.Sublist.refl _
 | cons p r ih =>
  rw [selR]
  split
  ·exact ih.cons_cons p
  ·exact ih.cons p
theorem selR_none (P : Prt → Bool) : ∀ l : List Prt,l.any (lfQ P) = false → selR P l = []:=by
 intro l
 induction l with
 | nil=>intro _;rfl
 | cons p r ih =>
  intro h
  rw [List.any_cons,Bool.or_eq_false_iff] at h
  have hb : (belw p r).any (lfQ P) = false:=by
   rw [List.any_eq_false] at h ⊢
   exact fun x hx=>h.2 x ((List.takeWhile_sublist _).subset hx)
  rw [selR,h.1,hb,ih h.2]
  rfl
theorem selR_some (P : Prt → Bool) : ∀ l : List Prt,l.any (lfQ P) = true → selR P l ≠ []:=by
 intro l
 induction l with
 | nil=>intro h;simp at h
 | cons p r ih =>
  intro h
  rw [selR]
  cases hp : lfQ P p with
  | true=>simp
  | false =>
   rw [List.any_cons,hp,Bool.false_or] at h
   have:=ih h
   intro he
   exact this (List.append_eq_nil_iff.1 he).2
theorem belw_stop {q : Prt} : ∀ (k r : List Prt),(∀ h,r.head? = some h → h.f0 ≤ q.f0) → belw q (k ++ r) = belw q k:=by
 intro k
 induction k with
 | nil =>
  intro r hr
  cases r with
  | nil=>rfl
  | cons h r =>
   have:=hr h rfl
   unfold belw
   rw [List.nil_append,List.takeWhile_cons,if_neg (by simp;omega)]
   rfl
 | cons x k ih =>
  intro r hr
  unfold belw at ih ⊢
  rw [List.cons_append,List.takeWhile_cons,List.takeWhile_cons,ih r hr]
theorem selR_append (P : Prt → Bool) : ∀ (k r : List Prt),(∀ q ∈ k,∀ h,r.head? = some h → h.f0 ≤ q.f0) → selR P (k ++ r) = selR P k ++ selR P r:=by
 intro k
 induction k with
 | nil=>intro r _;rfl
 | cons p k ih =>
  intro r hr
  rw [List.cons_append,selR,selR,ih r (fun q hq=>hr q (by simp [hq])),belw_stop k r (hr p (by simp)),List.append_assoc]
theorem selR_leaf (P : Prt → Bool) {d : Int} {p : Prt} {r : List Prt} (h0 : p.f0 = d) (hr : Fr d r) : selR P (p :: r) = (if lfQ P p = true then [p] else []) ++ selR P r:=by
 have hb : belw p r = []:=by
  have:=belw_stop (q:=p) [] r (fun h hh=>by have:=hr.depth.2 h hh;omega)
  exact this
 rw [selR,hb,List.any_nil,Bool.or_false]
theorem selR_node (P : Prt → Bool) {d : Int} {p : Prt} {k r : List Prt} (h0 : p.f0 = d) (h1 : p.f1 = true) (hk : Fr (d + 1) k) (hr : Fr d r) : selR P (p :: (k ++ r)) = (if k.any (lfQ P) = true then p :: selR P k else []) ++ selR P r:=by
 have hb : belw p (k ++ r) = k:=by
  rw [belw_stop (q:=p) k r (fun h hh=>by have:=hr.depth.2 h hh;omega)]
  unfold belw
  exact tw_all (fun x hx=>by have:=hk.depth.1 x hx;simp;omega)
 have hl : lfQ P p = false:=by unfold lfQ;rw [h1];rfl
 rw [selR,hb,hl,Bool.false_or,selR_append P k r (fun q hq h hh=>by have:=hr.depth.2 h hh;have:=hk.depth.1 q hq;omega)]
 cases hc : k.any (lfQ P) with
 | true=>rfl
 | false=>rw [selR_none P k hc];rfl
theorem selR_Fr (P : Prt → Bool) {d : Int} {l : List Prt} (h : Fr d l) : Fr d (selR P l):=by
 refine Fr.rec2 (P:=fun d l=>Fr d (selR P l)) (fun d=>Fr.nil d) (fun d p r h0 h1 hr ih=>?_) (fun d p k r h0 h1 hne hk hr ihk ihr=>?_) h
 ·rw [selR_leaf P h0 hr]
  split
  ·exact Fr.leaf h0 h1 ih
  ·exact ih
 ·rw [selR_node P h0 h1 hk hr]
  cases hc : k.any (lfQ P) with
  | true=>exact Fr.node h0 h1 (selR_some P k hc) ihk ihr
  | false=>exact ihr
theorem selR_leaves (P : Prt → Bool) {d : Int} {l : List Prt} (h : Fr d l) : (selR P l).filter (fun q=>!q.f1) = (l.filter (fun q=>!q.f1)).filter P:=by
 refine Fr.rec2 (P:=fun d l=>(selR P l).filter (fun q=>!q.f1) = (l.filter (fun q=>!q.f1)).filter P) (fun d=>rfl) (fun d p r h0 h1 hr ih=>?_) (fun d p k r h0 h1 hne hk hr ihk ihr=>?_) h
 ·have e1 : (p :: r).filter (fun q=>!q.f1) = p :: r.filter (fun q=>!q.f1):=by rw [List.filter_cons,h1];rfl
  rw [selR_leaf P h0 hr,List.filter_append,ih,e1,List.filter_cons]
  unfold lfQ
  rw [h1]
  cases hP : P p with
  | true=>simp [h1]
  | false=>simp
 ·have e1 : ∀ s : List Prt,(p :: s).filter (fun q=>!q.f1) = s.filter (fun q=>!q.f1):=fun s=>by rw [List.filter_cons,h1];rfl
  rw [selR_node P h0 h1 hk hr,List.filter_append,ihr,e1,List.filter_append,List.filter_append]
  congr 1
  cases hc : k.any (lfQ P) with
  | true=>rw [if_pos rfl,e1,ihk]
  | false =>
   have:=ihk
   rw [selR_none P k hc] at this
   exact this
theorem any_leaves (P : Prt → Bool) (l : List Prt) : l.any (lfQ P) = (l.filter (fun q=>!q.f1)).any P:=by
 rw [List.any_filter]
 rfl
theorem selR_any (P Q : Prt → Bool) {d : Int} {l : List Prt} (h : Fr d l) : (selR P l).any (lfQ Q) = l.any (lfQ (fun q=>P q && Q q)):=by
 rw [any_leaves,any_leaves,selR_leaves P h,List.any_filter]
theorem selR_selR (P Q : Prt → Bool) {d : Int} {l : List Prt} (h : Fr d l) : selR Q (selR P l) = selR (fun q=>P q && Q q) l:=by
 refine Fr.rec2 (P:=fun d l=>selR Q (selR P l) = selR (fun q=>P q && Q q) l) (fun d=>rfl) (fun d p r h0 h1 hr ih=>?_) (fun d p k r h0 h1 hne hk hr ihk ihr=>?_) h
 ·rw [selR_leaf P h0 hr,selR_leaf (fun q=>P q && Q q) h0 hr,← ih]
  have hr2:=selR_Fr P hr
  unfold lfQ
  rw [h1]
  cases hP : P p with
  | false=>simp [hP]
  | true =>
   simp only [Bool.not_false,Bool.true_and,if_true,List.singleton_append]
   rw [selR_leaf Q h0 hr2]
   unfold lfQ
   rw [h1,hP]
   rfl
 ·rw [selR_node P h0 h1 hk hr,selR_node (fun q=>P q && Q q) h0 h1 hk hr,← ihr,← ihk,← selR_any P Q hk]
  have hr2:=selR_Fr P hr
  have hk2:=selR_Fr P hk
  cases hc : k.any (lfQ P) with
  | true =>
   rw [if_pos rfl,List.cons_append,selR_node Q h0 h1 hk2 hr2]
  | false =>
   rw [selR_none P k hc]
   rfl
theorem selR_all (P : Prt → Bool) {d : Int} {l : List Prt} (h : Fr d l) (hP : ∀ q ∈ l,q.f1 = false → P q = true) : selR P l = l:=by
 refine Fr.rec2 (P:=fun d l=>(∀ q ∈ l,q.f1 = false → P q = true) → selR P l = l ∧ (l ≠ [] → l.any (lfQ P) = true)) (fun d _=>⟨rfl,fun h=>absurd rfl h⟩) (fun d p r h0 h1 hr ih hq=>?_) (fun d p k r h0 h1 hne hk hr ihk ihr hq=>?_) h hP |>.1
 ·have hp:=hq p (by simp) h1
  have hl : lfQ P p = true:=by unfold lfQ;rw [h1,hp];rfl
  rw [selR_leaf P h0 hr,hl,if_pos rfl,(ih (fun q hh=>hq q (by simp [hh]))).1]
  exact ⟨rfl,fun _=>by rw [List.any_cons,hl];rfl⟩
 ·have hk3:=ihk (fun q hh=>hq q (by simp [hh]))
  rw [selR_node P h0 h1 hk hr,hk3.2 hne,if_pos rfl,hk3.1,(ihr (fun q hh=>hq q (by simp [hh]))).1]
  exact ⟨rfl,fun _=>by rw [List.any_cons,List.any_append,hk3.2 hne];simp⟩
theorem selR_Tre (P : Prt → Bool) {g : List Prt} (hT : Tre g) (hne : selR P g ≠ []) : Tre (selR P g) ∧ (selR P g).head? = g.head?:=by
 obtain ⟨p,r,rfl,h0,⟨h1,rfl⟩ | ⟨h1,h2,h3⟩⟩:=hT
 ·have e:=selR_leaf P h0 (Fr.nil 0)
  rw [e] at hne ⊢
  cases hl : lfQ P p with
  | false=>rw [hl] at hne;exact absurd rfl hne
  | true=>exact ⟨⟨p,[],rfl,h0,Or.inl ⟨h1,rfl⟩⟩,rfl⟩
 ·have e:=selR_node P h0 h1 h3 (Fr.nil 0)
  rw [List.append_nil] at e
  rw [e] at hne ⊢
  cases hc : r.any (lfQ P) with
  | false=>rw [hc] at hne;exact absurd rfl hne
  | true =>
   rw [if_pos rfl]
   refine ⟨⟨p,selR P r,by simp [selR],h0,Or.inr ⟨h1,selR_some P r hc,selR_Fr P h3⟩⟩,rfl⟩
theorem vG_sel {t : List Cls} {g : List Prt} (hv : vG t g = true) (P : Prt → Bool) (hne : selR P g ≠ []) : vG t (selR P g) = true:=by
 obtain ⟨hT,he,hl,ht⟩:=vG_tre hv
 have hs:=selR_sub P g
 exact vG_mk (selR_Tre P hT hne).1 (fun p hp=>⟨(he p (hs.subset hp)).1,(he p (hs.subset hp)).2.2⟩) (Nat.le_trans hs.length_le hl) ht
end Go.Proofs.Ytfphcdbnnienhaa.P
namespace Go.Proofs.Ytfphcdbnnienhaa.P
open Go.RowKit Go.Proofs.YtfphcdbnnienhaaW.PrintWords Go.Proofs.YtfphcdbnnienhaaW.PrintLast Go.Proofs.YtfphcdbnnienhaaW.PrintMore
attribute [local go_sem] max2_int min2_int max_two min_two max_three min_three max_four min_four
set_option linter.unusedVariables false
set_option linter.unusedSimpArgs false
def d1P (p : Prt) : Prt:=⟨1,p.f1,p.f2,p.f3⟩
def flt (l : List Prt) : List Prt:=(l.filter (fun p=>!p.f1)).map d1P
theorem flt_cons (p : Prt) (l : List Prt) : flt (p :: l) = (if p.f1 = true then [] else [d1P p]) ++ flt l:=by
 unfold flt
 rw [List.filter_cons]
 cases p.f1 <;> rfl
theorem flt_len (l : List Prt) : (flt l).length ≤ l.length:=by
 unfold flt
 rw [List.length_map]
 exact List.length_filter_le _ _
def flatP (t : List Cls) (g : List Prt) : List Prt:=if vG t g = true then g.take 1 ++ flt (g.drop 1) else []
theorem flatP_len (t : List Cls) (g : List Prt) : (flatP t g).length ≤ g.length:=by
 unfold flatP
 split
 ·have:=flt_len (g.drop 1)
  rw [List.length_append,List.length_take]
  rw [List.length_drop] at this
  omega
 ·simp
theorem vG_alone {t : List Cls} {g : List Prt} (h : vG t g = true) (h0 : (g.getD 0 z47).f1 = false) : g.length = 1:=by
 apply Classical.byContradiction
 intro hn
 have hl:=(vG_tree h).2.1
 unfold vG at h
 rw [Bool.and_eq_true] at h
 have h1:=psG_at h.1 1 (by omega)
 have h2:=psG_at h.1 0 (by omega)
 unfold okP okP1 at h1 h2
 simp only [Bool.and_eq_true] at h1 h2
 have hz:=h2.1.2.2.2.2
 have hy:=h1.1.2.2.2.2
 have hb:=h1.1.2.1.1
 have hu:=h1.2.1
 simp at hz hy hb hu
 unfold okUp at hu
 rw [← List.getD_eq_getElem?_getD,← List.getD_eq_getElem?_getD] at hu
 rw [← List.getD_eq_getElem?_getD] at hz hy hb
 rw [h0] at hu
 simp at hu
 rw [← List.getD_eq_getElem?_getD,← List.getD_eq_getElem?_getD] at hu
 omega
end Go.Proofs.Ytfphcdbnnienhaa.P
namespace Go.Proofs.Ytfphcdbnnienhaa.P
open Go.RowKit Go.Proofs.YtfphcdbnnienhaaW.PrintWords Go.Proofs.YtfphcdbnnienhaaW.PrintLast Go.Proofs.YtfphcdbnnienhaaW.PrintMore
attribute [local go_sem] max2_int min2_int max_two min_two max_three min_three max_four min_four
set_option linter.unusedVariables false
set_option linter.unusedSimpArgs false
theorem lfs_sel (t : List Cls) (a : Int) (yes : Bool) {g : List Prt} (h : Fr 0 g) : lfs (selR (fun q=>isA t q.f2 a == yes) g) = (lfs g).filter (fun x=>isA t x.f0 a == yes):=by
 unfold lfs
 rw [selR_leaves _ h,List.filter_map]
 rfl
theorem selN_selR (t : List Cls) (g : List Prt) (a : Int) (yes : Bool) : selN t g a yes g.length = selR (fun q=>isA t q.f2 a == yes) g:=by
 rw [← selW_selN,selW_selR]
theorem vG_nil (t : List Cls) : vG t [] = false:=by
 cases h : vG t [] with
 | false=>rfl
 | true=>have:=vG_tree h;simp at this
theorem leavesP_sel {t : List Cls} {g : List Prt} (hv : vG t g = true) (P : Prt → Bool) : leavesP t (selR P g) = lfs (selR P g):=by
 unfold leavesP
 by_cases hn : selR P g = []
 ·rw [hn,vG_nil,if_neg (by simp)]
  rfl
 ·rw [if_pos (vG_sel hv P hn)]
theorem leavesP_ok {t : List Cls} {g : List Prt} (hv : vG t g = true) : leavesP t g = lfs g:=by unfold leavesP;rw [if_pos hv]
theorem Fr_leaf {d : Int} {l : List Prt} (h : Fr d l) : l ≠ [] → ∃ q ∈ l,q.f1 = false:=by
 refine Fr.rec2 (P:=fun d l=>l ≠ [] → ∃ q ∈ l,q.f1 = false) (fun d hn=>absurd rfl hn) (fun d p r h0 h1 _ _ _=>⟨p,by simp,h1⟩) (fun d p k r h0 h1 hne _ _ ihk _ _=>?_) h
 obtain ⟨q,hq,h2⟩:=ihk hne
 exact ⟨q,by simp [hq],h2⟩
theorem vG_leafy {t : List Cls} {g : List Prt} (hv : vG t g = true) : ∃ q ∈ g,q.f1 = false:=by
 refine Fr_leaf (Tre_Fr (vG_tre hv).1) ?_
 obtain ⟨p,r,rfl,_⟩:=(vG_tre hv).1
 simp
def flatL (g : List Prt) : List Prt:=g.take 1 ++ flt (g.drop 1)
theorem flatP_ok {t : List Cls} {g : List Prt} (hv : vG t g = true) : flatP t g = flatL g:=by unfold flatP flatL;rw [if_pos hv]
theorem flt_all (l : List Prt) : ∀ q ∈ flt l,q.f1 = false ∧ q.f0 = 1:=by
 intro q hq
 unfold flt at hq
 obtain ⟨x,hx,rfl⟩:=List.mem_map.1 hq
 have:=(List.mem_filter.1 hx).2
 exact ⟨by simpa [d1P] using this,rfl⟩
theorem Fr_flat {d : Int} : ∀ l : List Prt,(∀ q ∈ l,q.f1 = false ∧ q.f0 = d) → Fr d l:=by
 intro l
 induction l with
 | nil=>intro _;exact Fr.nil d
 | cons p l ih=>intro h;exact Fr.leaf (h p (by simp)).2 (h p (by simp)).1 (ih (fun q hq=>h q (by simp [hq])))
theorem flt_ne {d : Int} {l : List Prt} (h : Fr d l) (hn : l ≠ []) : flt l ≠ []:=by
 obtain ⟨q,hq,h1⟩:=Fr_leaf h hn
 intro he
 unfold flt at he
 rw [List.map_eq_nil_iff] at he
 have : q ∈ l.filter (fun p=>!p.f1):=List.mem_filter.2 ⟨hq,by rw [h1];rfl⟩
 rw [he] at this
 simp at this
theorem flatL_Tre {g : List Prt} (hT : Tre g) : Tre (flatL g):=by
 obtain ⟨p,r,rfl,h0,⟨h1,rfl⟩ | ⟨h1,h2,h3⟩⟩:=hT
 ·exact ⟨p,[],rfl,h0,Or.inl ⟨h1,rfl⟩⟩
 ·exact ⟨p,flt r,rfl,h0,Or.inr ⟨h1,flt_ne h3 h2,Fr_flat _ (flt_all r)⟩⟩
theorem flatL_len (g : List Prt) : (flatL g).length ≤ g.length:=by
 have:=flt_len (g.drop 1)
 unfold flatL
 rw [List.length_append,List.length_take]
 rw [List.length_drop] at this
 omega
theorem flatL_mem {t : List Cls} {g : List Prt} (he : ∀ p ∈ g,okE t p ∧ 0 ≤ p.f0 ∧ p.f0 ≤ 5) : ∀ p ∈ flatL g,okE t p ∧ p.f0 ≤ 5:=by
 intro p hp
 unfold flatL at hp
 rcases List.mem_append.1 hp with hp | hp
 ·have:=he p (List.mem_of_mem_take hp)
  exact ⟨this.1,this.2.2⟩
 ·unfold flt at hp
  obtain ⟨x,hx,rfl⟩:=List.mem_map.1 hp
  have:=he x (List.mem_of_mem_drop (List.mem_filter.1 hx).1)
  exact ⟨this.1,by show (1 : Int) ≤ 5;omega⟩
theorem vG_flat {t : List Cls} {g : List Prt} (hv : vG t g = true) : vG t (flatL g) = true:=by
 obtain ⟨hT,he,hl,ht⟩:=vG_tre hv
 exact vG_mk (flatL_Tre hT) (flatL_mem he) (Nat.le_trans (flatL_len g) hl) ht
theorem lfs_flt (l : List Prt) : lfs (flt l) = lfs l:=by
 unfold lfs
 rw [List.filter_eq_self.2 (fun q hq=>by rw [(flt_all l q hq).1];rfl)]
 unfold flt
 rw [List.map_map]
 rfl
theorem lfs_append (a b : List Prt) : lfs (a ++ b) = lfs a ++ lfs b:=by unfold lfs;rw [List.filter_append,List.map_append]
theorem lfs_flat (g : List Prt) : lfs (flatL g) = lfs g:=by
 unfold flatL
 rw [lfs_append,lfs_flt,← lfs_append,List.take_append_drop]
theorem flt_flt (l : List Prt) : flt (flt l) = flt l:=by
 conv=>lhs;unfold flt
 rw [List.filter_eq_self.2 (fun q hq=>by rw [(flt_all l q hq).1];rfl)]
 conv=>rhs;rw [← List.map_id (flt l)]
 refine List.map_congr_left (fun q hq=>?_)
 have:=(flt_all l q hq).2
 cases q
 simp only at this
 simp [d1P,this]
theorem flatL_flatL (g : List Prt) : flatL (flatL g) = flatL g:=by
 cases g with
 | nil=>rfl
 | cons p r =>
  show [p] ++ flt (flt r) = [p] ++ flt r
  rw [flt_flt]
theorem flatL_depth {t : List Cls} {g : List Prt} (hv : vG t g = true) : ∀ p ∈ flatL g,p.f0 ≤ 1:=by
 obtain ⟨p,r,rfl,h0,_⟩:=(vG_tre hv).1
 intro q hq
 have hq2 : q = p ∨ q ∈ flt r:=by simpa [flatL] using hq
 rcases hq2 with rfl | hq
 ·omega
 ·have:=(flt_all r q hq).2;omega
theorem selR_filter (P : Prt → Bool) {d : Int} : ∀ l : List Prt,(∀ q ∈ l,q.f1 = false ∧ q.f0 = d) → selR P l = l.filter P:=by
 intro l
 induction l with
 | nil=>intro _;rfl
 | cons p l ih =>
  intro h
  have hp:=h p (by simp)
  rw [selR_leaf P hp.2 (Fr_flat l (fun q hq=>h q (by simp [hq]))),ih (fun q hq=>h q (by simp [hq])),List.filter_cons]
  unfold lfQ
  rw [hp.1]
  cases P p <;> rfl
theorem flt_sel (P : Prt → Bool) (hP : ∀ q,P (d1P q) = P q) {d : Int} {l : List Prt} (h : Fr d l) : selR P (flt l) = flt (selR P l):=by
 rw [selR_filter P (flt l) (flt_all l)]
 unfold flt
 rw [selR_leaves P h,List.filter_map]
 congr 1
 refine List.filter_congr (fun q _=>hP q)
theorem flat_sel (P : Prt → Bool) (hP : ∀ q,P (d1P q) = P q) {g : List Prt} (hT : Tre g) : selR P (flatL g) = flatL (selR P g):=by
 obtain ⟨p,r,rfl,h0,⟨h1,rfl⟩ | ⟨h1,h2,h3⟩⟩:=hT
 ·have e : flatL [p] = [p]:=rfl
  rw [e,selR_leaf P h0 (Fr.nil 0)]
  cases lfQ P p <;> rfl
 ·have e1 : flatL (p :: r) = p :: flt r:=rfl
  have e2:=selR_node P h0 h1 h3 (Fr.nil 0)
  have e3:=selR_node P h0 h1 (Fr_flat (flt r) (fun q hq=>flt_all r q hq)) (Fr.nil 0)
  rw [List.append_nil] at e2 e3
  rw [e1,e2,e3,flt_sel P hP h3]
  have e4 : (flt r).any (lfQ P) = r.any (lfQ P):=by
   rw [any_leaves,any_leaves,List.filter_eq_self.2 (fun q hq=>by rw [(flt_all r q hq).1];rfl)]
   unfold flt
   rw [List.any_map]
   congr 1
   funext q
   exact hP q
  rw [e4]
  cases r.any (lfQ P) with
  | false=>rfl
  | true=>simp [flatL,selR]
def mxd (g : List Prt) : Int:=g.foldl (fun m p=>max m p.f0) 0
theorem fold_le (c : Int) : ∀ (g : List Prt) (m : Int),m ≤ c → (∀ p ∈ g,p.f0 ≤ c) → g.foldl (fun m p=>max m p.f0) m ≤ c:=by
 intro g
 induction g with
 | nil=>intro m h _;exact h
 | cons p g ih =>
  intro m h hp
  have h1:=hp p (by simp)
  exact ih _ (show max m p.f0 ≤ c by omega) (fun q hq=>hp q (by simp [hq]))
theorem fold_ge : ∀ (g : List Prt) (m : Int),m ≤ g.foldl (fun m p=>max m p.f0) m ∧ ∀ p ∈ g,p.f0 ≤ g.foldl (fun m p=>max m p.f0) m:=by
 intro g
 induction g with
 | nil=>intro m;exact ⟨Int.le_refl _,fun p hp=>absurd hp (by simp)⟩
 | cons q g ih =>
  intro m
  have:=ih (max m q.f0)
  refine ⟨by show m ≤ g.foldl _ (max m q.f0);omega,fun p hp=>?_⟩
  rcases List.mem_cons.1 hp with rfl | hp
  ·show p.f0 ≤ g.foldl _ (max m p.f0)
   omega
  ·exact this.2 p hp
theorem mxd_sub {a b : List Prt} (h : ∀ p ∈ a,p ∈ b) : mxd a ≤ mxd b:=fold_le _ a 0 (fold_ge b 0).1 (fun p hp=>(fold_ge b 0).2 p (h p hp))
theorem mxd_flat {t : List Cls} {g : List Prt} (hv : vG t g = true) : mxd (flatL g) ≤ 1:=fold_le _ _ 0 (by omega) (flatL_depth hv)
end Go.Proofs.Ytfphcdbnnienhaa.P
namespace Go.Proofs.Ytfphcdbnnienhaa.Pure
open Go.RowKit Go.Proofs.Ytfphcdbnnienhaa.P
open Go.Proofs.YtfphcdbnnienhaaW.PrintWords (rd rdOf wrap_succ wrap_pred wrap_in toL_beq idxP)
set_option linter.unusedVariables false
theorem FnSplitGroup : laws_FnSplitGroup.Pure:=by
 intro l0 _ _ hw
 refine Ev.out (F:=fun k=>laws_FnSplitGroup.f k l0) ?_
 unfold laws_FnSplitGroup.f
 by_cases hbig : (l0.length : Int) > 1048576
 ·exact Ev.pos hbig (Ev.const rfl)
 refine Ev.neg hbig ?_
 obtain ⟨t,g,a,hd,ht,hs,hg⟩:=spec_DrawSplitGroup_ev l0 hw
 have hI:=impl_SplitGroup_ev t g a hs (by omega)
 have hS : Ev (fun k=>spec_SplitGroup.f k t g a) (splitP t g a):=spec_SplitGroup_ev t g a hs (by omega) (by omega)
 have hV:=impl_ValidGroup_ev t g (by omega) (by omega) hs
 by_cases hc : (vG t g && hasC t a) = true
 ·have hr : splitP t g a = (selR (fun q=>isA t q.f2 a == true) g,selR (fun q=>isA t q.f2 a == false) g):=by
   unfold splitP
   rw [if_pos hc,selN_selR,selN_selR]
  rw [hr] at hI hS
  rw [Bool.and_eq_true] at hc
  obtain ⟨hv,ha⟩:=hc
  rw [hv] at hV
  have hT:=(vG_tree hv).1
  have hF:=Tre_Fr (vG_tre hv).1
  have l1:=(selR_sub (fun q=>isA t q.f2 a == true) g).length_le
  have l2:=(selR_sub (fun q=>isA t q.f2 a == false) g).length_le
  have hH:=laws_has_ev t a
  rw [ha] at hH
  refine Ev.bind hd (Ev.bind (Ev.const hI) (Ev.bind hS (Ev.bind (laws_equalGroup_ev _ (Nat.le_trans l1 (by omega))) (Ev.pos rfl (Ev.bind (laws_equalGroup_ev _ (Nat.le_trans l2 (by omega))) (Ev.pos rfl (Ev.bind hV (Ev.pos rfl (Ev.bind (Ev.const hH) (Ev.succ ?_))))))))))
  simp only [laws_FnSplitGroup.j0]
  refine Ev.neg (by simp) ?_
  have hL0:=impl_LeavesOf_ev t g (by omega) (by omega) hs
  rw [leavesP_ok hv] at hL0
  have hL1:=impl_LeavesOf_ev t (selR (fun q=>isA t q.f2 a == true) g) (by omega) (by omega) hs
  rw [leavesP_sel hv,lfs_sel t a true hF] at hL1
  have hL2:=impl_LeavesOf_ev t (selR (fun q=>isA t q.f2 a == false) g) (by omega) (by omega) hs
  rw [leavesP_sel hv,lfs_sel t a false hF] at hL2
  have hll:=lfs_len g
  have hcl : ∀ x ∈ lfs g,hasC t x.f0 = true:=by
   intro x hx
   unfold lfs at hx
   obtain ⟨q,hq,rfl⟩:=List.mem_map.1 hx
   obtain ⟨hq1,hq2⟩:=List.mem_filter.1 hq
   have:=vG_leaf hv q hq1 (by simpa using hq2)
   exact hasC_iff.2 this
  have hI2:=impl_SplitGroup_ev t (selR (fun q=>isA t q.f2 a == true) g) a hs (by omega)
  have hr2 : selR (fun q=>isA t q.f2 a == true) g ≠ [] → splitP t (selR (fun q=>isA t q.f2 a == true) g) a = (selR (fun q=>isA t q.f2 a == true) g,[]):=by
   intro hn
   unfold splitP
   rw [if_pos (by rw [vG_sel hv _ hn,ha];rfl),selN_selR,selN_selR,selR_selR _ _ hF,selR_selR _ _ hF]
   have ea : (fun q : Prt=>(isA t q.f2 a == true) && (isA t q.f2 a == true)) = fun q=>isA t q.f2 a == true:=by funext q;cases isA t q.f2 a <;> rfl
   have eb : (fun q : Prt=>(isA t q.f2 a == true) && (isA t q.f2 a == false)) = fun _=>false:=by funext q;cases isA t q.f2 a <;> rfl
   rw [ea,eb]
   congr 1
   refine selR_none _ _ ?_
   rw [List.any_eq_false]
   intro q _
   simp [lfQ]
  refine Ev.bind hL1 (Ev.bind hL2 (Ev.bind hL0 ?_))
  generalize selR (fun q=>isA t q.f2 a == true) g = m at l1 hI2 hr2
  have hcnt : ∀ (b : Bool) (c d : Int),cntL ((lfs g).filter (fun x=>isA t x.f0 a == b)) c d = if (isA t c a == b) = true then cntL (lfs g) c d else 0:=by
   intro b c d
   unfold cntL
   rw [List.filter_filter]
   by_cases hb : (isA t c a == b) = true
   ·rw [if_pos hb]
    congr 1
    refine List.filter_congr (fun x _=>?_)
    cases hx : (x.f0 == c) with
    | false=>simp
    | true =>
     have : x.f0 = c:=by simpa using hx
     rw [this,hb,Bool.and_true]
   ·rw [if_neg hb]
    rw [List.length_eq_zero_iff,List.filter_eq_nil_iff]
    intro x _
    cases hx : (x.f0 == c) with
    | false=>simp
    | true =>
     have : x.f0 = c:=by simpa using hx
     rw [this]
     simp [hb]
  have hf1:=List.length_filter_le (fun x : S43=>isA t x.f0 a == true) (lfs g)
  have hf2:=List.length_filter_le (fun x : S43=>isA t x.f0 a == false) (lfs g)
  have hsum : ((lfs g).filter (fun x=>isA t x.f0 a == true)).length + ((lfs g).filter (fun x=>isA t x.f0 a == false)).length = (lfs g).length:=by
   have gen : ∀ l : List S43,(l.filter (fun x=>isA t x.f0 a == true)).length + (l.filter (fun x=>isA t x.f0 a == false)).length = l.length:=by
    intro l
    induction l with
    | nil=>rfl
    | cons x l ih =>
     have e : ∀ b : Bool,(x :: l).filter (fun x=>isA t x.f0 a == b) = if (isA t x.f0 a == b) = true then x :: l.filter (fun x=>isA t x.f0 a == b) else l.filter (fun x=>isA t x.f0 a == b):=fun b=>List.filter_cons
     rw [e,e]
     cases isA t x.f0 a
     ·rw [if_neg (by simp),if_pos (by rfl),List.length_cons,List.length_cons];omega
     ·rw [if_pos (by rfl),if_neg (by simp),List.length_cons,List.length_cons];omega
   exact gen _
  have key : ∀ d j,j + d = (lfs g).length → Ev (fun k=>laws_FnSplitGroup.l0 k a m ((lfs g).filter (fun x=>isA t x.f0 a == true)) ((lfs g).filter (fun x=>isA t x.f0 a == false)) (lfs g) (j : Int) t) true:=by
   intro d
   induction d with
   | zero =>
    intro j hj
    refine Ev.succ ?_
    simp only [laws_FnSplitGroup.l0]
    refine Ev.neg (by omega) (Ev.bind (Ev.const hI2) (Ev.pos (by rw [wrap_in (by omega) (by omega)];omega) ?_))
    by_cases hz : (m.length : Int) = 0
    ·exact Ev.pos hz (Ev.const rfl)
    ·refine Ev.neg hz ?_
     rw [hr2 (fun hh=>hz (by rw [hh];rfl))]
     exact Ev.bind (laws_equalGroup_ev _ (Nat.le_trans l1 (by omega))) (Ev.pos rfl (Ev.const rfl))
   | succ d ih =>
    intro j hj
    refine Ev.succ ?_
    have hlt : j < (lfs g).length:=by omega
    have hr : rd_T43 (lfs g) (j : Int) = (lfs g)[j]:=by simp [rd_T43,hlt]
    simp only [laws_FnSplitGroup.l0,hr]
    rw [wrap_succ (i:=(j : Int)) (n:=(lfs g).length) (by omega) (by omega) (by omega)]
    have k1:=laws_count_ev ((lfs g).filter (fun x=>isA t x.f0 a == true)) (lfs g)[j].f0 (lfs g)[j].f1 (by omega)
    have k2:=laws_count_ev ((lfs g).filter (fun x=>isA t x.f0 a == false)) (lfs g)[j].f0 (lfs g)[j].f1 (by omega)
    have k0:=laws_count_ev (lfs g) (lfs g)[j].f0 (lfs g)[j].f1 (by omega)
    rw [hcnt] at k1 k2
    have kA:=impl_IsA_ev hT (lfs g)[j].f0 a (hcl _ (List.getElem_mem _)) ha
    have kp : 0 < cntL (lfs g) (lfs g)[j].f0 (lfs g)[j].f1:=by
     unfold cntL
     refine List.length_pos_of_mem (a:=(lfs g)[j]) (List.mem_filter.2 ⟨List.getElem_mem _,by simp⟩)
    have kl : cntL (lfs g) (lfs g)[j].f0 (lfs g)[j].f1 ≤ (lfs g).length:=List.length_filter_le _ _
    generalize cntL (lfs g) (lfs g)[j].f0 (lfs g)[j].f1 = N at k0 k1 k2 kp kl
    refine Ev.pos (by omega) (Ev.pos (by omega) (Ev.bind k1 (Ev.bind k2 (Ev.bind k0 (Ev.pos ?_ (Ev.bind k1 (Ev.bind kA (Ev.neg ?_ (ih (j + 1) (by omega))))))))))
    ·cases isA t (lfs g)[j].f0 a <;> simp <;> rw [wrap_in (by omega) (by omega)]
    ·cases isA t (lfs g)[j].f0 a <;> simp <;> omega
  exact key (lfs g).length 0 (by omega)
 ·have hr : splitP t g a = ([],[]):=by unfold splitP;rw [if_neg hc]
  rw [hr] at hI hS
  have no : Ev (fun k=>laws_FnSplitGroup.j0 k g a [] [] [] [] true t) true:=by
   refine Ev.succ ?_
   simp only [laws_FnSplitGroup.j0]
   exact Ev.pos trivial (Ev.bind (laws_equalGroup_ev _ (by simp)) (Ev.pos rfl (Ev.bind (laws_equalGroup_ev _ (by simp)) (Ev.const rfl))))
  refine Ev.bind hd (Ev.bind (Ev.const hI) (Ev.bind hS (Ev.bind (laws_equalGroup_ev _ (by simp)) (Ev.pos rfl (Ev.bind (laws_equalGroup_ev _ (by simp)) (Ev.pos rfl (Ev.bind hV ?_)))))))
  cases hv : vG t g with
  | false=>exact Ev.neg (by simp) no
  | true =>
   refine Ev.pos rfl (Ev.bind (Ev.const (laws_has_ev t a)) ?_)
   cases ha : hasC t a with
   | false=>exact no
   | true=>rw [hv,ha] at hc;exact absurd rfl hc
end Go.Proofs.Ytfphcdbnnienhaa.Pure
