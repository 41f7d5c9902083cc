/- Texts under the proof of FnSplitGroupShape: helper words, the functions' contracts and the plain laws. No condition. -/
import Derived.Test.YtfphcdbnnienhaaQFnSplitGroupShapea
import Derived.Test.YtfphcdbnnienhaaQFnSplitGroupShapeb
import Derived.Test.YtfphcdbnnienhaaQFnSplitGroupShapec
import Derived.Test.YtfphcdbnnienhaaQFnSplitGroupShaped
namespace Go.Proofs.Ytfphcdbnnienhaa.P
open Go.RowKit Go.Proofs.YtfphcdbnnienhaaW.PrintWords Go.Proofs.YtfphcdbnnienhaaW.PrintLast Go.Proofs.YtfphcdbnnienhaaW.PrintMore
attribute [local go_sem] max2_int min2_int max_two min_two max_three min_three max_four min_four
set_option linter.unusedVariables false
set_option linter.unusedSimpArgs false
attribute [local go_sem high] eqA47
mutual
def laws_FnSplitGroupShape.j0 : Nat → List (S47) → Int → List (S47) → List (S47) → List (S47) → List (S47) → Bool → List (S85) → Option (Bool)
 | 0,_,_,_,_,_,_,_,_=>none
 | k + 1,x4,x5,x6,x7,x8,x9,x54,x9000=>if x54 = true then ((laws_equalGroup.f k x6 x8).bind fun t25=>(if t25 = true then ((laws_equalGroup.f k x7 x9).bind fun t26=>(some t26)) else (some false))) else (if (x6.length : Int) > 0 then ((impl_ValidGroup.f k x9000 x6).bind fun t27=>(if t27 = true then (if 0 < (x6.length : Int) then (if 0 < (x4.length : Int) then (if (!(((rd_T47 x6 0).f0) == ((rd_T47 x4 0).f0)) || (!(((rd_T47 x6 0).f1) == ((rd_T47 x4 0).f1)) || (!(((rd_T47 x6 0).f2) == ((rd_T47 x4 0).f2)) || (!(((rd_T47 x6 0).f3) == ((rd_T47 x4 0).f3)))))) = true then (laws_FnSplitGroupShape.j1 k x4 x5 x6 x7 true x9000) else ((impl_GroupDepth.f k x9000 x6).bind fun t30=>((impl_GroupDepth.f k x9000 x4).bind fun t31=>(laws_FnSplitGroupShape.j1 k x4 x5 x6 x7 (decide (t30 > t31)) x9000)))) else (none)) else (none)) else (laws_FnSplitGroupShape.j1 k x4 x5 x6 x7 true x9000))) else (laws_FnSplitGroupShape.j1 k x4 x5 x6 x7 false x9000))
def laws_FnSplitGroupShape.j1 : Nat → List (S47) → Int → List (S47) → List (S47) → Bool → List (S85) → Option (Bool)
 | 0,_,_,_,_,_,_=>none
 | k + 1,x4,x5,x6,x7,x89,x9000=>if x89 = true then (some false) else (if (wrap64 ((x6.length : Int) + (x7.length : Int))) > 0 then (if (x7.length : Int) = 0 then ((impl_HasClass.f x9000 x4 x5).bind fun t32=>(some (t32 == (decide ((x6.length : Int) > 0))))) else ((impl_ValidGroup.f k x9000 x7).bind fun t33=>(if t33 = true then (if 0 < (x7.length : Int) then (if 0 < (x4.length : Int) then (if (((rd_T47 x7 0).f0) == ((rd_T47 x4 0).f0) && (((rd_T47 x7 0).f1) == ((rd_T47 x4 0).f1) && (((rd_T47 x7 0).f2) == ((rd_T47 x4 0).f2) && (((rd_T47 x7 0).f3) == ((rd_T47 x4 0).f3))))) = true then ((impl_HasClass.f x9000 x4 x5).bind fun t36=>(some (t36 == (decide ((x6.length : Int) > 0))))) else (some false)) else (none)) else (none)) else (some false)))) else (some false))
end
def laws_FnSplitGroupShape.f (k : Nat) (l0 : List Int) : Option (Bool):=if (l0.length : Int) > 1048576 then (some true) else ((spec_DrawSplitGroup.f k l0).bind fun bt1=>((impl_SplitGroup.f bt1.1 bt1.2.1 bt1.2.2).bind fun bt9=>((spec_SplitGroup.f k bt1.1 bt1.2.1 bt1.2.2).bind fun bt15=>((laws_equalGroup.f k bt9.1 bt15.1).bind fun t21=>(if t21 = true then ((laws_equalGroup.f k bt9.2 bt15.2).bind fun t22=>(if t22 = true then ((impl_ValidGroup.f k bt1.1 bt1.2.1).bind fun t23=>(if t23 = true then ((laws_has.f bt1.1 bt1.2.2).bind fun t24=>(laws_FnSplitGroupShape.j0 k bt1.2.1 bt1.2.2 bt9.1 bt9.2 bt15.1 bt15.2 (!t24) bt1.1)) else (laws_FnSplitGroupShape.j0 k bt1.2.1 bt1.2.2 bt9.1 bt9.2 bt15.1 bt15.2 true bt1.1))) else (laws_FnSplitGroupShape.j0 k bt1.2.1 bt1.2.2 bt9.1 bt9.2 bt15.1 bt15.2 true bt1.1))) else (laws_FnSplitGroupShape.j0 k bt1.2.1 bt1.2.2 bt9.1 bt9.2 bt15.1 bt15.2 true bt1.1))))))
theorem laws_FnSplitGroupShape.mono_l : ∀ k,(∀ y0 y1 y2 y3 y4 y5 y6 y7,LeO (laws_FnSplitGroupShape.j0 k y0 y1 y2 y3 y4 y5 y6 y7) (laws_FnSplitGroupShape.j0 (k + 1) y0 y1 y2 y3 y4 y5 y6 y7)) ∧ (∀ y0 y1 y2 y3 y4 y5,LeO (laws_FnSplitGroupShape.j1 k y0 y1 y2 y3 y4 y5) (laws_FnSplitGroupShape.j1 (k + 1) y0 y1 y2 y3 y4 y5))
 | 0=>⟨fun _ _ _ _ _ _ _ _ r h=>by simp [laws_FnSplitGroupShape.j0] at h,fun _ _ _ _ _ _ r h=>by simp [laws_FnSplitGroupShape.j1] at h⟩
 | k + 1=>by
  obtain ⟨ih0,ih1⟩:=laws_FnSplitGroupShape.mono_l k
  refine ⟨?_,?_⟩
  ·intro y0 y1 y2 y3 y4 y5 y6 y7
   unfold laws_FnSplitGroupShape.j0
   repeat' first
   | (with_reducible exact ih0 _ _ _ _ _ _ _ _)
   | (with_reducible exact ih1 _ _ _ _ _ _)
   | (with_reducible exact impl_GroupDepth.mono _ _ _)
   | (with_reducible exact impl_ValidGroup.mono _ _ _)
   | (with_reducible exact laws_equalGroup.mono _ _ _)
   | (with_reducible exact spec_DrawSplitGroup.mono _ _)
   | (with_reducible exact spec_SplitGroup.mono _ _ _ _)
   | (with_reducible exact LeO.refl _)
   | (with_reducible exact LeO.none _)
   | (with_reducible refine LeO.ite ?_ ?_)
   | (with_reducible refine LeO.bind ?_ (fun _=>?_))
   | exact ih0 _ _ _ _ _ _ _ _
   | exact ih1 _ _ _ _ _ _
   | exact impl_GroupDepth.mono _ _ _
   | exact impl_ValidGroup.mono _ _ _
   | exact laws_equalGroup.mono _ _ _
   | exact spec_DrawSplitGroup.mono _ _
   | exact spec_SplitGroup.mono _ _ _ _
   | exact LeO.none _
   | refine LeO.ite ?_ ?_
   | refine LeO.bind ?_ (fun _=>?_)
  ·intro y0 y1 y2 y3 y4 y5
   unfold laws_FnSplitGroupShape.j1
   repeat' first
   | (with_reducible exact ih0 _ _ _ _ _ _ _ _)
   | (with_reducible exact ih1 _ _ _ _ _ _)
   | (with_reducible exact impl_GroupDepth.mono _ _ _)
   | (with_reducible exact impl_ValidGroup.mono _ _ _)
   | (with_reducible exact laws_equalGroup.mono _ _ _)
   | (with_reducible exact spec_DrawSplitGroup.mono _ _)
   | (with_reducible exact spec_SplitGroup.mono _ _ _ _)
   | (with_reducible exact LeO.refl _)
   | (with_reducible exact LeO.none _)
   | (with_reducible refine LeO.ite ?_ ?_)
   | (with_reducible refine LeO.bind ?_ (fun _=>?_))
   | exact ih0 _ _ _ _ _ _ _ _
   | exact ih1 _ _ _ _ _ _
   | exact impl_GroupDepth.mono _ _ _
   | exact impl_ValidGroup.mono _ _ _
   | exact laws_equalGroup.mono _ _ _
   | exact spec_DrawSplitGroup.mono _ _
   | exact spec_SplitGroup.mono _ _ _ _
   | exact LeO.none _
   | refine LeO.ite ?_ ?_
   | refine LeO.bind ?_ (fun _=>?_)
theorem laws_FnSplitGroupShape.mono : ∀ a0 k,LeO (laws_FnSplitGroupShape.f k a0) (laws_FnSplitGroupShape.f (k + 1) a0):=by
 intro a0 k
 obtain ⟨ih0,ih1⟩:=laws_FnSplitGroupShape.mono_l k
 unfold laws_FnSplitGroupShape.f
 repeat' first
   | (with_reducible exact ih0 _ _ _ _ _ _ _ _)
   | (with_reducible exact ih1 _ _ _ _ _ _)
   | (with_reducible exact impl_GroupDepth.mono _ _ _)
   | (with_reducible exact impl_ValidGroup.mono _ _ _)
   | (with_reducible exact laws_equalGroup.mono _ _ _)
   | (with_reducible exact spec_DrawSplitGroup.mono _ _)
   | (with_reducible exact spec_SplitGroup.mono _ _ _ _)
   | (with_reducible exact LeO.refl _)
   | (with_reducible exact LeO.none _)
   | (with_reducible refine LeO.ite ?_ ?_)
   | (with_reducible refine LeO.bind ?_ (fun _=>?_))
   | exact ih0 _ _ _ _ _ _ _ _
   | exact ih1 _ _ _ _ _ _
   | exact impl_GroupDepth.mono _ _ _
   | exact impl_ValidGroup.mono _ _ _
   | exact laws_equalGroup.mono _ _ _
   | exact spec_DrawSplitGroup.mono _ _
   | exact spec_SplitGroup.mono _ _ _ _
   | exact LeO.none _
   | refine LeO.ite ?_ ?_
   | refine LeO.bind ?_ (fun _=>?_)
def laws_FnSplitGroupShape.T8 : Bool × List (List Nat × List Nat):=(true,[([],[]),([0],[0]),([1],[1]),([2],[2]),([3],[3]),([3],[3]),([4,5,3,3],[3,4,5]),([6,3],[3,6]),([7,6,3],[3,7]),([8],[8]),([9,8],[8,9]),([10,8],[8,10]),([8],[8]),([12,8],[8,12]),([13,8],[8,13]),([11,14,8],[8,11,14]),([8,15,3],[3,8,15]),([16,8,3],[3,16]),([17],[17]),([17],[17]),([18,19,17,17],[17,18,19]),([17],[17]),([17],[17]),([21,22,20,17],[17,21,22]),([20,23,17],[17,20,23]),([17,24,3],[3,17,24]),([3,25],[3,25])])
def laws_FnSplitGroupShape.B8 : List Nat:=[0,1,3,7,15,15,63,127,255,511,1023,2047,511,4607,12799,32767,65535,131071,262143,262143,1048575,262143,262143,8388607,16777215,33554431,67108863]
theorem laws_FnSplitGroupShape.tab8 : rtab .any (opsOf Try.f5 8) = laws_FnSplitGroupShape.T8:=by kernel_rfl
theorem laws_FnSplitGroupShape.bits8 : waitsOk laws_FnSplitGroupShape.T8.2 laws_FnSplitGroupShape.B8 = true:=by kernel_rfl
def laws_FnSplitGroupShape.T10 : Bool × List (List Nat × List Nat):=(true,[([],[]),([0],[0]),([],[]),([2],[2]),([1,3],[1,3]),([4],[4]),([5],[5]),([6],[6]),([7,6],[6,7]),([8,6],[6,8]),([9,6,6],[6,9]),([10],[10]),([10],[10]),([11,12,10,10],[10,11,12]),([13,13,10],[10,13]),([14],[14]),([15,14],[14,15]),([16,14],[14,16]),([14],[14]),([18,14],[14,18]),([19,14],[14,19]),([17,20,14],[14,17,20]),([14,21,10],[10,14,21]),([10,22,6],[6,10,22]),([6,23],[6,23]),([24,14],[24]),([25],[25]),([25],[25]),([25],[25]),([26,27,28,25,25],[25,26,27,28]),([25],[25]),([30,25],[25,30]),([31,25],[25,31]),([29,32,25],[25,29,32]),([25,33],[25,33]),([34,29,0,1,2,3,4,5,6,7,8,9,10,11,12,13,14,15,16,17,18,19,20,21,22,23,24,25,26,27,28,29,30,31,32,33,34],[34])])
def laws_FnSplitGroupShape.B10 : List Nat:=[0,1,0,4,15,31,63,127,255,511,1023,2047,2047,8191,16383,32767,65535,131071,32767,294911,819199,2097151,4194303,8388607,16777215,33554431,67108863,67108863,67108863,536870911,67108863,1140850687,3288334335,8589934591,17179869183,34359738367]
theorem laws_FnSplitGroupShape.tab10 : rtab .any (opsOf Try.f5 10) = laws_FnSplitGroupShape.T10:=by kernel_rfl
theorem laws_FnSplitGroupShape.bits10 : waitsOk laws_FnSplitGroupShape.T10.2 laws_FnSplitGroupShape.B10 = true:=by kernel_rfl
set_option maxHeartbeats 8000000 in
set_option maxRecDepth 100000 in
theorem laws_FnSplitGroupShape.calls (k : Nat) (A0 : Option Addr) (c0 : Nat) (l0 : List Int) (r : Bool) (w : World) (hr0 : Kd.C (Kd.int .u8) w A0 l0.length l0) (hc0 : l0.length ≤ c0) (h : laws_FnSplitGroupShape.f k l0 = some r) :
  Calls Try.prog 5 #[.slice A0 l0.length c0] w fun e w'=>e = .returned (.bool r) ∧ Below w.heap.size w w':=by
 have hu25:=Try.underlying25
 have hu47:=Try.underlying47
 have HR0:=a0_ hr0
 have HC0:=a0_ hc0
 clear hr0 hc0
 have HB:=a0_ (Below.refl w.heap.size w)
 have H : (if (l0.length : Int) > 1048576 then (some true) else ((spec_DrawSplitGroup.f k l0).bind fun bt1=>((impl_SplitGroup.f bt1.1 bt1.2.1 bt1.2.2).bind fun bt9=>((spec_SplitGroup.f k bt1.1 bt1.2.1 bt1.2.2).bind fun bt15=>((laws_equalGroup.f k bt9.1 bt15.1).bind fun t21=>(if t21 = true then ((laws_equalGroup.f k bt9.2 bt15.2).bind fun t22=>(if t22 = true then ((impl_ValidGroup.f k bt1.1 bt1.2.1).bind fun t23=>(if t23 = true then ((laws_has.f bt1.1 bt1.2.2).bind fun t24=>(laws_FnSplitGroupShape.j0 k bt1.2.1 bt1.2.2 bt9.1 bt9.2 bt15.1 bt15.2 (!t24) bt1.1)) else (laws_FnSplitGroupShape.j0 k bt1.2.1 bt1.2.2 bt9.1 bt9.2 bt15.1 bt15.2 true bt1.1))) else (laws_FnSplitGroupShape.j0 k bt1.2.1 bt1.2.2 bt9.1 bt9.2 bt15.1 bt15.2 true bt1.1))) else (laws_FnSplitGroupShape.j0 k bt1.2.1 bt1.2.2 bt9.1 bt9.2 bt15.1 bt15.2 true bt1.1))))))) = some r:=h
 clear h
 by_cases c2 : (l0.length : Int) > 1048576
 ·rw [if_pos c2] at H
  have c2b0 : decide (1048576 < (l0.length : Int)) = true:=decide_eq_true c2
  have c2b1 : decide (1048576 < l0.length) = true:=decide_eq_true (by omega)
  clear c2
  obtain rfl:=Option.some.inj H
  go_enter Try.func5,Try.ntmps5
  go_wp2
  go_ret
  exact ⟨by first | rfl | (simp [errW_none,errW_some] <;> rfl) | (simp [*,errW_none,errW_some] <;> rfl),hb_⟩
 ·rw [if_neg c2] at H
  have c2b0 : decide (1048576 < (l0.length : Int)) = false:=decide_eq_false c2
  have c2b1 : decide (1048576 < l0.length) = false:=decide_eq_false (by omega)
  clear c2
  replace H:=Option.bind_eq_some_iff.mp H
  obtain ⟨⟨t1,t4,t7⟩,A30,H⟩:=H
  try dsimp only at H
  have A3:=a0_ A30
  clear A30
  replace H:=Option.bind_eq_some_iff.mp H
  obtain ⟨⟨t9,t12⟩,A40,H⟩:=H
  try dsimp only at H
  have A4:=a0_ A40
  clear A40
  replace H:=Option.bind_eq_some_iff.mp H
  obtain ⟨⟨t15,t18⟩,A50,H⟩:=H
  try dsimp only at H
  have A5:=a0_ A50
  clear A50
  have HC6:=a0_ H
  clear H
  go_enter Try.func5,Try.ntmps5
  go_upto_region 6 with (first | ((with_reducible refine gate_callee (f:=24) rfl ?_);refine goesL_ (some 15) rfl rfl Try.func24 (by kernel_rfl) rfl #[.slice A0 l0.length c0] rfl lm_ ?_;(with_reducible refine (spec_DrawSplitGroup.calls k _ _ l0 t1 t4 t7 _ ?side1 ?side2 A3.out).mono ?_);(case side1=>repeat (first | exact HR0.out | (with_reducible refine Kd.C_alloc ?_ _) | (with_reducible refine Kd.C_drewN ?_ _) | (with_reducible refine Kd.C_drew ?_)));(case side2=>exact HC0.out);rintro e w7 ⟨v2,v5,rfl,ho0,ho1,hb⟩;refine ⟨_,rfl,?_⟩;have HO3:=a0_ (Kd.R_lower ho0 (below_size hb_));have HO6:=a0_ (Kd.R_lower ho1 (below_size hb_));replace HB:=a0_ (below_step hb_ hb);(try clear hb);(try clear ho0);(try clear ho1)) | ((with_reducible refine gate_dst (N:=3) rfl ?_);(try (refine gate_guard (by rfl) ?_;dsimp only));refine box_event ?hg (N:=3) ?hd (cs:=#[.slice none 0 0]) (t:=25) ?hr ?_;(case hd=>rfl);(case hg=>rfl);(case hr=>first | (go_simp;done) | (go_simp;rfl));intro gb8 hg w8 hbox hb;replace HO3:=rb_ HO3 hb;replace HO6:=rb_ HO6 hb;have BK8:=a0_ (hbox);have GW8:=a0_ ((by rw [hg];exact (below_size hb_) : w.heap.size ≤ gb8));have GE8:=a0_ ((by rw [hg];exact (below_size hb_) : w.heap.size ≤ gb8));replace HB:=a0_ (below_step hb_ hb);clear hb hbox hg;obtain ⟨Ao9,co9,eo9⟩:=Kd.R_slice HO3.out;subst eo9;have hcz10_0 : w8.cell? ⟨gb8,0,none⟩ = some (.slice none 0 0):=(blk_cell BK8.out 0).trans rfl;have hfz10_0:=blk_frozen BK8.out 0;obtain ⟨Ao11,co11,eo11⟩:=Kd.R_slice HO6.out;subst eo11) | ((with_reducible refine gate_callee (f:=25) rfl ?_);refine goesL_ (some 23) rfl rfl Try.func25 (by kernel_rfl) rfl #[.agg #[.slice Ao9 t1.length co9],.slice Ao11 t4.length co11,.int .i64 t7] rfl lm_ ?_;(with_reducible refine (impl_SplitGroup.calls _ _ t1 _ _ t4 t7 t9 t12 _ ?side1 ?side2 ?side3 ?side4 A4.out).mono ?_);(case side1=>refine (Kd.R_reads' (e:=85) (base:=w.heap.size) (ok:=fun k_=>True) (n:=t1.length) (c:=co9) ?_).2.2;exact (by (with_reducible repeat (first | apply Kd.R_alloc | apply Kd.R_drewN | apply Kd.R_drew));exact (Kd.R_mono (Kd.R_far (p:=⟨gb8,0,none⟩) (Kd.R_types HO3.out BK8.out (by decide)) (fun _ hk=>hk.2) (.slice Ao9 t1.length co9)) (fun _ h_=>h_.1))));(case side2=>exact (Kd.R_reads' HO3.out).2.1);(case side3=>refine (Kd.R_reads' (e:=47) (base:=w.heap.size) (ok:=fun k_=>True) (n:=t4.length) (c:=co11) ?_).2.2;exact (by (with_reducible repeat (first | apply Kd.R_alloc | apply Kd.R_drewN | apply Kd.R_drew));exact (Kd.R_mono (Kd.R_far (p:=⟨gb8,0,none⟩) (Kd.R_types HO6.out BK8.out (by decide)) (fun _ hk=>hk.2) (.slice Ao9 t1.length co9)) (fun _ h_=>h_.1))));(case side4=>exact (Kd.R_reads' HO6.out).2.1);rintro e w12 ⟨v10,v13,rfl,ho0,ho1,hb⟩;refine ⟨_,rfl,?_⟩;have n0_:=a0_ (Kd.R_below (by (with_reducible repeat (first | apply Kd.R_alloc | apply Kd.R_drewN | apply Kd.R_drew));exact (Kd.R_mono (Kd.R_far (p:=⟨gb8,0,none⟩) (Kd.R_types HO3.out BK8.out (by decide)) (fun _ hk=>hk.2) (.slice Ao9 t1.length co9)) (fun _ h_=>h_.1))) hb);have n1_:=a0_ (Kd.R_mono (Kd.R_told (Kd.R_told (Kd.R_old (by (with_reducible repeat (first | apply Kd.R_alloc | apply Kd.R_drewN | apply Kd.R_drew));exact (Kd.R_mono (Kd.R_far (p:=⟨gb8,0,none⟩) (Kd.R_types HO6.out BK8.out (by decide)) (fun _ hk=>hk.2) (.slice Ao9 t1.length co9)) (fun _ h_=>h_.1))) hb) (Kd.R_base ho0)) (Kd.R_base ho1)) (fun _ h_=>h_.1));have n2_:=a0_ (Kd.R_lower (Kd.R_new' ho0 (Kd.R_lt (by (with_reducible repeat (first | apply Kd.R_alloc | apply Kd.R_drewN | apply Kd.R_drew));exact (Kd.R_mono (Kd.R_far (p:=⟨gb8,0,none⟩) (Kd.R_types HO6.out BK8.out (by decide)) (fun _ hk=>hk.2) (.slice Ao9 t1.length co9)) (fun _ h_=>h_.1))))) (below_size hb_));have n3_:=a0_ (Kd.R_lower (Kd.R_new' ho1 (Kd.R_lt (by (with_reducible repeat (first | apply Kd.R_alloc | apply Kd.R_drewN | apply Kd.R_drew));exact (Kd.R_mono (Kd.R_far (p:=⟨gb8,0,none⟩) (Kd.R_types HO6.out BK8.out (by decide)) (fun _ hk=>hk.2) (.slice Ao9 t1.length co9)) (fun _ h_=>h_.1))))) (below_size hb_));have n4_:=a0_ (blk_below (g:=gb8) (o:=.cells #[.slice Ao9 t1.length co9] 25 (0,0)) (by (with_reducible repeat (first | refine blk_drewN ?_ _ | refine blk_drew ?_ | refine blk_alloc ?_ _));refine blk_put (cs:=#[.slice none 0 0]) ?_ 0 _ rfl;(with_reducible repeat (first | refine blk_drewN ?_ _ | refine blk_drew ?_ | refine blk_alloc ?_ _));exact BK8.out) hb);have n5_:=a0_ (below_step hb_ hb);clear HO3 HO6;clear BK8 HB;have HO3:=n0_;have HO6:=n1_;have HO11:=n2_;have HO14:=n3_;have BK8:=n4_;have HB:=n5_;clear n0_ n1_ n2_ n3_ n4_ n5_;(try clear hb);(try clear ho0);(try clear ho1);have hcz13_0 : w12.cell? ⟨gb8,0,none⟩ = some (.slice Ao9 t1.length co9):=(blk_cell BK8.out 0).trans rfl;have hfz13_0:=blk_frozen BK8.out 0) | ((with_reducible refine gate_callee (f:=26) rfl ?_);refine goesL_ (some 30) rfl rfl Try.func26 (by kernel_rfl) rfl #[.agg #[.slice Ao9 t1.length co9],.slice Ao11 t4.length co11,.int .i64 t7] rfl lm_ ?_;(with_reducible refine (spec_SplitGroup.calls k _ _ t1 _ _ t4 t7 t15 t18 _ ?side1 ?side2 ?side3 ?side4 A5.out).mono ?_);(case side1=>exact cc_ (Kd.R_reads' HO3.out).2.2);(case side2=>exact (Kd.R_reads' HO3.out).2.1);(case side3=>exact cc_ (Kd.R_reads' HO6.out).2.2);(case side4=>exact (Kd.R_reads' HO6.out).2.1);rintro e w14 ⟨v16,v19,rfl,ho0,ho1,hb⟩;refine ⟨_,rfl,?_⟩;have n0_:=rb_ HO3 hb;have n1_:=a0_ (Kd.R_mono (Kd.R_told (Kd.R_told (Kd.R_old (rr_ HO6.out) hb) (Kd.R_base ho0)) (Kd.R_base ho1)) (fun _ h_=>h_.1));have n2_:=a0_ (Kd.R_mono (Kd.R_told (Kd.R_told (Kd.R_old (rr_ HO11.out) hb) (Kd.R_base ho0)) (Kd.R_base ho1)) (fun _ h_=>h_.1));have n3_:=a0_ (Kd.R_mono (Kd.R_told (Kd.R_told (Kd.R_old (rr_ HO14.out) hb) (Kd.R_base ho0)) (Kd.R_base ho1)) (fun _ h_=>h_.1));have n4_:=a0_ (Kd.R_lower (Kd.R_new' (Kd.R_new' (Kd.R_new' ho0 (Kd.R_lt (rr_ HO6.out))) (Kd.R_lt (rr_ HO11.out))) (Kd.R_lt (rr_ HO14.out))) (below_size hb_));have n5_:=a0_ (Kd.R_lower (Kd.R_new' (Kd.R_new' (Kd.R_new' ho1 (Kd.R_lt (rr_ HO6.out))) (Kd.R_lt (rr_ HO11.out))) (Kd.R_lt (rr_ HO14.out))) (below_size hb_));have n6_:=kb_ BK8 hb;have n7_:=a0_ (below_step hb_ hb);clear HO3 HO6;clear HO11 HO14;clear BK8 HB;have HO3:=n0_;have HO6:=n1_;have HO11:=n2_;have HO14:=n3_;have HO17:=n4_;have HO20:=n5_;have BK8:=n6_;have HB:=n7_;clear n0_ n1_ n2_ n3_ n4_ n5_ n6_ n7_;(try clear hb);(try clear ho0);(try clear ho1)))
  (try simp only [Act.put,s1_,s2_,s3_])
  go_cut [54] (fun v54 wc=>∃ (kq : Nat) (x54_5 : Bool),v54 = .bool x54_5 ∧ Aside0 (laws_FnSplitGroupShape.j0 kq t4 t7 t9 t12 t15 t18 x54_5 t1 = some r) ∧ Aside0 (kq ≤ k) ∧ Aside0 (Kd.R k47 47 wc w.heap.size (fun k_=>some k_ ≠ (v10 : Value).ownBlock ∧ some k_ ≠ (v13 : Value).ownBlock ∧ some k_ ≠ (v16 : Value).ownBlock ∧ some k_ ≠ (v19 : Value).ownBlock) (.slice Ao11 t4.length co11) t4) ∧ Aside0 (Kd.R k47 47 wc w.heap.size (fun k_=>some k_ ≠ ((.slice Ao11 t4.length co11) : Value).ownBlock ∧ some k_ ≠ (v13 : Value).ownBlock ∧ some k_ ≠ (v16 : Value).ownBlock ∧ some k_ ≠ (v19 : Value).ownBlock) v10 t9) ∧ Aside0 (Kd.R k47 47 wc w.heap.size (fun k_=>some k_ ≠ ((.slice Ao11 t4.length co11) : Value).ownBlock ∧ some k_ ≠ (v10 : Value).ownBlock ∧ some k_ ≠ (v16 : Value).ownBlock ∧ some k_ ≠ (v19 : Value).ownBlock) v13 t12) ∧ Aside0 (Kd.R k47 47 wc w.heap.size (fun k_=>some k_ ≠ ((.slice Ao11 t4.length co11) : Value).ownBlock ∧ some k_ ≠ (v10 : Value).ownBlock ∧ some k_ ≠ (v13 : Value).ownBlock ∧ some k_ ≠ (v19 : Value).ownBlock) v16 t15) ∧ Aside0 (Kd.R k47 47 wc w.heap.size (fun k_=>some k_ ≠ ((.slice Ao11 t4.length co11) : Value).ownBlock ∧ some k_ ≠ (v10 : Value).ownBlock ∧ some k_ ≠ (v13 : Value).ownBlock ∧ some k_ ≠ (v16 : Value).ownBlock) v19 t18) ∧ Aside0 (Kd.R k85 85 wc w.heap.size (fun _=>True) (.slice Ao9 t1.length co9) t1) ∧ Aside0 (wc.heap[gb8]? = some (.cells #[(.slice Ao9 t1.length co9)] 25 (0,0))) ∧ Aside0 (Below w.heap.size w wc))
  case first =>
   have H:=HC6.out
   clear HC6
   replace H:=Option.bind_eq_some_iff.mp H
   obtain ⟨t21,A150,H⟩:=H
   try dsimp only at H
   have A15:=a0_ A150
   clear A150
   by_cases c16 : t21 = true
   ·subst c16
    have H1 : ((laws_equalGroup.f k t12 t18).bind fun t22=>(if t22 = true then ((impl_ValidGroup.f k t1 t4).bind fun t23=>(if t23 = true then ((laws_has.f t1 t7).bind fun t24=>(laws_FnSplitGroupShape.j0 k t4 t7 t9 t12 t15 t18 (!t24) t1)) else (laws_FnSplitGroupShape.j0 k t4 t7 t9 t12 t15 t18 true t1))) else (laws_FnSplitGroupShape.j0 k t4 t7 t9 t12 t15 t18 true t1))) = some r:=by rw [if_pos rfl] at H;exact H
    clear H
    have H:=H1
    clear H1
    replace H:=Option.bind_eq_some_iff.mp H
    obtain ⟨t22,A170,H⟩:=H
    try dsimp only at H
    have A17:=a0_ A170
    clear A170
    by_cases c18 : t22 = true
    ·subst c18
     have H1 : ((impl_ValidGroup.f k t1 t4).bind fun t23=>(if t23 = true then ((laws_has.f t1 t7).bind fun t24=>(laws_FnSplitGroupShape.j0 k t4 t7 t9 t12 t15 t18 (!t24) t1)) else (laws_FnSplitGroupShape.j0 k t4 t7 t9 t12 t15 t18 true t1))) = some r:=by rw [if_pos rfl] at H;exact H
     clear H
     have H:=H1
     clear H1
     replace H:=Option.bind_eq_some_iff.mp H
     obtain ⟨t23,A190,H⟩:=H
     try dsimp only at H
     have A19:=a0_ A190
     clear A190
     by_cases c20 : t23 = true
     ·subst c20
      have H1 : ((laws_has.f t1 t7).bind fun t24=>(laws_FnSplitGroupShape.j0 k t4 t7 t9 t12 t15 t18 (!t24) t1)) = some r:=by rw [if_pos rfl] at H;exact H
      clear H
      have H:=H1
      clear H1
      replace H:=Option.bind_eq_some_iff.mp H
      obtain ⟨t24,A210,H⟩:=H
      try dsimp only at H
      have A21:=a0_ A210
      clear A210
      have H':=a0_ H
      clear H
      obtain ⟨Ao22,co22,eo22⟩:=Kd.R_slice HO11.out
      subst eo22
      obtain ⟨Ao23,co23,eo23⟩:=Kd.R_slice HO17.out
      subst eo23
      go_wp2_with (first | ((with_reducible refine gate_callee (f:=13) rfl ?_);refine goesL_ (some 35) rfl rfl Try.func13 (by kernel_rfl) rfl #[.slice Ao22 t9.length co22,.slice Ao23 t15.length co23] rfl lm_ ?_;(with_reducible refine (laws_equalGroup.calls k _ _ t9 _ _ t15 true _ ?side1 ?side2 ?side3 ?side4 A15.out).mono ?_);(case side1=>exact cc_ (Kd.R_reads' HO11.out).2.2);(case side2=>exact (Kd.R_reads' HO11.out).2.1);(case side3=>exact cc_ (Kd.R_reads' HO17.out).2.2);(case side4=>exact (Kd.R_reads' HO17.out).2.1);rintro e w' ⟨rfl,⟨nd,rfl⟩⟩;refine ⟨_,rfl,?_⟩;obtain ⟨Ao24,co24,eo24⟩:=Kd.R_slice HO14.out;subst eo24;obtain ⟨Ao25,co25,eo25⟩:=Kd.R_slice HO20.out;subst eo25) | (go_at_call 13;(with_reducible refine (laws_equalGroup.calls k _ _ t12 _ _ t18 true _ ?side1 ?side2 ?side3 ?side4 A17.out).mono ?_);(case side1=>exact cc_ (Kd.R_reads' HO14.out).2.2);(case side2=>exact (Kd.R_reads' HO14.out).2.1);(case side3=>exact cc_ (Kd.R_reads' HO20.out).2.2);(case side4=>exact (Kd.R_reads' HO20.out).2.1);rintro e w' ⟨rfl,⟨nd,rfl⟩⟩;have hcz26_0 : w14.cell? ⟨gb8,0,none⟩ = some (.slice Ao9 t1.length co9):=(blk_cell BK8.out 0).trans rfl;have hfz26_0:=blk_frozen BK8.out 0) | (go_at_call 15;(with_reducible refine (impl_ValidGroup.calls k _ _ t1 _ _ t4 true _ ?side1 ?side2 ?side3 ?side4 A19.out).mono ?_);(case side1=>exact cc_ (Kd.R_reads' HO3.out).2.2);(case side2=>exact (Kd.R_reads' HO3.out).2.1);(case side3=>exact cc_ (Kd.R_reads' HO6.out).2.2);(case side4=>exact (Kd.R_reads' HO6.out).2.1);rintro e w27 ⟨rfl,hb⟩;replace HO3:=rb_ HO3 hb;replace HO6:=rb_ HO6 hb;replace HO11:=rb_ HO11 hb;replace HO14:=rb_ HO14 hb;replace HO17:=rb_ HO17 hb;replace HO20:=rb_ HO20 hb;replace BK8:=kb_ BK8 hb;replace HB:=a0_ (below_step hb_ hb);(try clear hb);have hcz28_0 : w27.cell? ⟨gb8,0,none⟩ = some (.slice Ao9 t1.length co9):=(blk_cell BK8.out 0).trans rfl;have hfz28_0:=blk_frozen BK8.out 0) | (go_at_call 22;(with_reducible refine (laws_has.calls _ _ t1 t7 t24 _ ?side1 ?side2 A21.out).mono ?_);(case side1=>exact cc_ (Kd.R_reads' HO3.out).2.2);(case side2=>exact (Kd.R_reads' HO3.out).2.1);rintro e w29 ⟨rfl,hb⟩;replace HO3:=rb_ HO3 hb;replace HO6:=rb_ HO6 hb;replace HO11:=rb_ HO11 hb;replace HO14:=rb_ HO14 hb;replace HO17:=rb_ HO17 hb;replace HO20:=rb_ HO20 hb;replace BK8:=kb_ BK8 hb;replace HB:=a0_ (below_step hb_ hb);(try clear hb);(try clear hb2);(try clear hk);(try clear hi)))
      go_meet
      case rel=>exact ⟨_,(!t24),(by first | rfl | (simp;done) | (simp [*];done)),H',⟨by first | omega | exact Nat.le_refl _⟩,⟨by (with_reducible repeat (first | apply Kd.R_alloc | apply Kd.R_drewN | apply Kd.R_drew));exact Kd.R_mono HO6.out (fun _ hk=>⟨hk.1.1.1.2,⟨hk.1.1.2,⟨hk.1.2,hk.2⟩⟩⟩)⟩,⟨by (with_reducible repeat (first | apply Kd.R_alloc | apply Kd.R_drewN | apply Kd.R_drew));exact Kd.R_mono HO11.out (fun _ hk=>⟨hk.1.1.2,⟨hk.1.1.1,⟨hk.1.2,hk.2⟩⟩⟩)⟩,⟨by (with_reducible repeat (first | apply Kd.R_alloc | apply Kd.R_drewN | apply Kd.R_drew));exact Kd.R_mono HO14.out (fun _ hk=>⟨hk.1.1.2,⟨hk.1.1.1,⟨hk.1.2,hk.2⟩⟩⟩)⟩,⟨by (with_reducible repeat (first | apply Kd.R_alloc | apply Kd.R_drewN | apply Kd.R_drew));exact Kd.R_mono HO17.out (fun _ hk=>⟨hk.1.1.2,⟨hk.1.2,⟨hk.2,hk.1.1.1⟩⟩⟩)⟩,⟨by (with_reducible repeat (first | apply Kd.R_alloc | apply Kd.R_drewN | apply Kd.R_drew));exact Kd.R_mono HO20.out (fun _ hk=>⟨hk.1.1.2,⟨hk.1.2,⟨hk.2,hk.1.1.1⟩⟩⟩)⟩,⟨by (with_reducible repeat (first | apply Kd.R_alloc | apply Kd.R_drewN | apply Kd.R_drew));exact HO3.out⟩,⟨by (with_reducible repeat (first | refine blk_drewN ?_ _ | refine blk_drew ?_ | refine blk_alloc ?_ _));exact BK8.out⟩,⟨hb_⟩⟩
     ·replace c20:=Bool.eq_false_iff.mpr c20
      subst c20
      have H1 : (laws_FnSplitGroupShape.j0 k t4 t7 t9 t12 t15 t18 true t1) = some r:=by rw [if_neg (show ¬ (false = true) by decide)] at H;exact H
      clear H
      have H:=H1
      clear H1
      have H':=a0_ H
      clear H
      obtain ⟨Ao30,co30,eo30⟩:=Kd.R_slice HO11.out
      subst eo30
      obtain ⟨Ao31,co31,eo31⟩:=Kd.R_slice HO17.out
      subst eo31
      go_wp2_with (first | ((with_reducible refine gate_callee (f:=13) rfl ?_);refine goesL_ (some 35) rfl rfl Try.func13 (by kernel_rfl) rfl #[.slice Ao30 t9.length co30,.slice Ao31 t15.length co31] rfl lm_ ?_;(with_reducible refine (laws_equalGroup.calls k _ _ t9 _ _ t15 true _ ?side1 ?side2 ?side3 ?side4 A15.out).mono ?_);(case side1=>exact cc_ (Kd.R_reads' HO11.out).2.2);(case side2=>exact (Kd.R_reads' HO11.out).2.1);(case side3=>exact cc_ (Kd.R_reads' HO17.out).2.2);(case side4=>exact (Kd.R_reads' HO17.out).2.1);rintro e w' ⟨rfl,⟨nd,rfl⟩⟩;refine ⟨_,rfl,?_⟩;obtain ⟨Ao32,co32,eo32⟩:=Kd.R_slice HO14.out;subst eo32;obtain ⟨Ao33,co33,eo33⟩:=Kd.R_slice HO20.out;subst eo33) | (go_at_call 13;(with_reducible refine (laws_equalGroup.calls k _ _ t12 _ _ t18 true _ ?side1 ?side2 ?side3 ?side4 A17.out).mono ?_);(case side1=>exact cc_ (Kd.R_reads' HO14.out).2.2);(case side2=>exact (Kd.R_reads' HO14.out).2.1);(case side3=>exact cc_ (Kd.R_reads' HO20.out).2.2);(case side4=>exact (Kd.R_reads' HO20.out).2.1);rintro e w' ⟨rfl,⟨nd,rfl⟩⟩;have hcz34_0 : w14.cell? ⟨gb8,0,none⟩ = some (.slice Ao9 t1.length co9):=(blk_cell BK8.out 0).trans rfl;have hfz34_0:=blk_frozen BK8.out 0) | (go_at_call 15;(with_reducible refine (impl_ValidGroup.calls k _ _ t1 _ _ t4 false _ ?side1 ?side2 ?side3 ?side4 A19.out).mono ?_);(case side1=>exact cc_ (Kd.R_reads' HO3.out).2.2);(case side2=>exact (Kd.R_reads' HO3.out).2.1);(case side3=>exact cc_ (Kd.R_reads' HO6.out).2.2);(case side4=>exact (Kd.R_reads' HO6.out).2.1);rintro e w35 ⟨rfl,hb⟩;replace HO3:=rb_ HO3 hb;replace HO6:=rb_ HO6 hb;replace HO11:=rb_ HO11 hb;replace HO14:=rb_ HO14 hb;replace HO17:=rb_ HO17 hb;replace HO20:=rb_ HO20 hb;replace BK8:=kb_ BK8 hb;replace HB:=a0_ (below_step hb_ hb);(try clear hb);(try clear hb2);(try clear hk);(try clear hi)))
      go_meet
      case rel=>exact ⟨_,(true),(by first | rfl | (simp;done) | (simp [*];done)),H',⟨by first | omega | exact Nat.le_refl _⟩,⟨by (with_reducible repeat (first | apply Kd.R_alloc | apply Kd.R_drewN | apply Kd.R_drew));exact Kd.R_mono HO6.out (fun _ hk=>⟨hk.1.1.1.2,⟨hk.1.1.2,⟨hk.1.2,hk.2⟩⟩⟩)⟩,⟨by (with_reducible repeat (first | apply Kd.R_alloc | apply Kd.R_drewN | apply Kd.R_drew));exact Kd.R_mono HO11.out (fun _ hk=>⟨hk.1.1.2,⟨hk.1.1.1,⟨hk.1.2,hk.2⟩⟩⟩)⟩,⟨by (with_reducible repeat (first | apply Kd.R_alloc | apply Kd.R_drewN | apply Kd.R_drew));exact Kd.R_mono HO14.out (fun _ hk=>⟨hk.1.1.2,⟨hk.1.1.1,⟨hk.1.2,hk.2⟩⟩⟩)⟩,⟨by (with_reducible repeat (first | apply Kd.R_alloc | apply Kd.R_drewN | apply Kd.R_drew));exact Kd.R_mono HO17.out (fun _ hk=>⟨hk.1.1.2,⟨hk.1.2,⟨hk.2,hk.1.1.1⟩⟩⟩)⟩,⟨by (with_reducible repeat (first | apply Kd.R_alloc | apply Kd.R_drewN | apply Kd.R_drew));exact Kd.R_mono HO20.out (fun _ hk=>⟨hk.1.1.2,⟨hk.1.2,⟨hk.2,hk.1.1.1⟩⟩⟩)⟩,⟨by (with_reducible repeat (first | apply Kd.R_alloc | apply Kd.R_drewN | apply Kd.R_drew));exact HO3.out⟩,⟨by (with_reducible repeat (first | refine blk_drewN ?_ _ | refine blk_drew ?_ | refine blk_alloc ?_ _));exact BK8.out⟩,⟨hb_⟩⟩
    ·replace c18:=Bool.eq_false_iff.mpr c18
     subst c18
     have H1 : (laws_FnSplitGroupShape.j0 k t4 t7 t9 t12 t15 t18 true t1) = some r:=by rw [if_neg (show ¬ (false = true) by decide)] at H;exact H
     clear H
     have H:=H1
     clear H1
     have H':=a0_ H
     clear H
     obtain ⟨Ao36,co36,eo36⟩:=Kd.R_slice HO11.out
     subst eo36
     obtain ⟨Ao37,co37,eo37⟩:=Kd.R_slice HO17.out
     subst eo37
     go_wp2_with (first | ((with_reducible refine gate_callee (f:=13) rfl ?_);refine goesL_ (some 35) rfl rfl Try.func13 (by kernel_rfl) rfl #[.slice Ao36 t9.length co36,.slice Ao37 t15.length co37] rfl lm_ ?_;(with_reducible refine (laws_equalGroup.calls k _ _ t9 _ _ t15 true _ ?side1 ?side2 ?side3 ?side4 A15.out).mono ?_);(case side1=>exact cc_ (Kd.R_reads' HO11.out).2.2);(case side2=>exact (Kd.R_reads' HO11.out).2.1);(case side3=>exact cc_ (Kd.R_reads' HO17.out).2.2);(case side4=>exact (Kd.R_reads' HO17.out).2.1);rintro e w' ⟨rfl,⟨nd,rfl⟩⟩;refine ⟨_,rfl,?_⟩;obtain ⟨Ao38,co38,eo38⟩:=Kd.R_slice HO14.out;subst eo38;obtain ⟨Ao39,co39,eo39⟩:=Kd.R_slice HO20.out;subst eo39) | (go_at_call 13;(with_reducible refine (laws_equalGroup.calls k _ _ t12 _ _ t18 false _ ?side1 ?side2 ?side3 ?side4 A17.out).mono ?_);(case side1=>exact cc_ (Kd.R_reads' HO14.out).2.2);(case side2=>exact (Kd.R_reads' HO14.out).2.1);(case side3=>exact cc_ (Kd.R_reads' HO20.out).2.2);(case side4=>exact (Kd.R_reads' HO20.out).2.1);rintro e w' ⟨rfl,⟨nd,rfl⟩⟩))
     go_meet
     case rel=>exact ⟨_,(true),(by first | rfl | (simp;done) | (simp [*];done)),H',⟨by first | omega | exact Nat.le_refl _⟩,⟨by (with_reducible repeat (first | apply Kd.R_alloc | apply Kd.R_drewN | apply Kd.R_drew));exact Kd.R_mono HO6.out (fun _ hk=>⟨hk.1.1.1.2,⟨hk.1.1.2,⟨hk.1.2,hk.2⟩⟩⟩)⟩,⟨by (with_reducible repeat (first | apply Kd.R_alloc | apply Kd.R_drewN | apply Kd.R_drew));exact Kd.R_mono HO11.out (fun _ hk=>⟨hk.1.1.2,⟨hk.1.1.1,⟨hk.1.2,hk.2⟩⟩⟩)⟩,⟨by (with_reducible repeat (first | apply Kd.R_alloc | apply Kd.R_drewN | apply Kd.R_drew));exact Kd.R_mono HO14.out (fun _ hk=>⟨hk.1.1.2,⟨hk.1.1.1,⟨hk.1.2,hk.2⟩⟩⟩)⟩,⟨by (with_reducible repeat (first | apply Kd.R_alloc | apply Kd.R_drewN | apply Kd.R_drew));exact Kd.R_mono HO17.out (fun _ hk=>⟨hk.1.1.2,⟨hk.1.2,⟨hk.2,hk.1.1.1⟩⟩⟩)⟩,⟨by (with_reducible repeat (first | apply Kd.R_alloc | apply Kd.R_drewN | apply Kd.R_drew));exact Kd.R_mono HO20.out (fun _ hk=>⟨hk.1.1.2,⟨hk.1.2,⟨hk.2,hk.1.1.1⟩⟩⟩)⟩,⟨by (with_reducible repeat (first | apply Kd.R_alloc | apply Kd.R_drewN | apply Kd.R_drew));exact HO3.out⟩,⟨by (with_reducible repeat (first | refine blk_drewN ?_ _ | refine blk_drew ?_ | refine blk_alloc ?_ _));exact BK8.out⟩,⟨hb_⟩⟩
   ·replace c16:=Bool.eq_false_iff.mpr c16
    subst c16
    have H1 : (laws_FnSplitGroupShape.j0 k t4 t7 t9 t12 t15 t18 true t1) = some r:=by rw [if_neg (show ¬ (false = true) by decide)] at H;exact H
    clear H
    have H:=H1
    clear H1
    have H':=a0_ H
    clear H
    obtain ⟨Ao40,co40,eo40⟩:=Kd.R_slice HO11.out
    subst eo40
    obtain ⟨Ao41,co41,eo41⟩:=Kd.R_slice HO17.out
    subst eo41
    go_wp2_with (first | ((with_reducible refine gate_callee (f:=13) rfl ?_);refine goesL_ (some 35) rfl rfl Try.func13 (by kernel_rfl) rfl #[.slice Ao40 t9.length co40,.slice Ao41 t15.length co41] rfl lm_ ?_;(with_reducible refine (laws_equalGroup.calls k _ _ t9 _ _ t15 false _ ?side1 ?side2 ?side3 ?side4 A15.out).mono ?_);(case side1=>exact cc_ (Kd.R_reads' HO11.out).2.2);(case side2=>exact (Kd.R_reads' HO11.out).2.1);(case side3=>exact cc_ (Kd.R_reads' HO17.out).2.2);(case side4=>exact (Kd.R_reads' HO17.out).2.1);rintro e w' ⟨rfl,⟨nd,rfl⟩⟩;refine ⟨_,rfl,?_⟩))
    go_meet
    case rel=>exact ⟨_,(true),(by first | rfl | (simp;done) | (simp [*];done)),H',⟨by first | omega | exact Nat.le_refl _⟩,⟨by (with_reducible repeat (first | apply Kd.R_alloc | apply Kd.R_drewN | apply Kd.R_drew));exact Kd.R_mono HO6.out (fun _ hk=>⟨hk.1.1.1.2,⟨hk.1.1.2,⟨hk.1.2,hk.2⟩⟩⟩)⟩,⟨by (with_reducible repeat (first | apply Kd.R_alloc | apply Kd.R_drewN | apply Kd.R_drew));exact Kd.R_mono HO11.out (fun _ hk=>⟨hk.1.1.2,⟨hk.1.1.1,⟨hk.1.2,hk.2⟩⟩⟩)⟩,⟨by (with_reducible repeat (first | apply Kd.R_alloc | apply Kd.R_drewN | apply Kd.R_drew));exact Kd.R_mono HO14.out (fun _ hk=>⟨hk.1.1.2,⟨hk.1.1.1,⟨hk.1.2,hk.2⟩⟩⟩)⟩,⟨by (with_reducible repeat (first | apply Kd.R_alloc | apply Kd.R_drewN | apply Kd.R_drew));exact Kd.R_mono HO17.out (fun _ hk=>⟨hk.1.1.2,⟨hk.1.2,⟨hk.2,hk.1.1.1⟩⟩⟩)⟩,⟨by (with_reducible repeat (first | apply Kd.R_alloc | apply Kd.R_drewN | apply Kd.R_drew));exact Kd.R_mono HO20.out (fun _ hk=>⟨hk.1.1.2,⟨hk.1.2,⟨hk.2,hk.1.1.1⟩⟩⟩)⟩,⟨by (with_reducible repeat (first | apply Kd.R_alloc | apply Kd.R_drewN | apply Kd.R_drew));exact HO3.out⟩,⟨by (with_reducible repeat (first | refine blk_drewN ?_ _ | refine blk_drew ?_ | refine blk_alloc ?_ _));exact BK8.out⟩,⟨hb_⟩⟩
  case rest =>
   clear HC6
   try clear c1
   try clear c2
   try clear c2b0
   try clear c2b1
   try clear p2
   try clear c5
   try clear c13
   try clear c16
   try clear c18
   try clear c20
   try clear c24
   try clear c25
   try clear c26
   try clear hcz10_0
   try clear hcz13_0
   try clear hcz26_0
   try clear hcz28_0
   try clear hcz34_0
   try clear hfz10_0
   try clear hfz13_0
   try clear hfz26_0
   try clear hfz28_0
   try clear hfz34_0
   obtain ⟨kq,x54_5,rfl,HA,HJ5,HO_4,HO_6,HO_7,HO_8,HO_9,Z9,BK8,HB⟩:=hcut
   cases kq with
   | zero=>exact absurd HA.out (by simp [laws_FnSplitGroupShape.j0])
   | succ kj5 =>
    have H:=HA.out
    clear HA
    simp only [laws_FnSplitGroupShape.j0] at H
    by_cases c42 : x54_5 = true
    ·subst c42
     have H1 : ((laws_equalGroup.f kj5 t9 t15).bind fun t25=>(if t25 = true then ((laws_equalGroup.f kj5 t12 t18).bind fun t26=>(some t26)) else (some false))) = some r:=by rw [if_pos rfl] at H;exact H
     clear H
     have H:=H1
     clear H1
     replace H:=Option.bind_eq_some_iff.mp H
     obtain ⟨t25,A430,H⟩:=H
     try dsimp only at H
     have A43:=a0_ A430
     clear A430
     by_cases c44 : t25 = true
     ·subst c44
      have H1 : ((laws_equalGroup.f kj5 t12 t18).bind fun t26=>(some t26)) = some r:=by rw [if_pos rfl] at H;exact H
      clear H
      have H:=H1
      clear H1
      replace H:=Option.bind_eq_some_iff.mp H
      obtain ⟨t26,A450,H⟩:=H
      replace H : (some t26) = some r:=H
      have A45:=a0_ A450
      clear A450
      obtain rfl:=Option.some.inj H
      obtain ⟨Ao46,co46,eo46⟩:=Kd.R_slice HO_6.out
      subst eo46
      obtain ⟨Ao47,co47,eo47⟩:=Kd.R_slice HO_8.out
      subst eo47
      go_wp2_with (first | ((with_reducible refine gate_callee (f:=13) rfl ?_);refine goesL_ (some 57) rfl rfl Try.func13 (by kernel_rfl) rfl #[.slice Ao46 t9.length co46,.slice Ao47 t15.length co47] rfl lm_ ?_;(with_reducible refine (laws_equalGroup.calls kj5 _ _ t9 _ _ t15 true _ ?side1 ?side2 ?side3 ?side4 A43.out).mono ?_);(case side1=>exact cc_ (Kd.R_reads' HO_6.out).2.2);(case side2=>exact (Kd.R_reads' HO_6.out).2.1);(case side3=>exact cc_ (Kd.R_reads' HO_8.out).2.2);(case side4=>exact (Kd.R_reads' HO_8.out).2.1);rintro e w' ⟨rfl,⟨nd,rfl⟩⟩;refine ⟨_,rfl,?_⟩;obtain ⟨Ao48,co48,eo48⟩:=Kd.R_slice HO_7.out;subst eo48;obtain ⟨Ao49,co49,eo49⟩:=Kd.R_slice HO_9.out;subst eo49) | (go_at_call 13;(with_reducible refine (laws_equalGroup.calls kj5 _ _ t12 _ _ t18 t26 _ ?side1 ?side2 ?side3 ?side4 A45.out).mono ?_);(case side1=>exact cc_ (Kd.R_reads' HO_7.out).2.2);(case side2=>exact (Kd.R_reads' HO_7.out).2.1);(case side3=>exact cc_ (Kd.R_reads' HO_9.out).2.2);(case side4=>exact (Kd.R_reads' HO_9.out).2.1);rintro e w' ⟨rfl,⟨nd,rfl⟩⟩))
      go_ret
      exact ⟨by first | rfl | (simp [errW_none,errW_some] <;> rfl) | (simp [*,errW_none,errW_some] <;> rfl),hb_⟩
     ·replace c44:=Bool.eq_false_iff.mpr c44
      subst c44
      have H1 : (some false) = some r:=by rw [if_neg (show ¬ (false = true) by decide)] at H;exact H
      clear H
      have H:=H1
      clear H1
      obtain rfl:=Option.some.inj H
      obtain ⟨Ao50,co50,eo50⟩:=Kd.R_slice HO_6.out
      subst eo50
      obtain ⟨Ao51,co51,eo51⟩:=Kd.R_slice HO_8.out
      subst eo51
      go_wp2_with (first | ((with_reducible refine gate_callee (f:=13) rfl ?_);refine goesL_ (some 57) rfl rfl Try.func13 (by kernel_rfl) rfl #[.slice Ao50 t9.length co50,.slice Ao51 t15.length co51] rfl lm_ ?_;(with_reducible refine (laws_equalGroup.calls kj5 _ _ t9 _ _ t15 false _ ?side1 ?side2 ?side3 ?side4 A43.out).mono ?_);(case side1=>exact cc_ (Kd.R_reads' HO_6.out).2.2);(case side2=>exact (Kd.R_reads' HO_6.out).2.1);(case side3=>exact cc_ (Kd.R_reads' HO_8.out).2.2);(case side4=>exact (Kd.R_reads' HO_8.out).2.1);rintro e w' ⟨rfl,⟨nd,rfl⟩⟩;refine ⟨_,rfl,?_⟩))
      go_ret
      exact ⟨by first | rfl | (simp [errW_none,errW_some] <;> rfl) | (simp [*,errW_none,errW_some] <;> rfl),hb_⟩
    ·replace c42:=Bool.eq_false_iff.mpr c42
     subst c42
     have H1 : (if (t9.length : Int) > 0 then ((impl_ValidGroup.f kj5 t1 t9).bind fun t27=>(if t27 = true then (if 0 < (t9.length : Int) then (if 0 < (t4.length : Int) then (if (!(((rd_T47 t9 0).f0) == ((rd_T47 t4 0).f0)) || (!(((rd_T47 t9 0).f1) == ((rd_T47 t4 0).f1)) || (!(((rd_T47 t9 0).f2) == ((rd_T47 t4 0).f2)) || (!(((rd_T47 t9 0).f3) == ((rd_T47 t4 0).f3)))))) = true then (laws_FnSplitGroupShape.j1 kj5 t4 t7 t9 t12 true t1) else ((impl_GroupDepth.f kj5 t1 t9).bind fun t30=>((impl_GroupDepth.f kj5 t1 t4).bind fun t31=>(laws_FnSplitGroupShape.j1 kj5 t4 t7 t9 t12 (decide (t30 > t31)) t1)))) else (none)) else (none)) else (laws_FnSplitGroupShape.j1 kj5 t4 t7 t9 t12 true t1))) else (laws_FnSplitGroupShape.j1 kj5 t4 t7 t9 t12 false t1)) = some r:=by rw [if_neg (show ¬ (false = true) by decide)] at H;exact H
     clear H
     have H:=H1
     clear H1
     have HC52:=a0_ H
     clear H
     go_upto_region 8 with (fail)
     go_cut [89] (fun v89 wc=>∃ (kq : Nat) (x89_51 : Bool),v89 = .bool x89_51 ∧ Aside0 (laws_FnSplitGroupShape.j1 kq t4 t7 t9 t12 x89_51 t1 = some r) ∧ Aside0 (kq ≤ kj5) ∧ Aside0 (Kd.R k47 47 wc w.heap.size (fun k_=>some k_ ≠ (v10 : Value).ownBlock ∧ some k_ ≠ (v13 : Value).ownBlock) (.slice Ao11 t4.length co11) t4) ∧ Aside0 (Kd.R k47 47 wc w.heap.size (fun k_=>some k_ ≠ ((.slice Ao11 t4.length co11) : Value).ownBlock ∧ some k_ ≠ (v13 : Value).ownBlock) v10 t9) ∧ Aside0 (Kd.R k47 47 wc w.heap.size (fun k_=>some k_ ≠ ((.slice Ao11 t4.length co11) : Value).ownBlock ∧ some k_ ≠ (v10 : Value).ownBlock) v13 t12) ∧ Aside0 (Kd.R k85 85 wc w.heap.size (fun _=>True) (.slice Ao9 t1.length co9) t1) ∧ Aside0 (wc.heap[gb8]? = some (.cells #[(.slice Ao9 t1.length co9)] 25 (0,0))) ∧ Aside0 (Below w.heap.size w wc))
     case first =>
      have H:=HC52.out
      clear HC52
      by_cases c53 : (t9.length : Int) > 0
      ·rw [if_pos c53] at H
       have c53b0 : decide (0 < (t9.length : Int)) = true:=decide_eq_true c53
       have c53b1 : decide (0 < t9.length) = true:=decide_eq_true (by omega)
       clear c53
       (first | rw [c53b0] | (simp only [i64_w,i32_w];rw [c53b0]) | skip)
       replace H:=Option.bind_eq_some_iff.mp H
       obtain ⟨t27,A540,H⟩:=H
       try dsimp only at H
       have A54:=a0_ A540
       clear A540
       by_cases c55 : t27 = true
       ·subst c55
        have H1 : (if 0 < (t9.length : Int) then (if 0 < (t4.length : Int) then (if (!(((rd_T47 t9 0).f0) == ((rd_T47 t4 0).f0)) || (!(((rd_T47 t9 0).f1) == ((rd_T47 t4 0).f1)) || (!(((rd_T47 t9 0).f2) == ((rd_T47 t4 0).f2)) || (!(((rd_T47 t9 0).f3) == ((rd_T47 t4 0).f3)))))) = true then (laws_FnSplitGroupShape.j1 kj5 t4 t7 t9 t12 true t1) else ((impl_GroupDepth.f kj5 t1 t9).bind fun t30=>((impl_GroupDepth.f kj5 t1 t4).bind fun t31=>(laws_FnSplitGroupShape.j1 kj5 t4 t7 t9 t12 (decide (t30 > t31)) t1)))) else (none)) else (none)) = some r:=by rw [if_pos rfl] at H;exact H
        clear H
        have H:=H1
        clear H1
        by_cases c56 : 0 < (t9.length : Int)
        ·rw [if_pos c56] at H
         have c56b0 : decide (0 < (t9.length : Int)) = true:=decide_eq_true c56
         have c56b1 : decide (0 < t9.length) = true:=decide_eq_true (by omega)
         clear c56
         by_cases c57 : 0 < (t4.length : Int)
         ·rw [if_pos c57] at H
          have c57b0 : decide (0 < (t4.length : Int)) = true:=decide_eq_true c57
          have c57b1 : decide (0 < t4.length) = true:=decide_eq_true (by omega)
          clear c57
          by_cases c58 : (!(((rd_T47 t9 0).f0) == ((rd_T47 t4 0).f0)) || (!(((rd_T47 t9 0).f1) == ((rd_T47 t4 0).f1)) || (!(((rd_T47 t9 0).f2) == ((rd_T47 t4 0).f2)) || (!(((rd_T47 t9 0).f3) == ((rd_T47 t4 0).f3)))))) = true
          ·rw [if_pos c58] at H
           have c58b0 : (!(((rd_T47 t9 0).f0) == ((rd_T47 t4 0).f0)) || (!(((rd_T47 t9 0).f1) == ((rd_T47 t4 0).f1)) || (!(((rd_T47 t9 0).f2) == ((rd_T47 t4 0).f2)) || (!(((rd_T47 t9 0).f3) == ((rd_T47 t4 0).f3)))))) = true:=c58
           clear c58
           have H':=a0_ H
           clear H
           try go_wp2
           have n0_:=a0_ (Kd.R_drew HO_4.out)
           have n1_:=a0_ (Kd.R_drew HO_6.out)
           have n2_:=a0_ (Kd.R_drew HO_7.out)
           have n3_:=a0_ (Kd.R_drew HO_8.out)
           have n4_:=a0_ (Kd.R_drew HO_9.out)
           have n5_:=a0_ (Kd.R_drew Z9.out)
           have n6_:=a0_ (blk_drew BK8.out)
           have n7_:=a0_ (below_drew1 HB.out)
           clear HO_4
           clear HO_6
           clear HO_7
           clear HO_8
           clear HO_9
           clear Z9
           clear BK8
           clear HB
           have HO_4:=n0_
           have HO_6:=n1_
           have HO_7:=n2_
           have HO_8:=n3_
           have HO_9:=n4_
           have Z9:=n5_
           have BK8:=n6_
           have HB:=n7_
           clear n0_ n1_ n2_ n3_ n4_ n5_ n6_ n7_
           obtain ⟨Ao60,co60,eo60⟩:=Kd.R_slice HO_6.out
           (first | subst eo60 | (injection eo60 with f1_ f2_ f3_;have f4_:=f1_.symm;have f5_:=f3_.symm;clear f1_ f2_ f3_;subst f4_;subst f5_))
           have p28 : 0 ≤ (0 : Int):=(by omega)
           have q28 : 0 < (t9.length : Int):=of_decide_eq_true (by first | (with_reducible assumption) | assumption)
           obtain ⟨ad28,e28,hx28_0,hx28_1,hx28_2,hx28_3⟩:=at_T47 (Kd.R_reads' HO_6.out).2.2 0 p28 q28
           cases e28
           have qi28 : (0 < t9.length) = True:=eq_true (by omega)
           (try rw [show ((0 : Int)).toNat = 0 from rfl] at hx28_0)
           (try rw [show 0 * 4 = 0 from rfl] at hx28_0)
           (try rw [Addr.add_zero'] at hx28_0)
           (try rw [show ((0 : Int)).toNat = 0 from rfl] at hx28_1)
           (try rw [show 0 * 4 = 0 from rfl] at hx28_1)
           (try rw [Addr.add_zero'] at hx28_1)
           (try rw [show ((0 : Int)).toNat = 0 from rfl] at hx28_2)
           (try rw [show 0 * 4 = 0 from rfl] at hx28_2)
           (try rw [Addr.add_zero'] at hx28_2)
           (try rw [show ((0 : Int)).toNat = 0 from rfl] at hx28_3)
           (try rw [show 0 * 4 = 0 from rfl] at hx28_3)
           (try rw [Addr.add_zero'] at hx28_3)
           replace p28:=eq_true p28
           replace q28:=eq_true q28
           have p29 : 0 ≤ (0 : Int):=(by omega)
           have q29 : 0 < (t4.length : Int):=of_decide_eq_true (by first | (with_reducible assumption) | assumption)
           obtain ⟨ad29,e29,hx29_0,hx29_1,hx29_2,hx29_3⟩:=at_T47 (Kd.R_reads' HO_4.out).2.2 0 p29 q29
           cases e29
           have qi29 : (0 < t4.length) = True:=eq_true (by omega)
           (try rw [show ((0 : Int)).toNat = 0 from rfl] at hx29_0)
           (try rw [show 0 * 4 = 0 from rfl] at hx29_0)
           (try rw [Addr.add_zero'] at hx29_0)
           (try rw [show ((0 : Int)).toNat = 0 from rfl] at hx29_1)
           (try rw [show 0 * 4 = 0 from rfl] at hx29_1)
           (try rw [Addr.add_zero'] at hx29_1)
           (try rw [show ((0 : Int)).toNat = 0 from rfl] at hx29_2)
           (try rw [show 0 * 4 = 0 from rfl] at hx29_2)
           (try rw [Addr.add_zero'] at hx29_2)
           (try rw [show ((0 : Int)).toNat = 0 from rfl] at hx29_3)
           (try rw [show 0 * 4 = 0 from rfl] at hx29_3)
           (try rw [Addr.add_zero'] at hx29_3)
           replace p29:=eq_true p29
           replace q29:=eq_true q29
           refine start_ (n:=27) (S:=fun w'=>w'.cell? ⟨gb8,0,none⟩ = some (.slice Ao9 t1.length co9) ∧ w'.cell? ad28 = some (.int .i64 ((rd_T47 t9 0).f0)) ∧ w'.cell? ⟨ad28.block,ad28.off + 1,none⟩ = some (.bool ((rd_T47 t9 0).f1)) ∧ w'.cell? ⟨ad28.block,ad28.off + 2,none⟩ = some (.int .i64 ((rd_T47 t9 0).f2)) ∧ w'.cell? ⟨ad28.block,ad28.off + 3,none⟩ = some (.int .i64 ((rd_T47 t9 0).f3)) ∧ w'.cell? ad29 = some (.int .i64 ((rd_T47 t4 0).f0)) ∧ w'.cell? ⟨ad29.block,ad29.off + 1,none⟩ = some (.bool ((rd_T47 t4 0).f1)) ∧ w'.cell? ⟨ad29.block,ad29.off + 2,none⟩ = some (.int .i64 ((rd_T47 t4 0).f2)) ∧ w'.cell? ⟨ad29.block,ad29.off + 3,none⟩ = some (.int .i64 ((rd_T47 t4 0).f3))) (ds:=[]) #[false,false,false,false,false,false,false,false,false,false,false,false,false,false,false,false,false,false,false,false,false,false,false,false,false,false,false] (by kernel_rfl) rfl rfl ⟨(blk_cell BK8.out 0).trans rfl,hx28_0,hx28_1,hx28_2,hx28_3,hx29_0,hx29_1,hx29_2,hx29_3⟩ (fun hHeld=>?_);refine with_tabW laws_FnSplitGroupShape.tab8 laws_FnSplitGroupShape.bits8 (fun HT_ HW_=>?_)
           generalize wc.drew = w59 at HO_4 HO_6 HO_7 HO_8 HO_9 Z9 BK8 HB hx28_0 hx28_1 hx28_2 hx28_3 hx29_0 hx29_1 hx29_2 hx29_3 hHeld ⊢
           refine pure_ (i:=0) (N:=some 63) (v:=?_) (a':=?_) #[true,false,false,false,false,false,false,false,false,false,false,false,false,false,false,false,false,false,false,false,false,false,false,false,false,false,false] rfl rfl (any_of HT_.out (by kernel_rfl)) (fun _ _ _ h=>h) (Or.inl ⟨by rfl,?_⟩) ?_ ?_
           rotate_left
           ·intro w'
            go_simp
            with_reducible rfl
           rotate_left
           ·simp only [Act.put,s1_,s2_,s3_,i64_w,i32_w]
            rfl
           refine pure_ (i:=1) (N:=some 64) (v:=?_) (a':=?_) #[true,true,false,false,false,false,false,false,false,false,false,false,false,false,false,false,false,false,false,false,false,false,false,false,false,false,false] rfl rfl (any_of HT_.out (by kernel_rfl)) (fun _ _ _ h=>h) (Or.inl ⟨by rfl,?_⟩) ?_ ?_
           rotate_left
           ·intro w'
            go_simp
            with_reducible rfl
           rotate_left
           ·simp only [Act.put,s1_,s2_,s3_,i64_w,i32_w]
            rfl
           refine pure_ (i:=2) (N:=some 65) (v:=?_) (a':=?_) #[true,true,true,false,false,false,false,false,false,false,false,false,false,false,false,false,false,false,false,false,false,false,false,false,false,false,false] rfl rfl (any_of HT_.out (by kernel_rfl)) (fun _ _ _ h=>h) (Or.inl ⟨by rfl,?_⟩) ?_ ?_
           rotate_left
           ·intro w'
            go_simp
            with_reducible rfl
           rotate_left
           ·simp only [Act.put,s1_,s2_,s3_,i64_w,i32_w]
            rfl
           refine pure_ (i:=3) (N:=some 66) (v:=?_) (a':=?_) #[true,true,true,true,false,false,false,false,false,false,false,false,false,false,false,false,false,false,false,false,false,false,false,false,false,false,false] rfl rfl (any_of HT_.out (by kernel_rfl)) (fun _ _ _ h=>h) (Or.inl ⟨by rfl,?_⟩) ?_ ?_
           rotate_left
           ·intro w'
            go_simp
            with_reducible rfl
           rotate_left
           ·simp only [Act.put,s1_,s2_,s3_,i64_w,i32_w]
            rfl
           refine pure_ (i:=5) (N:=some 68) (v:=?_) (a':=?_) #[true,true,true,true,false,true,false,false,false,false,false,false,false,false,false,false,false,false,false,false,false,false,false,false,false,false,false] rfl rfl (any_of HT_.out (by kernel_rfl)) (fun _ _ _ h=>h) (Or.inl ⟨by rfl,?_⟩) ?_ ?_
           rotate_left
           ·intro w'
            go_simp
            with_reducible rfl
           rotate_left
           ·simp only [Act.put,s1_,s2_,s3_,i64_w,i32_w]
            rfl
           refine take_ (i:=4) (N:=some 67) (v:=?_) (a':=?_) #[true,true,true,true,true,true,false,false,false,false,false,false,false,false,false,false,false,false,false,false,false,false,false,false,false,false,false] rfl rfl (take_ofW HT_.out HW_.out (by kernel_rfl)) (fun _ _ _ h=>h) (Or.inl ⟨by rfl,?_⟩) hHeld ?_ ?_
           rotate_left
           ·rintro w' ⟨s0,s1,s2,s3,s4,s5,s6,s7,s8⟩
            go_simp
            with_reducible rfl
           rotate_left
           ·simp only [Act.put,s1_,s2_,s3_,i64_w,i32_w]
            rfl
           refine one_ (i:=6) (N:=some 69) #[true,true,true,true,true,true,true,false,false,false,false,false,false,false,false,false,false,false,false,false,false,false,false,false,false,false,false] rfl rfl (one_of HT_.out (by kernel_rfl)) (by decide) (fun K hK=>?_)
           refine goes_ Try.func15 (by kernel_rfl) rfl #[.agg #[.slice Ao9 t1.length co9],.slice (some ad28) t9.length co60] (by rfl) rfl rfl lm_ ?_
           with_reducible refine (impl_ValidGroup.calls kj5 _ _ t1 _ _ t9 true _ ?side1 ?side2 ?side3 ?side4 A54.out).mono ?_
           (case side1=>exact cc_ (Kd.R_reads' Z9.out).2.2)
           (case side2=>exact (Kd.R_reads' Z9.out).2.1)
           (case side3=>exact cc_ (Kd.R_reads' HO_6.out).2.2)
           (case side4=>exact (Kd.R_reads' HO_6.out).2.1)
           rintro e w61 ⟨rfl,hb⟩
           have HS1_:=(hb.cell (World.block_lt_of_cell? _ _ (hHeld.2.1))).trans (hHeld.2.1)
           have HS2_:=(hb.cell (World.block_lt_of_cell? _ _ (hHeld.2.2.1))).trans (hHeld.2.2.1)
           have HS3_:=(hb.cell (World.block_lt_of_cell? _ _ (hHeld.2.2.2.1))).trans (hHeld.2.2.2.1)
           have HS4_:=(hb.cell (World.block_lt_of_cell? _ _ (hHeld.2.2.2.2.1))).trans (hHeld.2.2.2.2.1)
           have HS5_:=(hb.cell (World.block_lt_of_cell? _ _ (hHeld.2.2.2.2.2.1))).trans (hHeld.2.2.2.2.2.1)
           have HS6_:=(hb.cell (World.block_lt_of_cell? _ _ (hHeld.2.2.2.2.2.2.1))).trans (hHeld.2.2.2.2.2.2.1)
           have HS7_:=(hb.cell (World.block_lt_of_cell? _ _ (hHeld.2.2.2.2.2.2.2.1))).trans (hHeld.2.2.2.2.2.2.2.1)
           have HS8_:=(hb.cell (World.block_lt_of_cell? _ _ (hHeld.2.2.2.2.2.2.2.2))).trans (hHeld.2.2.2.2.2.2.2.2)
           refine ⟨_,rfl,?_⟩
           have n0_:=rb_ HO_4 hb
           have n1_:=rb_ HO_6 hb
           have n2_:=rb_ HO_7 hb
           have n3_:=rb_ HO_8 hb
           have n4_:=rb_ HO_9 hb
           have n5_:=rb_ Z9 hb
           have n6_:=kb_ BK8 hb
           have n7_:=a0_ (below_step hb_ hb)
           clear HO_4
           clear HO_6
           clear HO_7
           clear HO_8
           clear HO_9
           clear Z9
           clear BK8
           clear HB
           have HO_4:=n0_
           have HO_6:=n1_
           have HO_7:=n2_
           have HO_8:=n3_
           have HO_9:=n4_
           have Z9:=n5_
           have BK8:=n6_
           have HB:=n7_
           clear n0_ n1_ n2_ n3_ n4_ n5_ n6_ n7_
           (try clear hb)
           (try clear hb2)
           (try clear hk)
           (try clear hi)
           refine hK.out _ _ ⟨(blk_cell BK8.out 0).trans rfl,HS1_,HS2_,HS3_,HS4_,HS5_,HS6_,HS7_,HS8_⟩ (fun hHeld=>?_)
           clear hK K
           refine norm_ (a':=?_) ?_ ?_
           rotate_left
           ·show Act.put _ (some 69) _ = _
            simp only [Act.put,s1_,s2_,s3_,i64_w,i32_w]
            rfl
           refine pure_ (i:=7) (N:=some 70) (v:=?_) (a':=?_) #[true,true,true,true,true,true,true,true,false,false,false,false,false,false,false,false,false,false,false,false,false,false,false,false,false,false,false] rfl rfl (any_of HT_.out (by kernel_rfl)) (fun _ _ _ h=>h) (Or.inl ⟨by rfl,?_⟩) ?_ ?_
           rotate_left
           ·intro w'
            go_simp
            with_reducible rfl
           rotate_left
           ·simp only [Act.put,s1_,s2_,s3_,i64_w,i32_w]
            rfl
           refine pure_ (i:=8) (N:=some 71) (v:=?_) (a':=?_) #[true,true,true,true,true,true,true,true,true,false,false,false,false,false,false,false,false,false,false,false,false,false,false,false,false,false,false] rfl rfl (any_of HT_.out (by kernel_rfl)) (fun _ _ _ h=>h) (Or.inl ⟨by rfl,?_⟩) ?_ ?_
           rotate_left
           ·intro w'
            go_simp
            with_reducible rfl
           rotate_left
           ·simp only [Act.put,s1_,s2_,s3_,i64_w,i32_w]
            rfl
           refine pure_ (i:=9) (N:=some 72) (v:=?_) (a':=?_) #[true,true,true,true,true,true,true,true,true,true,false,false,false,false,false,false,false,false,false,false,false,false,false,false,false,false,false] rfl rfl (any_of HT_.out (by kernel_rfl)) (fun _ _ _ h=>h) (Or.inl ⟨by rfl,?_⟩) ?_ ?_
           rotate_left
           ·intro w'
            go_simp
            with_reducible rfl
           rotate_left
           ·simp only [Act.put,s1_,s2_,s3_,i64_w,i32_w]
            rfl
           refine pure_ (i:=10) (N:=some 73) (v:=?_) (a':=?_) #[true,true,true,true,true,true,true,true,true,true,true,false,false,false,false,false,false,false,false,false,false,false,false,false,false,false,false] rfl rfl (any_of HT_.out (by kernel_rfl)) (fun _ _ _ h=>h) (Or.inl ⟨by rfl,?_⟩) ?_ ?_
           rotate_left
           ·intro w'
            go_simp
            with_reducible rfl
           rotate_left
           ·simp only [Act.put,s1_,s2_,s3_,i64_w,i32_w]
            rfl
           refine pure_ (i:=12) (N:=some 75) (v:=?_) (a':=?_) #[true,true,true,true,true,true,true,true,true,true,true,false,true,false,false,false,false,false,false,false,false,false,false,false,false,false,false] rfl rfl (any_of HT_.out (by kernel_rfl)) (fun _ _ _ h=>h) (Or.inl ⟨by rfl,?_⟩) ?_ ?_
           rotate_left
           ·intro w'
            go_simp
            with_reducible rfl
           rotate_left
           ·simp only [Act.put,s1_,s2_,s3_,i64_w,i32_w]
            rfl
           refine pure_ (i:=13) (N:=some 76) (v:=?_) (a':=?_) #[true,true,true,true,true,true,true,true,true,true,true,false,true,true,false,false,false,false,false,false,false,false,false,false,false,false,false] rfl rfl (any_of HT_.out (by kernel_rfl)) (fun _ _ _ h=>h) (Or.inl ⟨by rfl,?_⟩) ?_ ?_
           rotate_left
           ·intro w'
            go_simp
            with_reducible rfl
           rotate_left
           ·simp only [Act.put,s1_,s2_,s3_,i64_w,i32_w]
            rfl
           refine take_ (i:=11) (N:=some 74) (v:=?_) (a':=?_) #[true,true,true,true,true,true,true,true,true,true,true,true,true,true,false,false,false,false,false,false,false,false,false,false,false,false,false] rfl rfl (take_ofW HT_.out HW_.out (by kernel_rfl)) (fun _ _ _ h=>h) (Or.inl ⟨by rfl,?_⟩) hHeld ?_ ?_
           rotate_left
           ·rintro w' ⟨s0,s1,s2,s3,s4,s5,s6,s7,s8⟩
            go_simp
            with_reducible rfl
           rotate_left
           ·simp only [Act.put,s1_,s2_,s3_,i64_w,i32_w]
            rfl
           refine take_ (i:=14) (N:=some 77) (v:=?_) (a':=?_) #[true,true,true,true,true,true,true,true,true,true,true,true,true,true,true,false,false,false,false,false,false,false,false,false,false,false,false] rfl rfl (take_ofW HT_.out HW_.out (by kernel_rfl)) (fun _ _ _ h=>h) (Or.inl ⟨by rfl,?_⟩) hHeld ?_ ?_
           rotate_left
           ·rintro w' ⟨s0,s1,s2,s3,s4,s5,s6,s7,s8⟩
            go_simp
            with_reducible rfl
           rotate_left
           ·simp only [Act.put,s1_,s2_,s3_,i64_w,i32_w]
            rfl
           refine pure_ (i:=15) (N:=some 78) (v:=?_) (a':=?_) #[true,true,true,true,true,true,true,true,true,true,true,true,true,true,true,true,false,false,false,false,false,false,false,false,false,false,false] rfl rfl (any_of HT_.out (by kernel_rfl)) (fun _ _ _ h=>h) (Or.inl ⟨by rfl,?_⟩) ?_ ?_
           rotate_left
           ·intro w'
            go_simp
            with_reducible rfl
           rotate_left
           ·simp only [Act.put,s1_,s2_,s3_,i64_w,i32_w]
            rfl
           refine pure_ (i:=16) (N:=some 79) (v:=?_) (a':=?_) #[true,true,true,true,true,true,true,true,true,true,true,true,true,true,true,true,true,false,false,false,false,false,false,false,false,false,false] rfl rfl (any_of HT_.out (by kernel_rfl)) (fun _ _ _ h=>h) (Or.inl ⟨by rfl,?_⟩) ?_ ?_
           rotate_left
           ·intro w'
            go_simp
            with_reducible rfl
           rotate_left
           ·simp only [Act.put,s1_,s2_,s3_,i64_w,i32_w]
            rfl
           refine pure_ (i:=17) (N:=some 80) (v:=?_) (a':=?_) #[true,true,true,true,true,true,true,true,true,true,true,true,true,true,true,true,true,true,false,false,false,false,false,false,false,false,false] rfl rfl (any_of HT_.out (by kernel_rfl)) (fun _ _ _ h=>h) (Or.inl ⟨by rfl,?_⟩) ?_ ?_
           rotate_left
           ·intro w'
            go_simp
            with_reducible rfl
           rotate_left
           ·simp only [Act.put,s1_,s2_,s3_,i64_w,i32_w]
            rfl
           refine pure_ (i:=18) (N:=some 81) (v:=undef) (a':=?_) #[true,true,true,true,true,true,true,true,true,true,true,true,true,true,true,true,true,true,true,false,false,false,false,false,false,false,false] rfl rfl (any_of HT_.out (by kernel_rfl)) (fun _ _ _ h=>h) (Or.inr ⟨by rfl,rfl⟩) ?_ ?_
           rotate_left
           ·simp only [Act.put,s1_,s2_,s3_,i64_w,i32_w]
            rfl
           refine pure_ (i:=19) (N:=some 82) (v:=undef) (a':=?_) #[true,true,true,true,true,true,true,true,true,true,true,true,true,true,true,true,true,true,true,true,false,false,false,false,false,false,false] rfl rfl (any_of HT_.out (by kernel_rfl)) (fun _ _ _ h=>h) (Or.inr ⟨by rfl,rfl⟩) ?_ ?_
           rotate_left
           ·simp only [Act.put,s1_,s2_,s3_,i64_w,i32_w]
            rfl
           refine pure_ (i:=20) (N:=some 83) (v:=undef) (a':=?_) #[true,true,true,true,true,true,true,true,true,true,true,true,true,true,true,true,true,true,true,true,true,false,false,false,false,false,false] rfl rfl (any_of HT_.out (by kernel_rfl)) (fun _ _ _ h=>h) (Or.inr ⟨by rfl,rfl⟩) ?_ ?_
           rotate_left
           ·simp only [Act.put,s1_,s2_,s3_,i64_w,i32_w]
            rfl
           refine pure_ (i:=21) (N:=some 84) (v:=undef) (a':=?_) #[true,true,true,true,true,true,true,true,true,true,true,true,true,true,true,true,true,true,true,true,true,true,false,false,false,false,false] rfl rfl (any_of HT_.out (by kernel_rfl)) (fun _ _ _ h=>h) (Or.inr ⟨by rfl,rfl⟩) ?_ ?_
           rotate_left
           ·simp only [Act.put,s1_,s2_,s3_,i64_w,i32_w]
            rfl
           refine pure_ (i:=22) (N:=some 85) (v:=undef) (a':=?_) #[true,true,true,true,true,true,true,true,true,true,true,true,true,true,true,true,true,true,true,true,true,true,true,false,false,false,false] rfl rfl (any_of HT_.out (by kernel_rfl)) (fun _ _ _ h=>h) (Or.inr ⟨by rfl,rfl⟩) ?_ ?_
           rotate_left
           ·simp only [Act.put,s1_,s2_,s3_,i64_w,i32_w]
            rfl
           refine pure_ (i:=23) (N:=some 86) (v:=undef) (a':=?_) #[true,true,true,true,true,true,true,true,true,true,true,true,true,true,true,true,true,true,true,true,true,true,true,true,false,false,false] rfl rfl (any_of HT_.out (by kernel_rfl)) (fun _ _ _ h=>h) (Or.inr ⟨by rfl,rfl⟩) ?_ ?_
           rotate_left
           ·simp only [Act.put,s1_,s2_,s3_,i64_w,i32_w]
            rfl
           refine pure_ (i:=24) (N:=some 87) (v:=undef) (a':=?_) #[true,true,true,true,true,true,true,true,true,true,true,true,true,true,true,true,true,true,true,true,true,true,true,true,true,false,false] rfl rfl (any_of HT_.out (by kernel_rfl)) (fun _ _ _ h=>h) (Or.inr ⟨by rfl,rfl⟩) ?_ ?_
           rotate_left
           ·simp only [Act.put,s1_,s2_,s3_,i64_w,i32_w]
            rfl
           refine pure_ (i:=25) (N:=some 88) (v:=?_) (a':=?_) #[true,true,true,true,true,true,true,true,true,true,true,true,true,true,true,true,true,true,true,true,true,true,true,true,true,true,false] rfl rfl (any_of HT_.out (by kernel_rfl)) (fun _ _ _ h=>h) (Or.inl ⟨by rfl,?_⟩) ?_ ?_
           rotate_left
           ·intro w'
            go_simp
            with_reducible rfl
           rotate_left
           ·simp only [Act.put,s1_,s2_,s3_,i64_w,i32_w]
            rfl
           refine pure_ (i:=26) (N:=some 89) (v:=?_) (a':=?_) #[true,true,true,true,true,true,true,true,true,true,true,true,true,true,true,true,true,true,true,true,true,true,true,true,true,true,true] rfl rfl (any_of HT_.out (by kernel_rfl)) (fun _ _ _ h=>h) (Or.inl ⟨by rfl,?_⟩) ?_ ?_
           rotate_left
           ·intro w'
            go_simp
            with_reducible rfl
           rotate_left
           ·simp only [Act.put,s1_,s2_,s3_,i64_w,i32_w]
            rfl
           refine done_ (done_of HT_.out (by kernel_rfl)) ?_
           try go_wp2
           go_meet
           case rel=>exact ⟨_,(true),(by first | rfl | (simp;done) | (simp [*];done)),H',⟨by have:=HJ5.out;first | omega | exact Nat.le_refl _⟩,⟨by (with_reducible repeat (first | apply Kd.R_alloc | apply Kd.R_drewN | apply Kd.R_drew));exact Kd.R_mono HO_4.out (fun _ hk=>⟨hk.1,hk.2.1⟩)⟩,⟨by (with_reducible repeat (first | apply Kd.R_alloc | apply Kd.R_drewN | apply Kd.R_drew));exact Kd.R_mono HO_6.out (fun _ hk=>⟨hk.1,hk.2.1⟩)⟩,⟨by (with_reducible repeat (first | apply Kd.R_alloc | apply Kd.R_drewN | apply Kd.R_drew));exact Kd.R_mono HO_7.out (fun _ hk=>⟨hk.1,hk.2.1⟩)⟩,⟨by (with_reducible repeat (first | apply Kd.R_alloc | apply Kd.R_drewN | apply Kd.R_drew));exact Z9.out⟩,⟨by (with_reducible repeat (first | refine blk_drewN ?_ _ | refine blk_drew ?_ | refine blk_alloc ?_ _));exact BK8.out⟩,⟨hb_⟩⟩
          ·rw [if_neg c58] at H
           have c58b0 : (!(((rd_T47 t9 0).f0) == ((rd_T47 t4 0).f0)) || (!(((rd_T47 t9 0).f1) == ((rd_T47 t4 0).f1)) || (!(((rd_T47 t9 0).f2) == ((rd_T47 t4 0).f2)) || (!(((rd_T47 t9 0).f3) == ((rd_T47 t4 0).f3)))))) = false:=by simpa using c58
           clear c58
           replace H:=Option.bind_eq_some_iff.mp H
           obtain ⟨t30,A620,H⟩:=H
           try dsimp only at H
           have A62:=a0_ A620
           clear A620
           replace H:=Option.bind_eq_some_iff.mp H
           obtain ⟨t31,A630,H⟩:=H
           try dsimp only at H
           have A63:=a0_ A630
           clear A630
           have H':=a0_ H
           clear H
           try go_wp2
           have n0_:=a0_ (Kd.R_drew HO_4.out)
           have n1_:=a0_ (Kd.R_drew HO_6.out)
           have n2_:=a0_ (Kd.R_drew HO_7.out)
           have n3_:=a0_ (Kd.R_drew HO_8.out)
           have n4_:=a0_ (Kd.R_drew HO_9.out)
           have n5_:=a0_ (Kd.R_drew Z9.out)
           have n6_:=a0_ (blk_drew BK8.out)
           have n7_:=a0_ (below_drew1 HB.out)
           clear HO_4
           clear HO_6
           clear HO_7
           clear HO_8
           clear HO_9
           clear Z9
           clear BK8
           clear HB
           have HO_4:=n0_
           have HO_6:=n1_
           have HO_7:=n2_
           have HO_8:=n3_
           have HO_9:=n4_
           have Z9:=n5_
           have BK8:=n6_
           have HB:=n7_
           clear n0_ n1_ n2_ n3_ n4_ n5_ n6_ n7_
           obtain ⟨Ao65,co65,eo65⟩:=Kd.R_slice HO_6.out
           (first | subst eo65 | (injection eo65 with f1_ f2_ f3_;have f4_:=f1_.symm;have f5_:=f3_.symm;clear f1_ f2_ f3_;subst f4_;subst f5_))
           have p28 : 0 ≤ (0 : Int):=(by omega)
           have q28 : 0 < (t9.length : Int):=of_decide_eq_true (by first | (with_reducible assumption) | assumption)
           obtain ⟨ad28,e28,hx28_0,hx28_1,hx28_2,hx28_3⟩:=at_T47 (Kd.R_reads' HO_6.out).2.2 0 p28 q28
           cases e28
           have qi28 : (0 < t9.length) = True:=eq_true (by omega)
           (try rw [show ((0 : Int)).toNat = 0 from rfl] at hx28_0)
           (try rw [show 0 * 4 = 0 from rfl] at hx28_0)
           (try rw [Addr.add_zero'] at hx28_0)
           (try rw [show ((0 : Int)).toNat = 0 from rfl] at hx28_1)
           (try rw [show 0 * 4 = 0 from rfl] at hx28_1)
           (try rw [Addr.add_zero'] at hx28_1)
           (try rw [show ((0 : Int)).toNat = 0 from rfl] at hx28_2)
           (try rw [show 0 * 4 = 0 from rfl] at hx28_2)
           (try rw [Addr.add_zero'] at hx28_2)
           (try rw [show ((0 : Int)).toNat = 0 from rfl] at hx28_3)
           (try rw [show 0 * 4 = 0 from rfl] at hx28_3)
           (try rw [Addr.add_zero'] at hx28_3)
           replace p28:=eq_true p28
           replace q28:=eq_true q28
           have p29 : 0 ≤ (0 : Int):=(by omega)
           have q29 : 0 < (t4.length : Int):=of_decide_eq_true (by first | (with_reducible assumption) | assumption)
           obtain ⟨ad29,e29,hx29_0,hx29_1,hx29_2,hx29_3⟩:=at_T47 (Kd.R_reads' HO_4.out).2.2 0 p29 q29
           cases e29
           have qi29 : (0 < t4.length) = True:=eq_true (by omega)
           (try rw [show ((0 : Int)).toNat = 0 from rfl] at hx29_0)
           (try rw [show 0 * 4 = 0 from rfl] at hx29_0)
           (try rw [Addr.add_zero'] at hx29_0)
           (try rw [show ((0 : Int)).toNat = 0 from rfl] at hx29_1)
           (try rw [show 0 * 4 = 0 from rfl] at hx29_1)
           (try rw [Addr.add_zero'] at hx29_1)
           (try rw [show ((0 : Int)).toNat = 0 from rfl] at hx29_2)
           (try rw [show 0 * 4 = 0 from rfl] at hx29_2)
           (try rw [Addr.add_zero'] at hx29_2)
           (try rw [show ((0 : Int)).toNat = 0 from rfl] at hx29_3)
           (try rw [show 0 * 4 = 0 from rfl] at hx29_3)
           (try rw [Addr.add_zero'] at hx29_3)
           replace p29:=eq_true p29
           replace q29:=eq_true q29
           refine start_ (n:=27) (S:=fun w'=>w'.cell? ⟨gb8,0,none⟩ = some (.slice Ao9 t1.length co9) ∧ w'.cell? ad28 = some (.int .i64 ((rd_T47 t9 0).f0)) ∧ w'.cell? ⟨ad28.block,ad28.off + 1,none⟩ = some (.bool ((rd_T47 t9 0).f1)) ∧ w'.cell? ⟨ad28.block,ad28.off + 2,none⟩ = some (.int .i64 ((rd_T47 t9 0).f2)) ∧ w'.cell? ⟨ad28.block,ad28.off + 3,none⟩ = some (.int .i64 ((rd_T47 t9 0).f3)) ∧ w'.cell? ad29 = some (.int .i64 ((rd_T47 t4 0).f0)) ∧ w'.cell? ⟨ad29.block,ad29.off + 1,none⟩ = some (.bool ((rd_T47 t4 0).f1)) ∧ w'.cell? ⟨ad29.block,ad29.off + 2,none⟩ = some (.int .i64 ((rd_T47 t4 0).f2)) ∧ w'.cell? ⟨ad29.block,ad29.off + 3,none⟩ = some (.int .i64 ((rd_T47 t4 0).f3))) (ds:=[]) #[false,false,false,false,false,false,false,false,false,false,false,false,false,false,false,false,false,false,false,false,false,false,false,false,false,false,false] (by kernel_rfl) rfl rfl ⟨(blk_cell BK8.out 0).trans rfl,hx28_0,hx28_1,hx28_2,hx28_3,hx29_0,hx29_1,hx29_2,hx29_3⟩ (fun hHeld=>?_);refine with_tabW laws_FnSplitGroupShape.tab8 laws_FnSplitGroupShape.bits8 (fun HT_ HW_=>?_)
           generalize wc.drew = w64 at HO_4 HO_6 HO_7 HO_8 HO_9 Z9 BK8 HB hx28_0 hx28_1 hx28_2 hx28_3 hx29_0 hx29_1 hx29_2 hx29_3 hHeld ⊢
           refine pure_ (i:=0) (N:=some 63) (v:=?_) (a':=?_) #[true,false,false,false,false,false,false,false,false,false,false,false,false,false,false,false,false,false,false,false,false,false,false,false,false,false,false] rfl rfl (any_of HT_.out (by kernel_rfl)) (fun _ _ _ h=>h) (Or.inl ⟨by rfl,?_⟩) ?_ ?_
           rotate_left
           ·intro w'
            go_simp
            with_reducible rfl
           rotate_left
           ·simp only [Act.put,s1_,s2_,s3_,i64_w,i32_w]
            rfl
           refine pure_ (i:=1) (N:=some 64) (v:=?_) (a':=?_) #[true,true,false,false,false,false,false,false,false,false,false,false,false,false,false,false,false,false,false,false,false,false,false,false,false,false,false] rfl rfl (any_of HT_.out (by kernel_rfl)) (fun _ _ _ h=>h) (Or.inl ⟨by rfl,?_⟩) ?_ ?_
           rotate_left
           ·intro w'
            go_simp
            with_reducible rfl
           rotate_left
           ·simp only [Act.put,s1_,s2_,s3_,i64_w,i32_w]
            rfl
           refine pure_ (i:=2) (N:=some 65) (v:=?_) (a':=?_) #[true,true,true,false,false,false,false,false,false,false,false,false,false,false,false,false,false,false,false,false,false,false,false,false,false,false,false] rfl rfl (any_of HT_.out (by kernel_rfl)) (fun _ _ _ h=>h) (Or.inl ⟨by rfl,?_⟩) ?_ ?_
           rotate_left
           ·intro w'
            go_simp
            with_reducible rfl
           rotate_left
           ·simp only [Act.put,s1_,s2_,s3_,i64_w,i32_w]
            rfl
           refine pure_ (i:=3) (N:=some 66) (v:=?_) (a':=?_) #[true,true,true,true,false,false,false,false,false,false,false,false,false,false,false,false,false,false,false,false,false,false,false,false,false,false,false] rfl rfl (any_of HT_.out (by kernel_rfl)) (fun _ _ _ h=>h) (Or.inl ⟨by rfl,?_⟩) ?_ ?_
           rotate_left
           ·intro w'
            go_simp
            with_reducible rfl
           rotate_left
           ·simp only [Act.put,s1_,s2_,s3_,i64_w,i32_w]
            rfl
           refine pure_ (i:=5) (N:=some 68) (v:=?_) (a':=?_) #[true,true,true,true,false,true,false,false,false,false,false,false,false,false,false,false,false,false,false,false,false,false,false,false,false,false,false] rfl rfl (any_of HT_.out (by kernel_rfl)) (fun _ _ _ h=>h) (Or.inl ⟨by rfl,?_⟩) ?_ ?_
           rotate_left
           ·intro w'
            go_simp
            with_reducible rfl
           rotate_left
           ·simp only [Act.put,s1_,s2_,s3_,i64_w,i32_w]
            rfl
           refine take_ (i:=4) (N:=some 67) (v:=?_) (a':=?_) #[true,true,true,true,true,true,false,false,false,false,false,false,false,false,false,false,false,false,false,false,false,false,false,false,false,false,false] rfl rfl (take_ofW HT_.out HW_.out (by kernel_rfl)) (fun _ _ _ h=>h) (Or.inl ⟨by rfl,?_⟩) hHeld ?_ ?_
           rotate_left
           ·rintro w' ⟨s0,s1,s2,s3,s4,s5,s6,s7,s8⟩
            go_simp
            with_reducible rfl
           rotate_left
           ·simp only [Act.put,s1_,s2_,s3_,i64_w,i32_w]
            rfl
           refine one_ (i:=6) (N:=some 69) #[true,true,true,true,true,true,true,false,false,false,false,false,false,false,false,false,false,false,false,false,false,false,false,false,false,false,false] rfl rfl (one_of HT_.out (by kernel_rfl)) (by decide) (fun K hK=>?_)
           refine goes_ Try.func15 (by kernel_rfl) rfl #[.agg #[.slice Ao9 t1.length co9],.slice (some ad28) t9.length co65] (by rfl) rfl rfl lm_ ?_
           with_reducible refine (impl_ValidGroup.calls kj5 _ _ t1 _ _ t9 true _ ?side1 ?side2 ?side3 ?side4 A54.out).mono ?_
           (case side1=>exact cc_ (Kd.R_reads' Z9.out).2.2)
           (case side2=>exact (Kd.R_reads' Z9.out).2.1)
           (case side3=>exact cc_ (Kd.R_reads' HO_6.out).2.2)
           (case side4=>exact (Kd.R_reads' HO_6.out).2.1)
           rintro e w66 ⟨rfl,hb⟩
           have HS1_:=(hb.cell (World.block_lt_of_cell? _ _ (hHeld.2.1))).trans (hHeld.2.1)
           have HS2_:=(hb.cell (World.block_lt_of_cell? _ _ (hHeld.2.2.1))).trans (hHeld.2.2.1)
           have HS3_:=(hb.cell (World.block_lt_of_cell? _ _ (hHeld.2.2.2.1))).trans (hHeld.2.2.2.1)
           have HS4_:=(hb.cell (World.block_lt_of_cell? _ _ (hHeld.2.2.2.2.1))).trans (hHeld.2.2.2.2.1)
           have HS5_:=(hb.cell (World.block_lt_of_cell? _ _ (hHeld.2.2.2.2.2.1))).trans (hHeld.2.2.2.2.2.1)
           have HS6_:=(hb.cell (World.block_lt_of_cell? _ _ (hHeld.2.2.2.2.2.2.1))).trans (hHeld.2.2.2.2.2.2.1)
           have HS7_:=(hb.cell (World.block_lt_of_cell? _ _ (hHeld.2.2.2.2.2.2.2.1))).trans (hHeld.2.2.2.2.2.2.2.1)
           have HS8_:=(hb.cell (World.block_lt_of_cell? _ _ (hHeld.2.2.2.2.2.2.2.2))).trans (hHeld.2.2.2.2.2.2.2.2)
           refine ⟨_,rfl,?_⟩
           have n0_:=rb_ HO_4 hb
           have n1_:=rb_ HO_6 hb
           have n2_:=rb_ HO_7 hb
           have n3_:=rb_ HO_8 hb
           have n4_:=rb_ HO_9 hb
           have n5_:=rb_ Z9 hb
           have n6_:=kb_ BK8 hb
           have n7_:=a0_ (below_step hb_ hb)
           clear HO_4
           clear HO_6
           clear HO_7
           clear HO_8
           clear HO_9
           clear Z9
           clear BK8
           clear HB
           have HO_4:=n0_
           have HO_6:=n1_
           have HO_7:=n2_
           have HO_8:=n3_
           have HO_9:=n4_
           have Z9:=n5_
           have BK8:=n6_
           have HB:=n7_
           clear n0_ n1_ n2_ n3_ n4_ n5_ n6_ n7_
           (try clear hb)
           (try clear hb2)
           (try clear hk)
           (try clear hi)
           refine hK.out _ _ ⟨(blk_cell BK8.out 0).trans rfl,HS1_,HS2_,HS3_,HS4_,HS5_,HS6_,HS7_,HS8_⟩ (fun hHeld=>?_)
           clear hK K
           refine norm_ (a':=?_) ?_ ?_
           rotate_left
           ·show Act.put _ (some 69) _ = _
            simp only [Act.put,s1_,s2_,s3_,i64_w,i32_w]
            rfl
           refine pure_ (i:=7) (N:=some 70) (v:=?_) (a':=?_) #[true,true,true,true,true,true,true,true,false,false,false,false,false,false,false,false,false,false,false,false,false,false,false,false,false,false,false] rfl rfl (any_of HT_.out (by kernel_rfl)) (fun _ _ _ h=>h) (Or.inl ⟨by rfl,?_⟩) ?_ ?_
           rotate_left
           ·intro w'
            go_simp
            with_reducible rfl
           rotate_left
           ·simp only [Act.put,s1_,s2_,s3_,i64_w,i32_w]
            rfl
           refine pure_ (i:=8) (N:=some 71) (v:=?_) (a':=?_) #[true,true,true,true,true,true,true,true,true,false,false,false,false,false,false,false,false,false,false,false,false,false,false,false,false,false,false] rfl rfl (any_of HT_.out (by kernel_rfl)) (fun _ _ _ h=>h) (Or.inl ⟨by rfl,?_⟩) ?_ ?_
           rotate_left
           ·intro w'
            go_simp
            with_reducible rfl
           rotate_left
           ·simp only [Act.put,s1_,s2_,s3_,i64_w,i32_w]
            rfl
           refine pure_ (i:=9) (N:=some 72) (v:=?_) (a':=?_) #[true,true,true,true,true,true,true,true,true,true,false,false,false,false,false,false,false,false,false,false,false,false,false,false,false,false,false] rfl rfl (any_of HT_.out (by kernel_rfl)) (fun _ _ _ h=>h) (Or.inl ⟨by rfl,?_⟩) ?_ ?_
           rotate_left
           ·intro w'
            go_simp
            with_reducible rfl
           rotate_left
           ·simp only [Act.put,s1_,s2_,s3_,i64_w,i32_w]
            rfl
           refine pure_ (i:=10) (N:=some 73) (v:=?_) (a':=?_) #[true,true,true,true,true,true,true,true,true,true,true,false,false,false,false,false,false,false,false,false,false,false,false,false,false,false,false] rfl rfl (any_of HT_.out (by kernel_rfl)) (fun _ _ _ h=>h) (Or.inl ⟨by rfl,?_⟩) ?_ ?_
           rotate_left
           ·intro w'
            go_simp
            with_reducible rfl
           rotate_left
           ·simp only [Act.put,s1_,s2_,s3_,i64_w,i32_w]
            rfl
           refine pure_ (i:=12) (N:=some 75) (v:=?_) (a':=?_) #[true,true,true,true,true,true,true,true,true,true,true,false,true,false,false,false,false,false,false,false,false,false,false,false,false,false,false] rfl rfl (any_of HT_.out (by kernel_rfl)) (fun _ _ _ h=>h) (Or.inl ⟨by rfl,?_⟩) ?_ ?_
           rotate_left
           ·intro w'
            go_simp
            with_reducible rfl
           rotate_left
           ·simp only [Act.put,s1_,s2_,s3_,i64_w,i32_w]
            rfl
           refine pure_ (i:=13) (N:=some 76) (v:=?_) (a':=?_) #[true,true,true,true,true,true,true,true,true,true,true,false,true,true,false,false,false,false,false,false,false,false,false,false,false,false,false] rfl rfl (any_of HT_.out (by kernel_rfl)) (fun _ _ _ h=>h) (Or.inl ⟨by rfl,?_⟩) ?_ ?_
           rotate_left
           ·intro w'
            go_simp
            with_reducible rfl
           rotate_left
           ·simp only [Act.put,s1_,s2_,s3_,i64_w,i32_w]
            rfl
           refine take_ (i:=11) (N:=some 74) (v:=?_) (a':=?_) #[true,true,true,true,true,true,true,true,true,true,true,true,true,true,false,false,false,false,false,false,false,false,false,false,false,false,false] rfl rfl (take_ofW HT_.out HW_.out (by kernel_rfl)) (fun _ _ _ h=>h) (Or.inl ⟨by rfl,?_⟩) hHeld ?_ ?_
           rotate_left
           ·rintro w' ⟨s0,s1,s2,s3,s4,s5,s6,s7,s8⟩
            go_simp
            with_reducible rfl
           rotate_left
           ·simp only [Act.put,s1_,s2_,s3_,i64_w,i32_w]
            rfl
           refine take_ (i:=14) (N:=some 77) (v:=?_) (a':=?_) #[true,true,true,true,true,true,true,true,true,true,true,true,true,true,true,false,false,false,false,false,false,false,false,false,false,false,false] rfl rfl (take_ofW HT_.out HW_.out (by kernel_rfl)) (fun _ _ _ h=>h) (Or.inl ⟨by rfl,?_⟩) hHeld ?_ ?_
           rotate_left
           ·rintro w' ⟨s0,s1,s2,s3,s4,s5,s6,s7,s8⟩
            go_simp
            with_reducible rfl
           rotate_left
           ·simp only [Act.put,s1_,s2_,s3_,i64_w,i32_w]
            rfl
           refine pure_ (i:=15) (N:=some 78) (v:=?_) (a':=?_) #[true,true,true,true,true,true,true,true,true,true,true,true,true,true,true,true,false,false,false,false,false,false,false,false,false,false,false] rfl rfl (any_of HT_.out (by kernel_rfl)) (fun _ _ _ h=>h) (Or.inl ⟨by rfl,?_⟩) ?_ ?_
           rotate_left
           ·intro w'
            go_simp
            with_reducible rfl
           rotate_left
           ·simp only [Act.put,s1_,s2_,s3_,i64_w,i32_w]
            rfl
           refine pure_ (i:=16) (N:=some 79) (v:=?_) (a':=?_) #[true,true,true,true,true,true,true,true,true,true,true,true,true,true,true,true,true,false,false,false,false,false,false,false,false,false,false] rfl rfl (any_of HT_.out (by kernel_rfl)) (fun _ _ _ h=>h) (Or.inl ⟨by rfl,?_⟩) ?_ ?_
           rotate_left
           ·intro w'
            go_simp
            with_reducible rfl
           rotate_left
           ·simp only [Act.put,s1_,s2_,s3_,i64_w,i32_w]
            rfl
           refine pure_ (i:=17) (N:=some 80) (v:=?_) (a':=?_) #[true,true,true,true,true,true,true,true,true,true,true,true,true,true,true,true,true,true,false,false,false,false,false,false,false,false,false] rfl rfl (any_of HT_.out (by kernel_rfl)) (fun _ _ _ h=>h) (Or.inl ⟨by rfl,?_⟩) ?_ ?_
           rotate_left
           ·intro w'
            go_simp
            with_reducible rfl
           rotate_left
           ·simp only [Act.put,s1_,s2_,s3_,i64_w,i32_w]
            rfl
           refine pure_ (i:=19) (N:=some 82) (v:=?_) (a':=?_) #[true,true,true,true,true,true,true,true,true,true,true,true,true,true,true,true,true,true,false,true,false,false,false,false,false,false,false] rfl rfl (any_of HT_.out (by kernel_rfl)) (fun _ _ _ h=>h) (Or.inl ⟨by rfl,?_⟩) ?_ ?_
           rotate_left
           ·intro w'
            go_simp
            with_reducible rfl
           rotate_left
           ·simp only [Act.put,s1_,s2_,s3_,i64_w,i32_w]
            rfl
           refine pure_ (i:=22) (N:=some 85) (v:=?_) (a':=?_) #[true,true,true,true,true,true,true,true,true,true,true,true,true,true,true,true,true,true,false,true,false,false,true,false,false,false,false] rfl rfl (any_of HT_.out (by kernel_rfl)) (fun _ _ _ h=>h) (Or.inl ⟨by rfl,?_⟩) ?_ ?_
           rotate_left
           ·intro w'
            go_simp
            with_reducible rfl
           rotate_left
           ·simp only [Act.put,s1_,s2_,s3_,i64_w,i32_w]
            rfl
           refine take_ (i:=18) (N:=some 81) (v:=?_) (a':=?_) #[true,true,true,true,true,true,true,true,true,true,true,true,true,true,true,true,true,true,true,true,false,false,true,false,false,false,false] rfl rfl (take_ofW HT_.out HW_.out (by kernel_rfl)) (fun _ _ _ h=>h) (Or.inl ⟨by rfl,?_⟩) hHeld ?_ ?_
           rotate_left
           ·rintro w' ⟨s0,s1,s2,s3,s4,s5,s6,s7,s8⟩
            go_simp
            with_reducible rfl
           rotate_left
           ·simp only [Act.put,s1_,s2_,s3_,i64_w,i32_w]
            rfl
           refine take_ (i:=21) (N:=some 84) (v:=?_) (a':=?_) #[true,true,true,true,true,true,true,true,true,true,true,true,true,true,true,true,true,true,true,true,false,true,true,false,false,false,false] rfl rfl (take_ofW HT_.out HW_.out (by kernel_rfl)) (fun _ _ _ h=>h) (Or.inl ⟨by rfl,?_⟩) hHeld ?_ ?_
           rotate_left
           ·rintro w' ⟨s0,s1,s2,s3,s4,s5,s6,s7,s8⟩
            go_simp
            with_reducible rfl
           rotate_left
           ·simp only [Act.put,s1_,s2_,s3_,i64_w,i32_w]
            rfl
           refine one_ (i:=20) (N:=some 83) #[true,true,true,true,true,true,true,true,true,true,true,true,true,true,true,true,true,true,true,true,true,true,true,false,false,false,false] rfl rfl (one_of HT_.out (by kernel_rfl)) (by decide) (fun K hK=>?_)
           refine goes_ Try.func18 (by kernel_rfl) rfl #[.agg #[.slice Ao9 t1.length co9],.slice (some ad28) t9.length co65] (by rfl) rfl rfl lm_ ?_
           with_reducible refine (impl_GroupDepth.calls kj5 _ _ t1 _ _ t9 t30 _ ?side1 ?side2 ?side3 ?side4 A62.out).mono ?_
           (case side1=>exact cc_ (Kd.R_reads' Z9.out).2.2)
           (case side2=>exact (Kd.R_reads' Z9.out).2.1)
           (case side3=>exact cc_ (Kd.R_reads' HO_6.out).2.2)
           (case side4=>exact (Kd.R_reads' HO_6.out).2.1)
           rintro e w67 ⟨rfl,hb⟩
           have HS1_:=(hb.cell (World.block_lt_of_cell? _ _ (hHeld.2.1))).trans (hHeld.2.1)
           have HS2_:=(hb.cell (World.block_lt_of_cell? _ _ (hHeld.2.2.1))).trans (hHeld.2.2.1)
           have HS3_:=(hb.cell (World.block_lt_of_cell? _ _ (hHeld.2.2.2.1))).trans (hHeld.2.2.2.1)
           have HS4_:=(hb.cell (World.block_lt_of_cell? _ _ (hHeld.2.2.2.2.1))).trans (hHeld.2.2.2.2.1)
           have HS5_:=(hb.cell (World.block_lt_of_cell? _ _ (hHeld.2.2.2.2.2.1))).trans (hHeld.2.2.2.2.2.1)
           have HS6_:=(hb.cell (World.block_lt_of_cell? _ _ (hHeld.2.2.2.2.2.2.1))).trans (hHeld.2.2.2.2.2.2.1)
           have HS7_:=(hb.cell (World.block_lt_of_cell? _ _ (hHeld.2.2.2.2.2.2.2.1))).trans (hHeld.2.2.2.2.2.2.2.1)
           have HS8_:=(hb.cell (World.block_lt_of_cell? _ _ (hHeld.2.2.2.2.2.2.2.2))).trans (hHeld.2.2.2.2.2.2.2.2)
           refine ⟨_,rfl,?_⟩
           have n0_:=rb_ HO_4 hb
           have n1_:=rb_ HO_6 hb
           have n2_:=rb_ HO_7 hb
           have n3_:=rb_ HO_8 hb
           have n4_:=rb_ HO_9 hb
           have n5_:=rb_ Z9 hb
           have n6_:=kb_ BK8 hb
           have n7_:=a0_ (below_step hb_ hb)
           clear HO_4
           clear HO_6
           clear HO_7
           clear HO_8
           clear HO_9
           clear Z9
           clear BK8
           clear HB
           have HO_4:=n0_
           have HO_6:=n1_
           have HO_7:=n2_
           have HO_8:=n3_
           have HO_9:=n4_
           have Z9:=n5_
           have BK8:=n6_
           have HB:=n7_
           clear n0_ n1_ n2_ n3_ n4_ n5_ n6_ n7_
           (try clear hb)
           (try clear hb2)
           (try clear hk)
           (try clear hi)
           refine hK.out _ _ ⟨(blk_cell BK8.out 0).trans rfl,HS1_,HS2_,HS3_,HS4_,HS5_,HS6_,HS7_,HS8_⟩ (fun hHeld=>?_)
           clear hK K
           refine norm_ (a':=?_) ?_ ?_
           rotate_left
           ·show Act.put _ (some 83) _ = _
            simp only [Act.put,s1_,s2_,s3_,i64_w,i32_w]
            rfl
           refine one_ (i:=23) (N:=some 86) #[true,true,true,true,true,true,true,true,true,true,true,true,true,true,true,true,true,true,true,true,true,true,true,true,false,false,false] rfl rfl (one_of HT_.out (by kernel_rfl)) (by decide) (fun K hK=>?_)
           refine goes_ Try.func18 (by kernel_rfl) rfl #[.agg #[.slice Ao9 t1.length co9],.slice (some ad29) t4.length co11] (by rfl) rfl rfl lm_ ?_
           with_reducible refine (impl_GroupDepth.calls kj5 _ _ t1 _ _ t4 t31 _ ?side1 ?side2 ?side3 ?side4 A63.out).mono ?_
           (case side1=>exact cc_ (Kd.R_reads' Z9.out).2.2)
           (case side2=>exact (Kd.R_reads' Z9.out).2.1)
           (case side3=>exact cc_ (Kd.R_reads' HO_4.out).2.2)
           (case side4=>exact (Kd.R_reads' HO_4.out).2.1)
           rintro e w68 ⟨rfl,hb⟩
           have HS1_:=(hb.cell (World.block_lt_of_cell? _ _ (hHeld.2.1))).trans (hHeld.2.1)
           have HS2_:=(hb.cell (World.block_lt_of_cell? _ _ (hHeld.2.2.1))).trans (hHeld.2.2.1)
           have HS3_:=(hb.cell (World.block_lt_of_cell? _ _ (hHeld.2.2.2.1))).trans (hHeld.2.2.2.1)
           have HS4_:=(hb.cell (World.block_lt_of_cell? _ _ (hHeld.2.2.2.2.1))).trans (hHeld.2.2.2.2.1)
           have HS5_:=(hb.cell (World.block_lt_of_cell? _ _ (hHeld.2.2.2.2.2.1))).trans (hHeld.2.2.2.2.2.1)
           have HS6_:=(hb.cell (World.block_lt_of_cell? _ _ (hHeld.2.2.2.2.2.2.1))).trans (hHeld.2.2.2.2.2.2.1)
           have HS7_:=(hb.cell (World.block_lt_of_cell? _ _ (hHeld.2.2.2.2.2.2.2.1))).trans (hHeld.2.2.2.2.2.2.2.1)
           have HS8_:=(hb.cell (World.block_lt_of_cell? _ _ (hHeld.2.2.2.2.2.2.2.2))).trans (hHeld.2.2.2.2.2.2.2.2)
           refine ⟨_,rfl,?_⟩
           have n0_:=rb_ HO_4 hb
           have n1_:=rb_ HO_6 hb
           have n2_:=rb_ HO_7 hb
           have n3_:=rb_ HO_8 hb
           have n4_:=rb_ HO_9 hb
           have n5_:=rb_ Z9 hb
           have n6_:=kb_ BK8 hb
           have n7_:=a0_ (below_step hb_ hb)
           clear HO_4
           clear HO_6
           clear HO_7
           clear HO_8
           clear HO_9
           clear Z9
           clear BK8
           clear HB
           have HO_4:=n0_
           have HO_6:=n1_
           have HO_7:=n2_
           have HO_8:=n3_
           have HO_9:=n4_
           have Z9:=n5_
           have BK8:=n6_
           have HB:=n7_
           clear n0_ n1_ n2_ n3_ n4_ n5_ n6_ n7_
           (try clear hb)
           (try clear hb2)
           (try clear hk)
           (try clear hi)
           refine hK.out _ _ ⟨(blk_cell BK8.out 0).trans rfl,HS1_,HS2_,HS3_,HS4_,HS5_,HS6_,HS7_,HS8_⟩ (fun hHeld=>?_)
           clear hK K
           refine norm_ (a':=?_) ?_ ?_
           rotate_left
           ·show Act.put _ (some 86) _ = _
            simp only [Act.put,s1_,s2_,s3_,i64_w,i32_w]
            rfl
           refine pure_ (i:=24) (N:=some 87) (v:=?_) (a':=?_) #[true,true,true,true,true,true,true,true,true,true,true,true,true,true,true,true,true,true,true,true,true,true,true,true,true,false,false] rfl rfl (any_of HT_.out (by kernel_rfl)) (fun _ _ _ h=>h) (Or.inl ⟨by rfl,?_⟩) ?_ ?_
           rotate_left
           ·intro w'
            go_simp
            with_reducible rfl
           rotate_left
           ·simp only [Act.put,s1_,s2_,s3_,i64_w,i32_w]
            rfl
           refine pure_ (i:=25) (N:=some 88) (v:=?_) (a':=?_) #[true,true,true,true,true,true,true,true,true,true,true,true,true,true,true,true,true,true,true,true,true,true,true,true,true,true,false] rfl rfl (any_of HT_.out (by kernel_rfl)) (fun _ _ _ h=>h) (Or.inl ⟨by rfl,?_⟩) ?_ ?_
           rotate_left
           ·intro w'
            go_simp
            with_reducible rfl
           rotate_left
           ·simp only [Act.put,s1_,s2_,s3_,i64_w,i32_w]
            rfl
           refine pure_ (i:=26) (N:=some 89) (v:=?_) (a':=?_) #[true,true,true,true,true,true,true,true,true,true,true,true,true,true,true,true,true,true,true,true,true,true,true,true,true,true,true] rfl rfl (any_of HT_.out (by kernel_rfl)) (fun _ _ _ h=>h) (Or.inl ⟨by rfl,?_⟩) ?_ ?_
           rotate_left
           ·intro w'
            go_simp
            with_reducible rfl
           rotate_left
           ·simp only [Act.put,s1_,s2_,s3_,i64_w,i32_w]
            rfl
           refine done_ (done_of HT_.out (by kernel_rfl)) ?_
           try go_wp2
           go_meet
           case rel=>exact ⟨_,(decide (t30 > t31)),(by first | rfl | (simp;done) | (simp [*];done)),H',⟨by have:=HJ5.out;first | omega | exact Nat.le_refl _⟩,⟨by (with_reducible repeat (first | apply Kd.R_alloc | apply Kd.R_drewN | apply Kd.R_drew));exact Kd.R_mono HO_4.out (fun _ hk=>⟨hk.1,hk.2.1⟩)⟩,⟨by (with_reducible repeat (first | apply Kd.R_alloc | apply Kd.R_drewN | apply Kd.R_drew));exact Kd.R_mono HO_6.out (fun _ hk=>⟨hk.1,hk.2.1⟩)⟩,⟨by (with_reducible repeat (first | apply Kd.R_alloc | apply Kd.R_drewN | apply Kd.R_drew));exact Kd.R_mono HO_7.out (fun _ hk=>⟨hk.1,hk.2.1⟩)⟩,⟨by (with_reducible repeat (first | apply Kd.R_alloc | apply Kd.R_drewN | apply Kd.R_drew));exact Z9.out⟩,⟨by (with_reducible repeat (first | refine blk_drewN ?_ _ | refine blk_drew ?_ | refine blk_alloc ?_ _));exact BK8.out⟩,⟨hb_⟩⟩
         ·rw [if_neg c57] at H
          exact absurd H (by simp)
        ·rw [if_neg c56] at H
         exact absurd H (by simp)
       ·replace c55:=Bool.eq_false_iff.mpr c55
        subst c55
        have H1 : (laws_FnSplitGroupShape.j1 kj5 t4 t7 t9 t12 true t1) = some r:=by rw [if_neg (show ¬ (false = true) by decide)] at H;exact H
        clear H
        have H:=H1
        clear H1
        have H':=a0_ H
        clear H
        try go_wp2
        have n0_:=a0_ (Kd.R_drew HO_4.out)
        have n1_:=a0_ (Kd.R_drew HO_6.out)
        have n2_:=a0_ (Kd.R_drew HO_7.out)
        have n3_:=a0_ (Kd.R_drew HO_8.out)
        have n4_:=a0_ (Kd.R_drew HO_9.out)
        have n5_:=a0_ (Kd.R_drew Z9.out)
        have n6_:=a0_ (blk_drew BK8.out)
        have n7_:=a0_ (below_drew1 HB.out)
        clear HO_4
        clear HO_6
        clear HO_7
        clear HO_8
        clear HO_9
        clear Z9
        clear BK8
        clear HB
        have HO_4:=n0_
        have HO_6:=n1_
        have HO_7:=n2_
        have HO_8:=n3_
        have HO_9:=n4_
        have Z9:=n5_
        have BK8:=n6_
        have HB:=n7_
        clear n0_ n1_ n2_ n3_ n4_ n5_ n6_ n7_
        obtain ⟨Ao70,co70,eo70⟩:=Kd.R_slice HO_6.out
        (first | subst eo70 | (injection eo70 with f1_ f2_ f3_;have f4_:=f1_.symm;have f5_:=f3_.symm;clear f1_ f2_ f3_;subst f4_;subst f5_))
        refine start_ (n:=27) (S:=fun w'=>w'.cell? ⟨gb8,0,none⟩ = some (.slice Ao9 t1.length co9)) (ds:=[]) #[false,false,false,false,false,false,false,false,false,false,false,false,false,false,false,false,false,false,false,false,false,false,false,false,false,false,false] (by kernel_rfl) rfl rfl ((blk_cell BK8.out 0).trans rfl) (fun hHeld=>?_);refine with_tabW laws_FnSplitGroupShape.tab8 laws_FnSplitGroupShape.bits8 (fun HT_ HW_=>?_)
        generalize wc.drew = w69 at HO_4 HO_6 HO_7 HO_8 HO_9 Z9 BK8 HB hHeld ⊢
        refine pure_ (i:=0) (N:=some 63) (v:=?_) (a':=?_) #[true,false,false,false,false,false,false,false,false,false,false,false,false,false,false,false,false,false,false,false,false,false,false,false,false,false,false] rfl rfl (any_of HT_.out (by kernel_rfl)) (fun _ _ _ h=>h) (Or.inl ⟨by rfl,?_⟩) ?_ ?_
        rotate_left
        ·intro w'
         go_simp
         with_reducible rfl
        rotate_left
        ·simp only [Act.put,s1_,s2_,s3_,i64_w,i32_w]
         rfl
        refine pure_ (i:=1) (N:=some 64) (v:=?_) (a':=?_) #[true,true,false,false,false,false,false,false,false,false,false,false,false,false,false,false,false,false,false,false,false,false,false,false,false,false,false] rfl rfl (any_of HT_.out (by kernel_rfl)) (fun _ _ _ h=>h) (Or.inl ⟨by rfl,?_⟩) ?_ ?_
        rotate_left
        ·intro w'
         go_simp
         with_reducible rfl
        rotate_left
        ·simp only [Act.put,s1_,s2_,s3_,i64_w,i32_w]
         rfl
        refine pure_ (i:=2) (N:=some 65) (v:=?_) (a':=?_) #[true,true,true,false,false,false,false,false,false,false,false,false,false,false,false,false,false,false,false,false,false,false,false,false,false,false,false] rfl rfl (any_of HT_.out (by kernel_rfl)) (fun _ _ _ h=>h) (Or.inl ⟨by rfl,?_⟩) ?_ ?_
        rotate_left
        ·intro w'
         go_simp
         with_reducible rfl
        rotate_left
        ·simp only [Act.put,s1_,s2_,s3_,i64_w,i32_w]
         rfl
        refine pure_ (i:=3) (N:=some 66) (v:=?_) (a':=?_) #[true,true,true,true,false,false,false,false,false,false,false,false,false,false,false,false,false,false,false,false,false,false,false,false,false,false,false] rfl rfl (any_of HT_.out (by kernel_rfl)) (fun _ _ _ h=>h) (Or.inl ⟨by rfl,?_⟩) ?_ ?_
        rotate_left
        ·intro w'
         go_simp
         with_reducible rfl
        rotate_left
        ·simp only [Act.put,s1_,s2_,s3_,i64_w,i32_w]
         rfl
        refine pure_ (i:=5) (N:=some 68) (v:=?_) (a':=?_) #[true,true,true,true,false,true,false,false,false,false,false,false,false,false,false,false,false,false,false,false,false,false,false,false,false,false,false] rfl rfl (any_of HT_.out (by kernel_rfl)) (fun _ _ _ h=>h) (Or.inl ⟨by rfl,?_⟩) ?_ ?_
        rotate_left
        ·intro w'
         go_simp
         with_reducible rfl
        rotate_left
        ·simp only [Act.put,s1_,s2_,s3_,i64_w,i32_w]
         rfl
        refine take_ (i:=4) (N:=some 67) (v:=?_) (a':=?_) #[true,true,true,true,true,true,false,false,false,false,false,false,false,false,false,false,false,false,false,false,false,false,false,false,false,false,false] rfl rfl (take_ofW HT_.out HW_.out (by kernel_rfl)) (fun _ _ _ h=>h) (Or.inl ⟨by rfl,?_⟩) hHeld ?_ ?_
        rotate_left
        ·intro w' s0
         go_simp
         with_reducible rfl
        rotate_left
        ·simp only [Act.put,s1_,s2_,s3_,i64_w,i32_w]
         rfl
        refine one_ (i:=6) (N:=some 69) #[true,true,true,true,true,true,true,false,false,false,false,false,false,false,false,false,false,false,false,false,false,false,false,false,false,false,false] rfl rfl (one_of HT_.out (by kernel_rfl)) (by decide) (fun K hK=>?_)
        refine goes_ Try.func15 (by kernel_rfl) rfl #[.agg #[.slice Ao9 t1.length co9],.slice Ao70 t9.length co70] (by rfl) rfl rfl lm_ ?_
        with_reducible refine (impl_ValidGroup.calls kj5 _ _ t1 _ _ t9 false _ ?side1 ?side2 ?side3 ?side4 A54.out).mono ?_
        (case side1=>exact cc_ (Kd.R_reads' Z9.out).2.2)
        (case side2=>exact (Kd.R_reads' Z9.out).2.1)
        (case side3=>exact cc_ (Kd.R_reads' HO_6.out).2.2)
        (case side4=>exact (Kd.R_reads' HO_6.out).2.1)
        rintro e w71 ⟨rfl,hb⟩
        refine ⟨_,rfl,?_⟩
        have n0_:=rb_ HO_4 hb
        have n1_:=rb_ HO_6 hb
        have n2_:=rb_ HO_7 hb
        have n3_:=rb_ HO_8 hb
        have n4_:=rb_ HO_9 hb
        have n5_:=rb_ Z9 hb
        have n6_:=kb_ BK8 hb
        have n7_:=a0_ (below_step hb_ hb)
        clear HO_4
        clear HO_6
        clear HO_7
        clear HO_8
        clear HO_9
        clear Z9
        clear BK8
        clear HB
        have HO_4:=n0_
        have HO_6:=n1_
        have HO_7:=n2_
        have HO_8:=n3_
        have HO_9:=n4_
        have Z9:=n5_
        have BK8:=n6_
        have HB:=n7_
        clear n0_ n1_ n2_ n3_ n4_ n5_ n6_ n7_
        (try clear hb)
        (try clear hb2)
        (try clear hk)
        (try clear hi)
        refine hK.out _ _ ((blk_cell BK8.out 0).trans rfl) (fun hHeld=>?_)
        clear hK K
        refine norm_ (a':=?_) ?_ ?_
        rotate_left
        ·show Act.put _ (some 69) _ = _
         simp only [Act.put,s1_,s2_,s3_,i64_w,i32_w]
         rfl
        refine pure_ (i:=7) (N:=some 70) (v:=?_) (a':=?_) #[true,true,true,true,true,true,true,true,false,false,false,false,false,false,false,false,false,false,false,false,false,false,false,false,false,false,false] rfl rfl (any_of HT_.out (by kernel_rfl)) (fun _ _ _ h=>h) (Or.inl ⟨by rfl,?_⟩) ?_ ?_
        rotate_left
        ·intro w'
         go_simp
         with_reducible rfl
        rotate_left
        ·simp only [Act.put,s1_,s2_,s3_,i64_w,i32_w]
         rfl
        refine pure_ (i:=8) (N:=some 71) (v:=?_) (a':=?_) #[true,true,true,true,true,true,true,true,true,false,false,false,false,false,false,false,false,false,false,false,false,false,false,false,false,false,false] rfl rfl (any_of HT_.out (by kernel_rfl)) (fun _ _ _ h=>h) (Or.inl ⟨by rfl,?_⟩) ?_ ?_
        rotate_left
        ·intro w'
         go_simp
         with_reducible rfl
        rotate_left
        ·simp only [Act.put,s1_,s2_,s3_,i64_w,i32_w]
         rfl
        refine pure_ (i:=9) (N:=some 72) (v:=undef) (a':=?_) #[true,true,true,true,true,true,true,true,true,true,false,false,false,false,false,false,false,false,false,false,false,false,false,false,false,false,false] rfl rfl (any_of HT_.out (by kernel_rfl)) (fun _ _ _ h=>h) (Or.inr ⟨by rfl,rfl⟩) ?_ ?_
        rotate_left
        ·simp only [Act.put,s1_,s2_,s3_,i64_w,i32_w]
         rfl
        refine pure_ (i:=10) (N:=some 73) (v:=undef) (a':=?_) #[true,true,true,true,true,true,true,true,true,true,true,false,false,false,false,false,false,false,false,false,false,false,false,false,false,false,false] rfl rfl (any_of HT_.out (by kernel_rfl)) (fun _ _ _ h=>h) (Or.inr ⟨by rfl,rfl⟩) ?_ ?_
        rotate_left
        ·simp only [Act.put,s1_,s2_,s3_,i64_w,i32_w]
         rfl
        refine pure_ (i:=11) (N:=some 74) (v:=undef) (a':=?_) #[true,true,true,true,true,true,true,true,true,true,true,true,false,false,false,false,false,false,false,false,false,false,false,false,false,false,false] rfl rfl (any_of HT_.out (by kernel_rfl)) (fun _ _ _ h=>h) (Or.inr ⟨by rfl,rfl⟩) ?_ ?_
        rotate_left
        ·simp only [Act.put,s1_,s2_,s3_,i64_w,i32_w]
         rfl
        refine pure_ (i:=12) (N:=some 75) (v:=undef) (a':=?_) #[true,true,true,true,true,true,true,true,true,true,true,true,true,false,false,false,false,false,false,false,false,false,false,false,false,false,false] rfl rfl (any_of HT_.out (by kernel_rfl)) (fun _ _ _ h=>h) (Or.inr ⟨by rfl,rfl⟩) ?_ ?_
        rotate_left
        ·simp only [Act.put,s1_,s2_,s3_,i64_w,i32_w]
         rfl
        refine pure_ (i:=13) (N:=some 76) (v:=undef) (a':=?_) #[true,true,true,true,true,true,true,true,true,true,true,true,true,true,false,false,false,false,false,false,false,false,false,false,false,false,false] rfl rfl (any_of HT_.out (by kernel_rfl)) (fun _ _ _ h=>h) (Or.inr ⟨by rfl,rfl⟩) ?_ ?_
        rotate_left
        ·simp only [Act.put,s1_,s2_,s3_,i64_w,i32_w]
         rfl
        refine pure_ (i:=14) (N:=some 77) (v:=undef) (a':=?_) #[true,true,true,true,true,true,true,true,true,true,true,true,true,true,true,false,false,false,false,false,false,false,false,false,false,false,false] rfl rfl (any_of HT_.out (by kernel_rfl)) (fun _ _ _ h=>h) (Or.inr ⟨by rfl,rfl⟩) ?_ ?_
        rotate_left
        ·simp only [Act.put,s1_,s2_,s3_,i64_w,i32_w]
         rfl
        refine pure_ (i:=15) (N:=some 78) (v:=undef) (a':=?_) #[true,true,true,true,true,true,true,true,true,true,true,true,true,true,true,true,false,false,false,false,false,false,false,false,false,false,false] rfl rfl (any_of HT_.out (by kernel_rfl)) (fun _ _ _ h=>h) (Or.inr ⟨by rfl,rfl⟩) ?_ ?_
        rotate_left
        ·simp only [Act.put,s1_,s2_,s3_,i64_w,i32_w]
         rfl
        refine pure_ (i:=16) (N:=some 79) (v:=?_) (a':=?_) #[true,true,true,true,true,true,true,true,true,true,true,true,true,true,true,true,true,false,false,false,false,false,false,false,false,false,false] rfl rfl (any_of HT_.out (by kernel_rfl)) (fun _ _ _ h=>h) (Or.inl ⟨by rfl,?_⟩) ?_ ?_
        rotate_left
        ·intro w'
         go_simp
         with_reducible rfl
        rotate_left
        ·simp only [Act.put,s1_,s2_,s3_,i64_w,i32_w]
         rfl
        refine pure_ (i:=17) (N:=some 80) (v:=?_) (a':=?_) #[true,true,true,true,true,true,true,true,true,true,true,true,true,true,true,true,true,true,false,false,false,false,false,false,false,false,false] rfl rfl (any_of HT_.out (by kernel_rfl)) (fun _ _ _ h=>h) (Or.inl ⟨by rfl,?_⟩) ?_ ?_
        rotate_left
        ·intro w'
         go_simp
         with_reducible rfl
        rotate_left
        ·simp only [Act.put,s1_,s2_,s3_,i64_w,i32_w]
         rfl
        refine pure_ (i:=18) (N:=some 81) (v:=undef) (a':=?_) #[true,true,true,true,true,true,true,true,true,true,true,true,true,true,true,true,true,true,true,false,false,false,false,false,false,false,false] rfl rfl (any_of HT_.out (by kernel_rfl)) (fun _ _ _ h=>h) (Or.inr ⟨by rfl,rfl⟩) ?_ ?_
        rotate_left
        ·simp only [Act.put,s1_,s2_,s3_,i64_w,i32_w]
         rfl
        refine pure_ (i:=19) (N:=some 82) (v:=undef) (a':=?_) #[true,true,true,true,true,true,true,true,true,true,true,true,true,true,true,true,true,true,true,true,false,false,false,false,false,false,false] rfl rfl (any_of HT_.out (by kernel_rfl)) (fun _ _ _ h=>h) (Or.inr ⟨by rfl,rfl⟩) ?_ ?_
        rotate_left
        ·simp only [Act.put,s1_,s2_,s3_,i64_w,i32_w]
         rfl
        refine pure_ (i:=20) (N:=some 83) (v:=undef) (a':=?_) #[true,true,true,true,true,true,true,true,true,true,true,true,true,true,true,true,true,true,true,true,true,false,false,false,false,false,false] rfl rfl (any_of HT_.out (by kernel_rfl)) (fun _ _ _ h=>h) (Or.inr ⟨by rfl,rfl⟩) ?_ ?_
        rotate_left
        ·simp only [Act.put,s1_,s2_,s3_,i64_w,i32_w]
         rfl
        refine pure_ (i:=21) (N:=some 84) (v:=undef) (a':=?_) #[true,true,true,true,true,true,true,true,true,true,true,true,true,true,true,true,true,true,true,true,true,true,false,false,false,false,false] rfl rfl (any_of HT_.out (by kernel_rfl)) (fun _ _ _ h=>h) (Or.inr ⟨by rfl,rfl⟩) ?_ ?_
        rotate_left
        ·simp only [Act.put,s1_,s2_,s3_,i64_w,i32_w]
         rfl
        refine pure_ (i:=22) (N:=some 85) (v:=undef) (a':=?_) #[true,true,true,true,true,true,true,true,true,true,true,true,true,true,true,true,true,true,true,true,true,true,true,false,false,false,false] rfl rfl (any_of HT_.out (by kernel_rfl)) (fun _ _ _ h=>h) (Or.inr ⟨by rfl,rfl⟩) ?_ ?_
        rotate_left
        ·simp only [Act.put,s1_,s2_,s3_,i64_w,i32_w]
         rfl
        refine pure_ (i:=23) (N:=some 86) (v:=undef) (a':=?_) #[true,true,true,true,true,true,true,true,true,true,true,true,true,true,true,true,true,true,true,true,true,true,true,true,false,false,false] rfl rfl (any_of HT_.out (by kernel_rfl)) (fun _ _ _ h=>h) (Or.inr ⟨by rfl,rfl⟩) ?_ ?_
        rotate_left
        ·simp only [Act.put,s1_,s2_,s3_,i64_w,i32_w]
         rfl
        refine pure_ (i:=24) (N:=some 87) (v:=undef) (a':=?_) #[true,true,true,true,true,true,true,true,true,true,true,true,true,true,true,true,true,true,true,true,true,true,true,true,true,false,false] rfl rfl (any_of HT_.out (by kernel_rfl)) (fun _ _ _ h=>h) (Or.inr ⟨by rfl,rfl⟩) ?_ ?_
        rotate_left
        ·simp only [Act.put,s1_,s2_,s3_,i64_w,i32_w]
         rfl
        refine pure_ (i:=25) (N:=some 88) (v:=?_) (a':=?_) #[true,true,true,true,true,true,true,true,true,true,true,true,true,true,true,true,true,true,true,true,true,true,true,true,true,true,false] rfl rfl (any_of HT_.out (by kernel_rfl)) (fun _ _ _ h=>h) (Or.inl ⟨by rfl,?_⟩) ?_ ?_
        rotate_left
        ·intro w'
         go_simp
         with_reducible rfl
        rotate_left
        ·simp only [Act.put,s1_,s2_,s3_,i64_w,i32_w]
         rfl
        refine pure_ (i:=26) (N:=some 89) (v:=?_) (a':=?_) #[true,true,true,true,true,true,true,true,true,true,true,true,true,true,true,true,true,true,true,true,true,true,true,true,true,true,true] rfl rfl (any_of HT_.out (by kernel_rfl)) (fun _ _ _ h=>h) (Or.inl ⟨by rfl,?_⟩) ?_ ?_
        rotate_left
        ·intro w'
         go_simp
         with_reducible rfl
        rotate_left
        ·simp only [Act.put,s1_,s2_,s3_,i64_w,i32_w]
         rfl
        refine done_ (done_of HT_.out (by kernel_rfl)) ?_
        try go_wp2
        go_meet
        case rel=>exact ⟨_,(true),(by first | rfl | (simp;done) | (simp [*];done)),H',⟨by have:=HJ5.out;first | omega | exact Nat.le_refl _⟩,⟨by (with_reducible repeat (first | apply Kd.R_alloc | apply Kd.R_drewN | apply Kd.R_drew));exact Kd.R_mono HO_4.out (fun _ hk=>⟨hk.1,hk.2.1⟩)⟩,⟨by (with_reducible repeat (first | apply Kd.R_alloc | apply Kd.R_drewN | apply Kd.R_drew));exact Kd.R_mono HO_6.out (fun _ hk=>⟨hk.1,hk.2.1⟩)⟩,⟨by (with_reducible repeat (first | apply Kd.R_alloc | apply Kd.R_drewN | apply Kd.R_drew));exact Kd.R_mono HO_7.out (fun _ hk=>⟨hk.1,hk.2.1⟩)⟩,⟨by (with_reducible repeat (first | apply Kd.R_alloc | apply Kd.R_drewN | apply Kd.R_drew));exact Z9.out⟩,⟨by (with_reducible repeat (first | refine blk_drewN ?_ _ | refine blk_drew ?_ | refine blk_alloc ?_ _));exact BK8.out⟩,⟨hb_⟩⟩
      ·rw [if_neg c53] at H
       have c53b0 : decide (0 < (t9.length : Int)) = false:=decide_eq_false c53
       have c53b1 : decide (0 < t9.length) = false:=decide_eq_false (by omega)
       clear c53
       (first | rw [c53b0] | (simp only [i64_w,i32_w];rw [c53b0]) | skip)
       have H':=a0_ H
       clear H
       try go_wp2
       have n0_:=a0_ (Kd.R_drew HO_4.out)
       have n1_:=a0_ (Kd.R_drew HO_6.out)
       have n2_:=a0_ (Kd.R_drew HO_7.out)
       have n3_:=a0_ (Kd.R_drew HO_8.out)
       have n4_:=a0_ (Kd.R_drew HO_9.out)
       have n5_:=a0_ (Kd.R_drew Z9.out)
       have n6_:=a0_ (blk_drew BK8.out)
       have n7_:=a0_ (below_drew1 HB.out)
       clear HO_4
       clear HO_6
       clear HO_7
       clear HO_8
       clear HO_9
       clear Z9
       clear BK8
       clear HB
       have HO_4:=n0_
       have HO_6:=n1_
       have HO_7:=n2_
       have HO_8:=n3_
       have HO_9:=n4_
       have Z9:=n5_
       have BK8:=n6_
       have HB:=n7_
       clear n0_ n1_ n2_ n3_ n4_ n5_ n6_ n7_
       obtain ⟨Ao73,co73,eo73⟩:=Kd.R_slice HO_6.out
       (first | subst eo73 | (injection eo73 with f1_ f2_ f3_;have f4_:=f1_.symm;have f5_:=f3_.symm;clear f1_ f2_ f3_;subst f4_;subst f5_))
       refine start_ (n:=27) (S:=fun w'=>True) (ds:=[]) #[false,false,false,false,false,false,false,false,false,false,false,false,false,false,false,false,false,false,false,false,false,false,false,false,false,false,false] (by kernel_rfl) rfl rfl trivial (fun hHeld=>?_);refine with_tabW laws_FnSplitGroupShape.tab8 laws_FnSplitGroupShape.bits8 (fun HT_ HW_=>?_)
       generalize wc.drew = w72 at HO_4 HO_6 HO_7 HO_8 HO_9 Z9 BK8 HB hHeld ⊢
       refine pure_ (i:=0) (N:=some 63) (v:=?_) (a':=?_) #[true,false,false,false,false,false,false,false,false,false,false,false,false,false,false,false,false,false,false,false,false,false,false,false,false,false,false] rfl rfl (any_of HT_.out (by kernel_rfl)) (fun _ _ _ h=>h) (Or.inl ⟨by rfl,?_⟩) ?_ ?_
       rotate_left
       ·intro w'
        go_simp
        with_reducible rfl
       rotate_left
       ·simp only [Act.put,s1_,s2_,s3_,i64_w,i32_w]
        rfl
       refine pure_ (i:=1) (N:=some 64) (v:=?_) (a':=?_) #[true,true,false,false,false,false,false,false,false,false,false,false,false,false,false,false,false,false,false,false,false,false,false,false,false,false,false] rfl rfl (any_of HT_.out (by kernel_rfl)) (fun _ _ _ h=>h) (Or.inl ⟨by rfl,?_⟩) ?_ ?_
       rotate_left
       ·intro w'
        go_simp
        with_reducible rfl
       rotate_left
       ·simp only [Act.put,s1_,s2_,s3_,i64_w,i32_w]
        rfl
       refine pure_ (i:=2) (N:=some 65) (v:=?_) (a':=?_) #[true,true,true,false,false,false,false,false,false,false,false,false,false,false,false,false,false,false,false,false,false,false,false,false,false,false,false] rfl rfl (any_of HT_.out (by kernel_rfl)) (fun _ _ _ h=>h) (Or.inl ⟨by rfl,?_⟩) ?_ ?_
       rotate_left
       ·intro w'
        go_simp
        with_reducible rfl
       rotate_left
       ·simp only [Act.put,s1_,s2_,s3_,i64_w,i32_w]
        rfl
       refine pure_ (i:=3) (N:=some 66) (v:=?_) (a':=?_) #[true,true,true,true,false,false,false,false,false,false,false,false,false,false,false,false,false,false,false,false,false,false,false,false,false,false,false] rfl rfl (any_of HT_.out (by kernel_rfl)) (fun _ _ _ h=>h) (Or.inl ⟨by rfl,?_⟩) ?_ ?_
       rotate_left
       ·intro w'
        go_simp
        with_reducible rfl
       rotate_left
       ·simp only [Act.put,s1_,s2_,s3_,i64_w,i32_w]
        rfl
       refine pure_ (i:=4) (N:=some 67) (v:=undef) (a':=?_) #[true,true,true,true,true,false,false,false,false,false,false,false,false,false,false,false,false,false,false,false,false,false,false,false,false,false,false] rfl rfl (any_of HT_.out (by kernel_rfl)) (fun _ _ _ h=>h) (Or.inr ⟨by rfl,rfl⟩) ?_ ?_
       rotate_left
       ·simp only [Act.put,s1_,s2_,s3_,i64_w,i32_w]
        rfl
       refine pure_ (i:=5) (N:=some 68) (v:=undef) (a':=?_) #[true,true,true,true,true,true,false,false,false,false,false,false,false,false,false,false,false,false,false,false,false,false,false,false,false,false,false] rfl rfl (any_of HT_.out (by kernel_rfl)) (fun _ _ _ h=>h) (Or.inr ⟨by rfl,rfl⟩) ?_ ?_
       rotate_left
       ·simp only [Act.put,s1_,s2_,s3_,i64_w,i32_w]
        rfl
       refine pure_ (i:=6) (N:=some 69) (v:=undef) (a':=?_) #[true,true,true,true,true,true,true,false,false,false,false,false,false,false,false,false,false,false,false,false,false,false,false,false,false,false,false] rfl rfl (any_of HT_.out (by kernel_rfl)) (fun _ _ _ h=>h) (Or.inr ⟨by rfl,rfl⟩) ?_ ?_
       rotate_left
       ·simp only [Act.put,s1_,s2_,s3_,i64_w,i32_w]
        rfl
       refine pure_ (i:=7) (N:=some 70) (v:=undef) (a':=?_) #[true,true,true,true,true,true,true,true,false,false,false,false,false,false,false,false,false,false,false,false,false,false,false,false,false,false,false] rfl rfl (any_of HT_.out (by kernel_rfl)) (fun _ _ _ h=>h) (Or.inr ⟨by rfl,rfl⟩) ?_ ?_
       rotate_left
       ·simp only [Act.put,s1_,s2_,s3_,i64_w,i32_w]
        rfl
       refine pure_ (i:=8) (N:=some 71) (v:=undef) (a':=?_) #[true,true,true,true,true,true,true,true,true,false,false,false,false,false,false,false,false,false,false,false,false,false,false,false,false,false,false] rfl rfl (any_of HT_.out (by kernel_rfl)) (fun _ _ _ h=>h) (Or.inr ⟨by rfl,rfl⟩) ?_ ?_
       rotate_left
       ·simp only [Act.put,s1_,s2_,s3_,i64_w,i32_w]
        rfl
       refine pure_ (i:=9) (N:=some 72) (v:=undef) (a':=?_) #[true,true,true,true,true,true,true,true,true,true,false,false,false,false,false,false,false,false,false,false,false,false,false,false,false,false,false] rfl rfl (any_of HT_.out (by kernel_rfl)) (fun _ _ _ h=>h) (Or.inr ⟨by rfl,rfl⟩) ?_ ?_
       rotate_left
       ·simp only [Act.put,s1_,s2_,s3_,i64_w,i32_w]
        rfl
       refine pure_ (i:=10) (N:=some 73) (v:=undef) (a':=?_) #[true,true,true,true,true,true,true,true,true,true,true,false,false,false,false,false,false,false,false,false,false,false,false,false,false,false,false] rfl rfl (any_of HT_.out (by kernel_rfl)) (fun _ _ _ h=>h) (Or.inr ⟨by rfl,rfl⟩) ?_ ?_
       rotate_left
       ·simp only [Act.put,s1_,s2_,s3_,i64_w,i32_w]
        rfl
       refine pure_ (i:=11) (N:=some 74) (v:=undef) (a':=?_) #[true,true,true,true,true,true,true,true,true,true,true,true,false,false,false,false,false,false,false,false,false,false,false,false,false,false,false] rfl rfl (any_of HT_.out (by kernel_rfl)) (fun _ _ _ h=>h) (Or.inr ⟨by rfl,rfl⟩) ?_ ?_
       rotate_left
       ·simp only [Act.put,s1_,s2_,s3_,i64_w,i32_w]
        rfl
       refine pure_ (i:=12) (N:=some 75) (v:=undef) (a':=?_) #[true,true,true,true,true,true,true,true,true,true,true,true,true,false,false,false,false,false,false,false,false,false,false,false,false,false,false] rfl rfl (any_of HT_.out (by kernel_rfl)) (fun _ _ _ h=>h) (Or.inr ⟨by rfl,rfl⟩) ?_ ?_
       rotate_left
       ·simp only [Act.put,s1_,s2_,s3_,i64_w,i32_w]
        rfl
       refine pure_ (i:=13) (N:=some 76) (v:=undef) (a':=?_) #[true,true,true,true,true,true,true,true,true,true,true,true,true,true,false,false,false,false,false,false,false,false,false,false,false,false,false] rfl rfl (any_of HT_.out (by kernel_rfl)) (fun _ _ _ h=>h) (Or.inr ⟨by rfl,rfl⟩) ?_ ?_
       rotate_left
       ·simp only [Act.put,s1_,s2_,s3_,i64_w,i32_w]
        rfl
       refine pure_ (i:=14) (N:=some 77) (v:=undef) (a':=?_) #[true,true,true,true,true,true,true,true,true,true,true,true,true,true,true,false,false,false,false,false,false,false,false,false,false,false,false] rfl rfl (any_of HT_.out (by kernel_rfl)) (fun _ _ _ h=>h) (Or.inr ⟨by rfl,rfl⟩) ?_ ?_
       rotate_left
       ·simp only [Act.put,s1_,s2_,s3_,i64_w,i32_w]
        rfl
       refine pure_ (i:=15) (N:=some 78) (v:=undef) (a':=?_) #[true,true,true,true,true,true,true,true,true,true,true,true,true,true,true,true,false,false,false,false,false,false,false,false,false,false,false] rfl rfl (any_of HT_.out (by kernel_rfl)) (fun _ _ _ h=>h) (Or.inr ⟨by rfl,rfl⟩) ?_ ?_
       rotate_left
       ·simp only [Act.put,s1_,s2_,s3_,i64_w,i32_w]
        rfl
       refine pure_ (i:=16) (N:=some 79) (v:=undef) (a':=?_) #[true,true,true,true,true,true,true,true,true,true,true,true,true,true,true,true,true,false,false,false,false,false,false,false,false,false,false] rfl rfl (any_of HT_.out (by kernel_rfl)) (fun _ _ _ h=>h) (Or.inr ⟨by rfl,rfl⟩) ?_ ?_
       rotate_left
       ·simp only [Act.put,s1_,s2_,s3_,i64_w,i32_w]
        rfl
       refine pure_ (i:=17) (N:=some 80) (v:=undef) (a':=?_) #[true,true,true,true,true,true,true,true,true,true,true,true,true,true,true,true,true,true,false,false,false,false,false,false,false,false,false] rfl rfl (any_of HT_.out (by kernel_rfl)) (fun _ _ _ h=>h) (Or.inr ⟨by rfl,rfl⟩) ?_ ?_
       rotate_left
       ·simp only [Act.put,s1_,s2_,s3_,i64_w,i32_w]
        rfl
       refine pure_ (i:=18) (N:=some 81) (v:=undef) (a':=?_) #[true,true,true,true,true,true,true,true,true,true,true,true,true,true,true,true,true,true,true,false,false,false,false,false,false,false,false] rfl rfl (any_of HT_.out (by kernel_rfl)) (fun _ _ _ h=>h) (Or.inr ⟨by rfl,rfl⟩) ?_ ?_
       rotate_left
       ·simp only [Act.put,s1_,s2_,s3_,i64_w,i32_w]
        rfl
       refine pure_ (i:=19) (N:=some 82) (v:=undef) (a':=?_) #[true,true,true,true,true,true,true,true,true,true,true,true,true,true,true,true,true,true,true,true,false,false,false,false,false,false,false] rfl rfl (any_of HT_.out (by kernel_rfl)) (fun _ _ _ h=>h) (Or.inr ⟨by rfl,rfl⟩) ?_ ?_
       rotate_left
       ·simp only [Act.put,s1_,s2_,s3_,i64_w,i32_w]
        rfl
       refine pure_ (i:=20) (N:=some 83) (v:=undef) (a':=?_) #[true,true,true,true,true,true,true,true,true,true,true,true,true,true,true,true,true,true,true,true,true,false,false,false,false,false,false] rfl rfl (any_of HT_.out (by kernel_rfl)) (fun _ _ _ h=>h) (Or.inr ⟨by rfl,rfl⟩) ?_ ?_
       rotate_left
       ·simp only [Act.put,s1_,s2_,s3_,i64_w,i32_w]
        rfl
       refine pure_ (i:=21) (N:=some 84) (v:=undef) (a':=?_) #[true,true,true,true,true,true,true,true,true,true,true,true,true,true,true,true,true,true,true,true,true,true,false,false,false,false,false] rfl rfl (any_of HT_.out (by kernel_rfl)) (fun _ _ _ h=>h) (Or.inr ⟨by rfl,rfl⟩) ?_ ?_
       rotate_left
       ·simp only [Act.put,s1_,s2_,s3_,i64_w,i32_w]
        rfl
       refine pure_ (i:=22) (N:=some 85) (v:=undef) (a':=?_) #[true,true,true,true,true,true,true,true,true,true,true,true,true,true,true,true,true,true,true,true,true,true,true,false,false,false,false] rfl rfl (any_of HT_.out (by kernel_rfl)) (fun _ _ _ h=>h) (Or.inr ⟨by rfl,rfl⟩) ?_ ?_
       rotate_left
       ·simp only [Act.put,s1_,s2_,s3_,i64_w,i32_w]
        rfl
       refine pure_ (i:=23) (N:=some 86) (v:=undef) (a':=?_) #[true,true,true,true,true,true,true,true,true,true,true,true,true,true,true,true,true,true,true,true,true,true,true,true,false,false,false] rfl rfl (any_of HT_.out (by kernel_rfl)) (fun _ _ _ h=>h) (Or.inr ⟨by rfl,rfl⟩) ?_ ?_
       rotate_left
       ·simp only [Act.put,s1_,s2_,s3_,i64_w,i32_w]
        rfl
       refine pure_ (i:=24) (N:=some 87) (v:=undef) (a':=?_) #[true,true,true,true,true,true,true,true,true,true,true,true,true,true,true,true,true,true,true,true,true,true,true,true,true,false,false] rfl rfl (any_of HT_.out (by kernel_rfl)) (fun _ _ _ h=>h) (Or.inr ⟨by rfl,rfl⟩) ?_ ?_
       rotate_left
       ·simp only [Act.put,s1_,s2_,s3_,i64_w,i32_w]
        rfl
       refine pure_ (i:=25) (N:=some 88) (v:=undef) (a':=?_) #[true,true,true,true,true,true,true,true,true,true,true,true,true,true,true,true,true,true,true,true,true,true,true,true,true,true,false] rfl rfl (any_of HT_.out (by kernel_rfl)) (fun _ _ _ h=>h) (Or.inr ⟨by rfl,rfl⟩) ?_ ?_
       rotate_left
       ·simp only [Act.put,s1_,s2_,s3_,i64_w,i32_w]
        rfl
       refine pure_ (i:=26) (N:=some 89) (v:=?_) (a':=?_) #[true,true,true,true,true,true,true,true,true,true,true,true,true,true,true,true,true,true,true,true,true,true,true,true,true,true,true] rfl rfl (any_of HT_.out (by kernel_rfl)) (fun _ _ _ h=>h) (Or.inl ⟨by rfl,?_⟩) ?_ ?_
       rotate_left
       ·intro w'
        go_simp
        with_reducible rfl
       rotate_left
       ·simp only [Act.put,s1_,s2_,s3_,i64_w,i32_w]
        rfl
       refine done_ (done_of HT_.out (by kernel_rfl)) ?_
       try go_wp2
       go_meet
       case rel=>exact ⟨_,(false),(by first | rfl | (simp;done) | (simp [*];done)),H',⟨by have:=HJ5.out;first | omega | exact Nat.le_refl _⟩,⟨by (with_reducible repeat (first | apply Kd.R_alloc | apply Kd.R_drewN | apply Kd.R_drew));exact Kd.R_mono HO_4.out (fun _ hk=>⟨hk.1,hk.2.1⟩)⟩,⟨by (with_reducible repeat (first | apply Kd.R_alloc | apply Kd.R_drewN | apply Kd.R_drew));exact Kd.R_mono HO_6.out (fun _ hk=>⟨hk.1,hk.2.1⟩)⟩,⟨by (with_reducible repeat (first | apply Kd.R_alloc | apply Kd.R_drewN | apply Kd.R_drew));exact Kd.R_mono HO_7.out (fun _ hk=>⟨hk.1,hk.2.1⟩)⟩,⟨by (with_reducible repeat (first | apply Kd.R_alloc | apply Kd.R_drewN | apply Kd.R_drew));exact Z9.out⟩,⟨by (with_reducible repeat (first | refine blk_drewN ?_ _ | refine blk_drew ?_ | refine blk_alloc ?_ _));exact BK8.out⟩,⟨hb_⟩⟩
     case rest =>
      clear HC52
      try clear c1
      try clear p2
      try clear c5
      try clear c15
      try clear c18
      try clear c53
      try clear c53b0
      try clear c53b1
      try clear c55
      try clear c56
      try clear c57
      obtain ⟨kq,x89_51,rfl,HA,HJ51,HO_4,HO_6,HO_7,Z9,BK8,HB⟩:=hcut
      cases kq with
      | zero=>exact absurd HA.out (by simp [laws_FnSplitGroupShape.j1])
      | succ kj51 =>
       have H:=HA.out
       clear HA
       simp only [laws_FnSplitGroupShape.j1] at H
       by_cases c74 : x89_51 = true
       ·subst c74
        have H1 : (some false) = some r:=by rw [if_pos rfl] at H;exact H
        clear H
        have H:=H1
        clear H1
        obtain rfl:=Option.some.inj H
        go_wp2
        go_ret
        exact ⟨by first | rfl | (simp [errW_none,errW_some] <;> rfl) | (simp [*,errW_none,errW_some] <;> rfl),hb_⟩
       ·replace c74:=Bool.eq_false_iff.mpr c74
        subst c74
        have H1 : (if (wrap64 ((t9.length : Int) + (t12.length : Int))) > 0 then (if (t12.length : Int) = 0 then ((impl_HasClass.f t1 t4 t7).bind fun t32=>(some (t32 == (decide ((t9.length : Int) > 0))))) else ((impl_ValidGroup.f kj51 t1 t12).bind fun t33=>(if t33 = true then (if 0 < (t12.length : Int) then (if 0 < (t4.length : Int) then (if (((rd_T47 t12 0).f0) == ((rd_T47 t4 0).f0) && (((rd_T47 t12 0).f1) == ((rd_T47 t4 0).f1) && (((rd_T47 t12 0).f2) == ((rd_T47 t4 0).f2) && (((rd_T47 t12 0).f3) == ((rd_T47 t4 0).f3))))) = true then ((impl_HasClass.f t1 t4 t7).bind fun t36=>(some (t36 == (decide ((t9.length : Int) > 0))))) else (some false)) else (none)) else (none)) else (some false)))) else (some false)) = some r:=by rw [if_neg (show ¬ (false = true) by decide)] at H;exact H
        clear H
        have H:=H1
        clear H1
        by_cases c75 : (wrap64 ((t9.length : Int) + (t12.length : Int))) > 0
        ·rw [if_pos c75] at H
         have c75b0 : decide (0 < (wrap64 ((t9.length : Int) + (t12.length : Int)))) = true:=decide_eq_true c75
         clear c75
         by_cases c76 : (t12.length : Int) = 0
         ·rw [if_pos c76] at H
          have c76b0 : ((t12.length : Int) == 0) = true:=beq_iff_eq.mpr c76
          have c76b1 : ((t12.length : Int) != 0) = false:=bne_eq_false_iff_eq.mpr c76
          clear c76
          replace H:=Option.bind_eq_some_iff.mp H
          obtain ⟨t32,A770,H⟩:=H
          replace H : (some (t32 == (decide ((t9.length : Int) > 0)))) = some r:=H
          have A77:=a0_ A770
          clear A770
          obtain rfl:=Option.some.inj H
          try go_wp2
          have n0_:=a0_ (Kd.R_drew HO_4.out)
          have n1_:=a0_ (Kd.R_drew HO_6.out)
          have n2_:=a0_ (Kd.R_drew HO_7.out)
          have n3_:=a0_ (Kd.R_drew Z9.out)
          have n4_:=a0_ (blk_drew BK8.out)
          have n5_:=a0_ (below_drew1 HB.out)
          clear HO_4
          clear HO_6
          clear HO_7
          clear Z9
          clear BK8
          clear HB
          have HO_4:=n0_
          have HO_6:=n1_
          have HO_7:=n2_
          have Z9:=n3_
          have BK8:=n4_
          have HB:=n5_
          clear n0_ n1_ n2_ n3_ n4_ n5_
          obtain ⟨Ao79,co79,eo79⟩:=Kd.R_slice HO_6.out
          (first | subst eo79 | (injection eo79 with f1_ f2_ f3_;have f4_:=f1_.symm;have f5_:=f3_.symm;clear f1_ f2_ f3_;subst f4_;subst f5_))
          obtain ⟨Ao80,co80,eo80⟩:=Kd.R_slice HO_7.out
          (first | subst eo80 | (injection eo80 with f1_ f2_ f3_;have f4_:=f1_.symm;have f5_:=f3_.symm;clear f1_ f2_ f3_;subst f4_;subst f5_))
          refine start_ (n:=36) (S:=fun w'=>w'.cell? ⟨gb8,0,none⟩ = some (.slice Ao9 t1.length co9)) (ds:=[]) #[false,false,false,false,false,false,false,false,false,false,false,false,false,false,false,false,false,false,false,false,false,false,false,false,false,false,false,false,false,false,false,false,false,false,false,false] (by kernel_rfl) rfl rfl ((blk_cell BK8.out 0).trans rfl) (fun hHeld=>?_);refine with_tabW laws_FnSplitGroupShape.tab10 laws_FnSplitGroupShape.bits10 (fun HT_ HW_=>?_)
          generalize wc.drew = w78 at HO_4 HO_6 HO_7 Z9 BK8 HB hHeld ⊢
          refine pure_ (i:=0) (N:=some 90) (v:=?_) (a':=?_) #[true,false,false,false,false,false,false,false,false,false,false,false,false,false,false,false,false,false,false,false,false,false,false,false,false,false,false,false,false,false,false,false,false,false,false,false] rfl rfl (any_of HT_.out (by kernel_rfl)) (fun _ _ _ h=>h) (Or.inl ⟨by rfl,?_⟩) ?_ ?_
          rotate_left
          ·intro w'
           go_simp
           with_reducible rfl
          rotate_left
          ·simp only [Act.put,s1_,s2_,s3_,i64_w,i32_w]
           rfl
          refine pure_ (i:=1) (N:=some 91) (v:=?_) (a':=?_) #[true,true,false,false,false,false,false,false,false,false,false,false,false,false,false,false,false,false,false,false,false,false,false,false,false,false,false,false,false,false,false,false,false,false,false,false] rfl rfl (any_of HT_.out (by kernel_rfl)) (fun _ _ _ h=>h) (Or.inl ⟨by rfl,?_⟩) ?_ ?_
          rotate_left
          ·intro w'
           go_simp
           with_reducible rfl
          rotate_left
          ·simp only [Act.put,s1_,s2_,s3_,i64_w,i32_w]
           rfl
          refine pure_ (i:=2) (N:=some 92) (v:=?_) (a':=?_) #[true,true,true,false,false,false,false,false,false,false,false,false,false,false,false,false,false,false,false,false,false,false,false,false,false,false,false,false,false,false,false,false,false,false,false,false] rfl rfl (any_of HT_.out (by kernel_rfl)) (fun _ _ _ h=>h) (Or.inl ⟨by rfl,?_⟩) ?_ ?_
          rotate_left
          ·intro w'
           go_simp
           with_reducible rfl
          rotate_left
          ·simp only [Act.put,s1_,s2_,s3_,i64_w,i32_w]
           rfl
          refine pure_ (i:=3) (N:=some 93) (v:=?_) (a':=?_) #[true,true,true,true,false,false,false,false,false,false,false,false,false,false,false,false,false,false,false,false,false,false,false,false,false,false,false,false,false,false,false,false,false,false,false,false] rfl rfl (any_of HT_.out (by kernel_rfl)) (fun _ _ _ h=>h) (Or.inl ⟨by rfl,?_⟩) ?_ ?_
          rotate_left
          ·intro w'
           go_simp
           with_reducible rfl
          rotate_left
          ·simp only [Act.put,s1_,s2_,s3_,i64_w,i32_w]
           rfl
          refine pure_ (i:=4) (N:=some 94) (v:=?_) (a':=?_) #[true,true,true,true,true,false,false,false,false,false,false,false,false,false,false,false,false,false,false,false,false,false,false,false,false,false,false,false,false,false,false,false,false,false,false,false] rfl rfl (any_of HT_.out (by kernel_rfl)) (fun _ _ _ h=>h) (Or.inl ⟨by rfl,?_⟩) ?_ ?_
          rotate_left
          ·intro w'
           go_simp
           with_reducible rfl
          rotate_left
          ·simp only [Act.put,s1_,s2_,s3_,i64_w,i32_w]
           rfl
          refine pure_ (i:=5) (N:=some 95) (v:=?_) (a':=?_) #[true,true,true,true,true,true,false,false,false,false,false,false,false,false,false,false,false,false,false,false,false,false,false,false,false,false,false,false,false,false,false,false,false,false,false,false] rfl rfl (any_of HT_.out (by kernel_rfl)) (fun _ _ _ h=>h) (Or.inl ⟨by rfl,?_⟩) ?_ ?_
          rotate_left
          ·intro w'
           go_simp
           with_reducible rfl
          rotate_left
          ·simp only [Act.put,s1_,s2_,s3_,i64_w,i32_w]
           rfl
          refine pure_ (i:=6) (N:=some 96) (v:=?_) (a':=?_) #[true,true,true,true,true,true,true,false,false,false,false,false,false,false,false,false,false,false,false,false,false,false,false,false,false,false,false,false,false,false,false,false,false,false,false,false] rfl rfl (any_of HT_.out (by kernel_rfl)) (fun _ _ _ h=>h) (Or.inl ⟨by rfl,?_⟩) ?_ ?_
          rotate_left
          ·intro w'
           go_simp
           with_reducible rfl
          rotate_left
          ·simp only [Act.put,s1_,s2_,s3_,i64_w,i32_w]
           rfl
          refine pure_ (i:=7) (N:=some 97) (v:=?_) (a':=?_) #[true,true,true,true,true,true,true,true,false,false,false,false,false,false,false,false,false,false,false,false,false,false,false,false,false,false,false,false,false,false,false,false,false,false,false,false] rfl rfl (any_of HT_.out (by kernel_rfl)) (fun _ _ _ h=>h) (Or.inl ⟨by rfl,?_⟩) ?_ ?_
          rotate_left
          ·intro w'
           go_simp
           with_reducible rfl
          rotate_left
          ·simp only [Act.put,s1_,s2_,s3_,i64_w,i32_w]
           rfl
          refine pure_ (i:=8) (N:=some 98) (v:=?_) (a':=?_) #[true,true,true,true,true,true,true,true,true,false,false,false,false,false,false,false,false,false,false,false,false,false,false,false,false,false,false,false,false,false,false,false,false,false,false,false] rfl rfl (any_of HT_.out (by kernel_rfl)) (fun _ _ _ h=>h) (Or.inl ⟨by rfl,?_⟩) ?_ ?_
          rotate_left
          ·intro w'
           go_simp
           with_reducible rfl
          rotate_left
          ·simp only [Act.put,s1_,s2_,s3_,i64_w,i32_w]
           rfl
          refine pure_ (i:=9) (N:=some 99) (v:=?_) (a':=?_) #[true,true,true,true,true,true,true,true,true,true,false,false,false,false,false,false,false,false,false,false,false,false,false,false,false,false,false,false,false,false,false,false,false,false,false,false] rfl rfl (any_of HT_.out (by kernel_rfl)) (fun _ _ _ h=>h) (Or.inl ⟨by rfl,?_⟩) ?_ ?_
          rotate_left
          ·intro w'
           go_simp
           with_reducible rfl
          rotate_left
          ·simp only [Act.put,s1_,s2_,s3_,i64_w,i32_w]
           rfl
          refine pure_ (i:=10) (N:=some 100) (v:=?_) (a':=?_) #[true,true,true,true,true,true,true,true,true,true,true,false,false,false,false,false,false,false,false,false,false,false,false,false,false,false,false,false,false,false,false,false,false,false,false,false] rfl rfl (any_of HT_.out (by kernel_rfl)) (fun _ _ _ h=>h) (Or.inl ⟨by rfl,?_⟩) ?_ ?_
          rotate_left
          ·intro w'
           go_simp
           with_reducible rfl
          rotate_left
          ·simp only [Act.put,s1_,s2_,s3_,i64_w,i32_w]
           rfl
          refine pure_ (i:=11) (N:=some 101) (v:=undef) (a':=?_) #[true,true,true,true,true,true,true,true,true,true,true,true,false,false,false,false,false,false,false,false,false,false,false,false,false,false,false,false,false,false,false,false,false,false,false,false] rfl rfl (any_of HT_.out (by kernel_rfl)) (fun _ _ _ h=>h) (Or.inr ⟨by rfl,rfl⟩) ?_ ?_
          rotate_left
          ·simp only [Act.put,s1_,s2_,s3_,i64_w,i32_w]
           rfl
          refine pure_ (i:=12) (N:=some 102) (v:=undef) (a':=?_) #[true,true,true,true,true,true,true,true,true,true,true,true,true,false,false,false,false,false,false,false,false,false,false,false,false,false,false,false,false,false,false,false,false,false,false,false] rfl rfl (any_of HT_.out (by kernel_rfl)) (fun _ _ _ h=>h) (Or.inr ⟨by rfl,rfl⟩) ?_ ?_
          rotate_left
          ·simp only [Act.put,s1_,s2_,s3_,i64_w,i32_w]
           rfl
          refine pure_ (i:=13) (N:=some 103) (v:=undef) (a':=?_) #[true,true,true,true,true,true,true,true,true,true,true,true,true,true,false,false,false,false,false,false,false,false,false,false,false,false,false,false,false,false,false,false,false,false,false,false] rfl rfl (any_of HT_.out (by kernel_rfl)) (fun _ _ _ h=>h) (Or.inr ⟨by rfl,rfl⟩) ?_ ?_
          rotate_left
          ·simp only [Act.put,s1_,s2_,s3_,i64_w,i32_w]
           rfl
          refine pure_ (i:=14) (N:=some 104) (v:=undef) (a':=?_) #[true,true,true,true,true,true,true,true,true,true,true,true,true,true,true,false,false,false,false,false,false,false,false,false,false,false,false,false,false,false,false,false,false,false,false,false] rfl rfl (any_of HT_.out (by kernel_rfl)) (fun _ _ _ h=>h) (Or.inr ⟨by rfl,rfl⟩) ?_ ?_
          rotate_left
          ·simp only [Act.put,s1_,s2_,s3_,i64_w,i32_w]
           rfl
          refine pure_ (i:=15) (N:=some 105) (v:=undef) (a':=?_) #[true,true,true,true,true,true,true,true,true,true,true,true,true,true,true,true,false,false,false,false,false,false,false,false,false,false,false,false,false,false,false,false,false,false,false,false] rfl rfl (any_of HT_.out (by kernel_rfl)) (fun _ _ _ h=>h) (Or.inr ⟨by rfl,rfl⟩) ?_ ?_
          rotate_left
          ·simp only [Act.put,s1_,s2_,s3_,i64_w,i32_w]
           rfl
          refine pure_ (i:=16) (N:=some 106) (v:=undef) (a':=?_) #[true,true,true,true,true,true,true,true,true,true,true,true,true,true,true,true,true,false,false,false,false,false,false,false,false,false,false,false,false,false,false,false,false,false,false,false] rfl rfl (any_of HT_.out (by kernel_rfl)) (fun _ _ _ h=>h) (Or.inr ⟨by rfl,rfl⟩) ?_ ?_
          rotate_left
          ·simp only [Act.put,s1_,s2_,s3_,i64_w,i32_w]
           rfl
          refine pure_ (i:=17) (N:=some 107) (v:=undef) (a':=?_) #[true,true,true,true,true,true,true,true,true,true,true,true,true,true,true,true,true,true,false,false,false,false,false,false,false,false,false,false,false,false,false,false,false,false,false,false] rfl rfl (any_of HT_.out (by kernel_rfl)) (fun _ _ _ h=>h) (Or.inr ⟨by rfl,rfl⟩) ?_ ?_
          rotate_left
          ·simp only [Act.put,s1_,s2_,s3_,i64_w,i32_w]
           rfl
          refine pure_ (i:=18) (N:=some 108) (v:=undef) (a':=?_) #[true,true,true,true,true,true,true,true,true,true,true,true,true,true,true,true,true,true,true,false,false,false,false,false,false,false,false,false,false,false,false,false,false,false,false,false] rfl rfl (any_of HT_.out (by kernel_rfl)) (fun _ _ _ h=>h) (Or.inr ⟨by rfl,rfl⟩) ?_ ?_
          rotate_left
          ·simp only [Act.put,s1_,s2_,s3_,i64_w,i32_w]
           rfl
          refine pure_ (i:=19) (N:=some 109) (v:=undef) (a':=?_) #[true,true,true,true,true,true,true,true,true,true,true,true,true,true,true,true,true,true,true,true,false,false,false,false,false,false,false,false,false,false,false,false,false,false,false,false] rfl rfl (any_of HT_.out (by kernel_rfl)) (fun _ _ _ h=>h) (Or.inr ⟨by rfl,rfl⟩) ?_ ?_
          rotate_left
          ·simp only [Act.put,s1_,s2_,s3_,i64_w,i32_w]
           rfl
          refine pure_ (i:=20) (N:=some 110) (v:=undef) (a':=?_) #[true,true,true,true,true,true,true,true,true,true,true,true,true,true,true,true,true,true,true,true,true,false,false,false,false,false,false,false,false,false,false,false,false,false,false,false] rfl rfl (any_of HT_.out (by kernel_rfl)) (fun _ _ _ h=>h) (Or.inr ⟨by rfl,rfl⟩) ?_ ?_
          rotate_left
          ·simp only [Act.put,s1_,s2_,s3_,i64_w,i32_w]
           rfl
          refine pure_ (i:=21) (N:=some 111) (v:=undef) (a':=?_) #[true,true,true,true,true,true,true,true,true,true,true,true,true,true,true,true,true,true,true,true,true,true,false,false,false,false,false,false,false,false,false,false,false,false,false,false] rfl rfl (any_of HT_.out (by kernel_rfl)) (fun _ _ _ h=>h) (Or.inr ⟨by rfl,rfl⟩) ?_ ?_
          rotate_left
          ·simp only [Act.put,s1_,s2_,s3_,i64_w,i32_w]
           rfl
          refine pure_ (i:=22) (N:=some 112) (v:=undef) (a':=?_) #[true,true,true,true,true,true,true,true,true,true,true,true,true,true,true,true,true,true,true,true,true,true,true,false,false,false,false,false,false,false,false,false,false,false,false,false] rfl rfl (any_of HT_.out (by kernel_rfl)) (fun _ _ _ h=>h) (Or.inr ⟨by rfl,rfl⟩) ?_ ?_
          rotate_left
          ·simp only [Act.put,s1_,s2_,s3_,i64_w,i32_w]
           rfl
          refine pure_ (i:=23) (N:=some 113) (v:=?_) (a':=?_) #[true,true,true,true,true,true,true,true,true,true,true,true,true,true,true,true,true,true,true,true,true,true,true,true,false,false,false,false,false,false,false,false,false,false,false,false] rfl rfl (any_of HT_.out (by kernel_rfl)) (fun _ _ _ h=>h) (Or.inl ⟨by rfl,?_⟩) ?_ ?_
          rotate_left
          ·intro w'
           go_simp
           with_reducible rfl
          rotate_left
          ·simp only [Act.put,s1_,s2_,s3_,i64_w,i32_w]
           rfl
          refine pure_ (i:=24) (N:=some 114) (v:=?_) (a':=?_) #[true,true,true,true,true,true,true,true,true,true,true,true,true,true,true,true,true,true,true,true,true,true,true,true,true,false,false,false,false,false,false,false,false,false,false,false] rfl rfl (any_of HT_.out (by kernel_rfl)) (fun _ _ _ h=>h) (Or.inl ⟨by rfl,?_⟩) ?_ ?_
          rotate_left
          ·intro w'
           go_simp
           with_reducible rfl
          rotate_left
          ·simp only [Act.put,s1_,s2_,s3_,i64_w,i32_w]
           rfl
          refine pure_ (i:=25) (N:=some 115) (v:=?_) (a':=?_) #[true,true,true,true,true,true,true,true,true,true,true,true,true,true,true,true,true,true,true,true,true,true,true,true,true,true,false,false,false,false,false,false,false,false,false,false] rfl rfl (any_of HT_.out (by kernel_rfl)) (fun _ _ _ h=>h) (Or.inl ⟨by rfl,?_⟩) ?_ ?_
          rotate_left
          ·intro w'
           go_simp
           with_reducible rfl
          rotate_left
          ·simp only [Act.put,s1_,s2_,s3_,i64_w,i32_w]
           rfl
          refine pure_ (i:=27) (N:=some 117) (v:=?_) (a':=?_) #[true,true,true,true,true,true,true,true,true,true,true,true,true,true,true,true,true,true,true,true,true,true,true,true,true,true,false,true,false,false,false,false,false,false,false,false] rfl rfl (any_of HT_.out (by kernel_rfl)) (fun _ _ _ h=>h) (Or.inl ⟨by rfl,?_⟩) ?_ ?_
          rotate_left
          ·intro w'
           go_simp
           with_reducible rfl
          rotate_left
          ·simp only [Act.put,s1_,s2_,s3_,i64_w,i32_w]
           rfl
          refine pure_ (i:=28) (N:=some 118) (v:=?_) (a':=?_) #[true,true,true,true,true,true,true,true,true,true,true,true,true,true,true,true,true,true,true,true,true,true,true,true,true,true,false,true,true,false,false,false,false,false,false,false] rfl rfl (any_of HT_.out (by kernel_rfl)) (fun _ _ _ h=>h) (Or.inl ⟨by rfl,?_⟩) ?_ ?_
          rotate_left
          ·intro w'
           go_simp
           with_reducible rfl
          rotate_left
          ·simp only [Act.put,s1_,s2_,s3_,i64_w,i32_w]
           rfl
          refine pure_ (i:=30) (N:=some 120) (v:=?_) (a':=?_) #[true,true,true,true,true,true,true,true,true,true,true,true,true,true,true,true,true,true,true,true,true,true,true,true,true,true,false,true,true,false,true,false,false,false,false,false] rfl rfl (any_of HT_.out (by kernel_rfl)) (fun _ _ _ h=>h) (Or.inl ⟨by rfl,?_⟩) ?_ ?_
          rotate_left
          ·intro w'
           go_simp
           with_reducible rfl
          rotate_left
          ·simp only [Act.put,s1_,s2_,s3_,i64_w,i32_w]
           rfl
          refine pure_ (i:=31) (N:=some 121) (v:=?_) (a':=?_) #[true,true,true,true,true,true,true,true,true,true,true,true,true,true,true,true,true,true,true,true,true,true,true,true,true,true,false,true,true,false,true,true,false,false,false,false] rfl rfl (any_of HT_.out (by kernel_rfl)) (fun _ _ _ h=>h) (Or.inl ⟨by rfl,?_⟩) ?_ ?_
          rotate_left
          ·intro w'
           go_simp
           with_reducible rfl
          rotate_left
          ·simp only [Act.put,s1_,s2_,s3_,i64_w,i32_w]
           rfl
          refine pure_ (i:=32) (N:=some 122) (v:=?_) (a':=?_) #[true,true,true,true,true,true,true,true,true,true,true,true,true,true,true,true,true,true,true,true,true,true,true,true,true,true,false,true,true,false,true,true,true,false,false,false] rfl rfl (any_of HT_.out (by kernel_rfl)) (fun _ _ _ h=>h) (Or.inl ⟨by rfl,?_⟩) ?_ ?_
          rotate_left
          ·intro w'
           go_simp
           with_reducible rfl
          rotate_left
          ·simp only [Act.put,s1_,s2_,s3_,i64_w,i32_w]
           rfl
          refine take_ (i:=26) (N:=some 116) (v:=?_) (a':=?_) #[true,true,true,true,true,true,true,true,true,true,true,true,true,true,true,true,true,true,true,true,true,true,true,true,true,true,true,true,true,false,true,true,true,false,false,false] rfl rfl (take_ofW HT_.out HW_.out (by kernel_rfl)) (fun _ _ _ h=>h) (Or.inl ⟨by rfl,?_⟩) hHeld ?_ ?_
          rotate_left
          ·intro w' s0
           go_simp
           with_reducible rfl
          rotate_left
          ·simp only [Act.put,s1_,s2_,s3_,i64_w,i32_w]
           rfl
          refine one_ (i:=29) (N:=some 119) #[true,true,true,true,true,true,true,true,true,true,true,true,true,true,true,true,true,true,true,true,true,true,true,true,true,true,true,true,true,true,true,true,true,false,false,false] rfl rfl (one_of HT_.out (by kernel_rfl)) (by decide) (fun K hK=>?_)
          refine goes_ Try.func20 (by kernel_rfl) rfl #[.agg #[.slice Ao9 t1.length co9],.slice Ao11 t4.length co11,.int .i64 t7] (by rfl) rfl rfl lm_ ?_
          with_reducible refine (impl_HasClass.calls _ _ t1 _ _ t4 t7 t32 _ ?side1 ?side2 ?side3 ?side4 A77.out).mono ?_
          (case side1=>exact cc_ (Kd.R_reads' Z9.out).2.2)
          (case side2=>exact (Kd.R_reads' Z9.out).2.1)
          (case side3=>exact cc_ (Kd.R_reads' HO_4.out).2.2)
          (case side4=>exact (Kd.R_reads' HO_4.out).2.1)
          rintro e w81 ⟨rfl,hb⟩
          refine ⟨_,rfl,?_⟩
          have n0_:=rb_ HO_4 hb
          have n1_:=rb_ HO_6 hb
          have n2_:=rb_ HO_7 hb
          have n3_:=rb_ Z9 hb
          have n4_:=kb_ BK8 hb
          have n5_:=a0_ (below_step hb_ hb)
          clear HO_4
          clear HO_6
          clear HO_7
          clear Z9
          clear BK8
          clear HB
          have HO_4:=n0_
          have HO_6:=n1_
          have HO_7:=n2_
          have Z9:=n3_
          have BK8:=n4_
          have HB:=n5_
          clear n0_ n1_ n2_ n3_ n4_ n5_
          (try clear hb)
          (try clear hb2)
          (try clear hk)
          (try clear hi)
          refine hK.out _ _ ((blk_cell BK8.out 0).trans rfl) (fun hHeld=>?_)
          clear hK K
          refine norm_ (a':=?_) ?_ ?_
          rotate_left
          ·show Act.put _ (some 119) _ = _
           simp only [Act.put,s1_,s2_,s3_,i64_w,i32_w]
           rfl
          refine pure_ (i:=33) (N:=some 123) (v:=?_) (a':=?_) #[true,true,true,true,true,true,true,true,true,true,true,true,true,true,true,true,true,true,true,true,true,true,true,true,true,true,true,true,true,true,true,true,true,true,false,false] rfl rfl (any_of HT_.out (by kernel_rfl)) (fun _ _ _ h=>h) (Or.inl ⟨by rfl,?_⟩) ?_ ?_
          rotate_left
          ·intro w'
           go_simp
           with_reducible rfl
          rotate_left
          ·simp only [Act.put,s1_,s2_,s3_,i64_w,i32_w]
           rfl
          refine pure_ (i:=34) (N:=some 124) (v:=?_) (a':=?_) #[true,true,true,true,true,true,true,true,true,true,true,true,true,true,true,true,true,true,true,true,true,true,true,true,true,true,true,true,true,true,true,true,true,true,true,false] rfl rfl (any_of HT_.out (by kernel_rfl)) (fun _ _ _ h=>h) (Or.inl ⟨by rfl,?_⟩) ?_ ?_
          rotate_left
          ·intro w'
           go_simp
           with_reducible rfl
          rotate_left
          ·simp only [Act.put,s1_,s2_,s3_,i64_w,i32_w]
           rfl
          refine pure_ (i:=35) (N:=some 2) (v:=?_) (a':=?_) #[true,true,true,true,true,true,true,true,true,true,true,true,true,true,true,true,true,true,true,true,true,true,true,true,true,true,true,true,true,true,true,true,true,true,true,true] rfl rfl (any_of HT_.out (by kernel_rfl)) (fun _ _ _ h=>h) (Or.inl ⟨by rfl,?_⟩) ?_ ?_
          rotate_left
          ·intro w'
           go_simp
           with_reducible rfl
          rotate_left
          ·simp only [Act.put,s1_,s2_,s3_,i64_w,i32_w]
           rfl
          refine done_ (done_of HT_.out (by kernel_rfl)) ?_
          try go_wp2
          go_ret
          exact ⟨by first | rfl | (simp [errW_none,errW_some] <;> rfl) | (simp [*,errW_none,errW_some] <;> rfl),hb_⟩
         ·rw [if_neg c76] at H
          have c76b0 : ((t12.length : Int) == 0) = false:=beq_eq_false_iff_ne.mpr c76
          have c76b1 : ((t12.length : Int) != 0) = true:=bne_iff_ne.mpr c76
          have c76b2 : ¬ (t12 = []):=fun h_=>c76 (by rw [h_];rfl)
          replace H:=Option.bind_eq_some_iff.mp H
          obtain ⟨t33,A820,H⟩:=H
          try dsimp only at H
          have A82:=a0_ A820
          clear A820
          by_cases c83 : t33 = true
          ·subst c83
           have H1 : (if 0 < (t12.length : Int) then (if 0 < (t4.length : Int) then (if (((rd_T47 t12 0).f0) == ((rd_T47 t4 0).f0) && (((rd_T47 t12 0).f1) == ((rd_T47 t4 0).f1) && (((rd_T47 t12 0).f2) == ((rd_T47 t4 0).f2) && (((rd_T47 t12 0).f3) == ((rd_T47 t4 0).f3))))) = true then ((impl_HasClass.f t1 t4 t7).bind fun t36=>(some (t36 == (decide ((t9.length : Int) > 0))))) else (some false)) else (none)) else (none)) = some r:=by rw [if_pos rfl] at H;exact H
           clear H
           have H:=H1
           clear H1
           by_cases c84 : 0 < (t12.length : Int)
           ·rw [if_pos c84] at H
            have c84b0 : decide (0 < (t12.length : Int)) = true:=decide_eq_true c84
            have c84b1 : decide (0 < t12.length) = true:=decide_eq_true (by omega)
            clear c84
            by_cases c85 : 0 < (t4.length : Int)
            ·rw [if_pos c85] at H
             have c85b0 : decide (0 < (t4.length : Int)) = true:=decide_eq_true c85
             have c85b1 : decide (0 < t4.length) = true:=decide_eq_true (by omega)
             clear c85
             by_cases c86 : (((rd_T47 t12 0).f0) == ((rd_T47 t4 0).f0) && (((rd_T47 t12 0).f1) == ((rd_T47 t4 0).f1) && (((rd_T47 t12 0).f2) == ((rd_T47 t4 0).f2) && (((rd_T47 t12 0).f3) == ((rd_T47 t4 0).f3))))) = true
             ·rw [if_pos c86] at H
              have c86b0 : (((rd_T47 t12 0).f0) == ((rd_T47 t4 0).f0) && (((rd_T47 t12 0).f1) == ((rd_T47 t4 0).f1) && (((rd_T47 t12 0).f2) == ((rd_T47 t4 0).f2) && (((rd_T47 t12 0).f3) == ((rd_T47 t4 0).f3))))) = true:=c86
              (try (have c86b1 : decide (((rd_T47 t12 0).f0) = ((rd_T47 t4 0).f0) && (((rd_T47 t12 0).f1) == ((rd_T47 t4 0).f1) && (((rd_T47 t12 0).f2) == ((rd_T47 t4 0).f2) && (((rd_T47 t12 0).f3) == ((rd_T47 t4 0).f3))))) = true:=by simpa using c86))
              (try (have c86b2 : (((rd_T47 t12 0).f0) == ((rd_T47 t4 0).f0) && (((rd_T47 t12 0).f1) == ((rd_T47 t4 0).f1) && (((rd_T47 t12 0).f2) == ((rd_T47 t4 0).f2) && (((rd_T47 t12 0).f3) == ((rd_T47 t4 0).f3))))) = true:=by simpa using c86))
              clear c86
              replace H:=Option.bind_eq_some_iff.mp H
              obtain ⟨t36,A870,H⟩:=H
              replace H : (some (t36 == (decide ((t9.length : Int) > 0)))) = some r:=H
              have A87:=a0_ A870
              clear A870
              obtain rfl:=Option.some.inj H
              try go_wp2
              have n0_:=a0_ (Kd.R_drew HO_4.out)
              have n1_:=a0_ (Kd.R_drew HO_6.out)
              have n2_:=a0_ (Kd.R_drew HO_7.out)
              have n3_:=a0_ (Kd.R_drew Z9.out)
              have n4_:=a0_ (blk_drew BK8.out)
              have n5_:=a0_ (below_drew1 HB.out)
              clear HO_4
              clear HO_6
              clear HO_7
              clear Z9
              clear BK8
              clear HB
              have HO_4:=n0_
              have HO_6:=n1_
              have HO_7:=n2_
              have Z9:=n3_
              have BK8:=n4_
              have HB:=n5_
              clear n0_ n1_ n2_ n3_ n4_ n5_
              obtain ⟨Ao89,co89,eo89⟩:=Kd.R_slice HO_6.out
              (first | subst eo89 | (injection eo89 with f1_ f2_ f3_;have f4_:=f1_.symm;have f5_:=f3_.symm;clear f1_ f2_ f3_;subst f4_;subst f5_))
              obtain ⟨Ao90,co90,eo90⟩:=Kd.R_slice HO_7.out
              (first | subst eo90 | (injection eo90 with f1_ f2_ f3_;have f4_:=f1_.symm;have f5_:=f3_.symm;clear f1_ f2_ f3_;subst f4_;subst f5_))
              have p34 : 0 ≤ (0 : Int):=(by omega)
              have q34 : 0 < (t12.length : Int):=of_decide_eq_true (by first | (with_reducible assumption) | assumption)
              obtain ⟨ad34,e34,hx34_0,hx34_1,hx34_2,hx34_3⟩:=at_T47 (Kd.R_reads' HO_7.out).2.2 0 p34 q34
              cases e34
              have qi34 : (0 < t12.length) = True:=eq_true (by omega)
              (try rw [show ((0 : Int)).toNat = 0 from rfl] at hx34_0)
              (try rw [show 0 * 4 = 0 from rfl] at hx34_0)
              (try rw [Addr.add_zero'] at hx34_0)
              (try rw [show ((0 : Int)).toNat = 0 from rfl] at hx34_1)
              (try rw [show 0 * 4 = 0 from rfl] at hx34_1)
              (try rw [Addr.add_zero'] at hx34_1)
              (try rw [show ((0 : Int)).toNat = 0 from rfl] at hx34_2)
              (try rw [show 0 * 4 = 0 from rfl] at hx34_2)
              (try rw [Addr.add_zero'] at hx34_2)
              (try rw [show ((0 : Int)).toNat = 0 from rfl] at hx34_3)
              (try rw [show 0 * 4 = 0 from rfl] at hx34_3)
              (try rw [Addr.add_zero'] at hx34_3)
              replace p34:=eq_true p34
              replace q34:=eq_true q34
              have p35 : 0 ≤ (0 : Int):=(by omega)
              have q35 : 0 < (t4.length : Int):=of_decide_eq_true (by first | (with_reducible assumption) | assumption)
              obtain ⟨ad35,e35,hx35_0,hx35_1,hx35_2,hx35_3⟩:=at_T47 (Kd.R_reads' HO_4.out).2.2 0 p35 q35
              cases e35
              have qi35 : (0 < t4.length) = True:=eq_true (by omega)
              (try rw [show ((0 : Int)).toNat = 0 from rfl] at hx35_0)
              (try rw [show 0 * 4 = 0 from rfl] at hx35_0)
              (try rw [Addr.add_zero'] at hx35_0)
              (try rw [show ((0 : Int)).toNat = 0 from rfl] at hx35_1)
              (try rw [show 0 * 4 = 0 from rfl] at hx35_1)
              (try rw [Addr.add_zero'] at hx35_1)
              (try rw [show ((0 : Int)).toNat = 0 from rfl] at hx35_2)
              (try rw [show 0 * 4 = 0 from rfl] at hx35_2)
              (try rw [Addr.add_zero'] at hx35_2)
              (try rw [show ((0 : Int)).toNat = 0 from rfl] at hx35_3)
              (try rw [show 0 * 4 = 0 from rfl] at hx35_3)
              (try rw [Addr.add_zero'] at hx35_3)
              replace p35:=eq_true p35
              replace q35:=eq_true q35
              refine start_ (n:=36) (S:=fun w'=>w'.cell? ⟨gb8,0,none⟩ = some (.slice Ao9 t1.length co9) ∧ w'.cell? ad34 = some (.int .i64 ((rd_T47 t12 0).f0)) ∧ w'.cell? ⟨ad34.block,ad34.off + 1,none⟩ = some (.bool ((rd_T47 t12 0).f1)) ∧ w'.cell? ⟨ad34.block,ad34.off + 2,none⟩ = some (.int .i64 ((rd_T47 t12 0).f2)) ∧ w'.cell? ⟨ad34.block,ad34.off + 3,none⟩ = some (.int .i64 ((rd_T47 t12 0).f3)) ∧ w'.cell? ad35 = some (.int .i64 ((rd_T47 t4 0).f0)) ∧ w'.cell? ⟨ad35.block,ad35.off + 1,none⟩ = some (.bool ((rd_T47 t4 0).f1)) ∧ w'.cell? ⟨ad35.block,ad35.off + 2,none⟩ = some (.int .i64 ((rd_T47 t4 0).f2)) ∧ w'.cell? ⟨ad35.block,ad35.off + 3,none⟩ = some (.int .i64 ((rd_T47 t4 0).f3))) (ds:=[]) #[false,false,false,false,false,false,false,false,false,false,false,false,false,false,false,false,false,false,false,false,false,false,false,false,false,false,false,false,false,false,false,false,false,false,false,false] (by kernel_rfl) rfl rfl ⟨(blk_cell BK8.out 0).trans rfl,hx34_0,hx34_1,hx34_2,hx34_3,hx35_0,hx35_1,hx35_2,hx35_3⟩ (fun hHeld=>?_);refine with_tabW laws_FnSplitGroupShape.tab10 laws_FnSplitGroupShape.bits10 (fun HT_ HW_=>?_)
              generalize wc.drew = w88 at HO_4 HO_6 HO_7 Z9 BK8 HB hx34_0 hx34_1 hx34_2 hx34_3 hx35_0 hx35_1 hx35_2 hx35_3 hHeld ⊢
              refine pure_ (i:=0) (N:=some 90) (v:=?_) (a':=?_) #[true,false,false,false,false,false,false,false,false,false,false,false,false,false,false,false,false,false,false,false,false,false,false,false,false,false,false,false,false,false,false,false,false,false,false,false] rfl rfl (any_of HT_.out (by kernel_rfl)) (fun _ _ _ h=>h) (Or.inl ⟨by rfl,?_⟩) ?_ ?_
              rotate_left
              ·intro w'
               go_simp
               with_reducible rfl
              rotate_left
              ·simp only [Act.put,s1_,s2_,s3_,i64_w,i32_w]
               rfl
              refine pure_ (i:=1) (N:=some 91) (v:=?_) (a':=?_) #[true,true,false,false,false,false,false,false,false,false,false,false,false,false,false,false,false,false,false,false,false,false,false,false,false,false,false,false,false,false,false,false,false,false,false,false] rfl rfl (any_of HT_.out (by kernel_rfl)) (fun _ _ _ h=>h) (Or.inl ⟨by rfl,?_⟩) ?_ ?_
              rotate_left
              ·intro w'
               go_simp
               with_reducible rfl
              rotate_left
              ·simp only [Act.put,s1_,s2_,s3_,i64_w,i32_w]
               rfl
              refine pure_ (i:=2) (N:=some 92) (v:=?_) (a':=?_) #[true,true,true,false,false,false,false,false,false,false,false,false,false,false,false,false,false,false,false,false,false,false,false,false,false,false,false,false,false,false,false,false,false,false,false,false] rfl rfl (any_of HT_.out (by kernel_rfl)) (fun _ _ _ h=>h) (Or.inl ⟨by rfl,?_⟩) ?_ ?_
              rotate_left
              ·intro w'
               go_simp
               with_reducible rfl
              rotate_left
              ·simp only [Act.put,s1_,s2_,s3_,i64_w,i32_w]
               rfl
              refine pure_ (i:=3) (N:=some 93) (v:=?_) (a':=?_) #[true,true,true,true,false,false,false,false,false,false,false,false,false,false,false,false,false,false,false,false,false,false,false,false,false,false,false,false,false,false,false,false,false,false,false,false] rfl rfl (any_of HT_.out (by kernel_rfl)) (fun _ _ _ h=>h) (Or.inl ⟨by rfl,?_⟩) ?_ ?_
              rotate_left
              ·intro w'
               go_simp
               with_reducible rfl
              rotate_left
              ·simp only [Act.put,s1_,s2_,s3_,i64_w,i32_w]
               rfl
              refine pure_ (i:=4) (N:=some 94) (v:=?_) (a':=?_) #[true,true,true,true,true,false,false,false,false,false,false,false,false,false,false,false,false,false,false,false,false,false,false,false,false,false,false,false,false,false,false,false,false,false,false,false] rfl rfl (any_of HT_.out (by kernel_rfl)) (fun _ _ _ h=>h) (Or.inl ⟨by rfl,?_⟩) ?_ ?_
              rotate_left
              ·intro w'
               go_simp
               with_reducible rfl
              rotate_left
              ·simp only [Act.put,s1_,s2_,s3_,i64_w,i32_w]
               rfl
              refine pure_ (i:=5) (N:=some 95) (v:=?_) (a':=?_) #[true,true,true,true,true,true,false,false,false,false,false,false,false,false,false,false,false,false,false,false,false,false,false,false,false,false,false,false,false,false,false,false,false,false,false,false] rfl rfl (any_of HT_.out (by kernel_rfl)) (fun _ _ _ h=>h) (Or.inl ⟨by rfl,?_⟩) ?_ ?_
              rotate_left
              ·intro w'
               go_simp
               with_reducible rfl
              rotate_left
              ·simp only [Act.put,s1_,s2_,s3_,i64_w,i32_w]
               rfl
              refine pure_ (i:=6) (N:=some 96) (v:=?_) (a':=?_) #[true,true,true,true,true,true,true,false,false,false,false,false,false,false,false,false,false,false,false,false,false,false,false,false,false,false,false,false,false,false,false,false,false,false,false,false] rfl rfl (any_of HT_.out (by kernel_rfl)) (fun _ _ _ h=>h) (Or.inl ⟨by rfl,?_⟩) ?_ ?_
              rotate_left
              ·intro w'
               go_simp
               with_reducible rfl
              rotate_left
              ·simp only [Act.put,s1_,s2_,s3_,i64_w,i32_w]
               rfl
              refine pure_ (i:=7) (N:=some 97) (v:=?_) (a':=?_) #[true,true,true,true,true,true,true,true,false,false,false,false,false,false,false,false,false,false,false,false,false,false,false,false,false,false,false,false,false,false,false,false,false,false,false,false] rfl rfl (any_of HT_.out (by kernel_rfl)) (fun _ _ _ h=>h) (Or.inl ⟨by rfl,?_⟩) ?_ ?_
              rotate_left
              ·intro w'
               go_simp
               with_reducible rfl
              rotate_left
              ·simp only [Act.put,s1_,s2_,s3_,i64_w,i32_w]
               rfl
              refine pure_ (i:=8) (N:=some 98) (v:=?_) (a':=?_) #[true,true,true,true,true,true,true,true,true,false,false,false,false,false,false,false,false,false,false,false,false,false,false,false,false,false,false,false,false,false,false,false,false,false,false,false] rfl rfl (any_of HT_.out (by kernel_rfl)) (fun _ _ _ h=>h) (Or.inl ⟨by rfl,?_⟩) ?_ ?_
              rotate_left
              ·intro w'
               go_simp
               with_reducible rfl
              rotate_left
              ·simp only [Act.put,s1_,s2_,s3_,i64_w,i32_w]
               rfl
              refine pure_ (i:=9) (N:=some 99) (v:=?_) (a':=?_) #[true,true,true,true,true,true,true,true,true,true,false,false,false,false,false,false,false,false,false,false,false,false,false,false,false,false,false,false,false,false,false,false,false,false,false,false] rfl rfl (any_of HT_.out (by kernel_rfl)) (fun _ _ _ h=>h) (Or.inl ⟨by rfl,?_⟩) ?_ ?_
              rotate_left
              ·intro w'
               go_simp
               with_reducible rfl
              rotate_left
              ·simp only [Act.put,s1_,s2_,s3_,i64_w,i32_w]
               rfl
              refine pure_ (i:=10) (N:=some 100) (v:=?_) (a':=?_) #[true,true,true,true,true,true,true,true,true,true,true,false,false,false,false,false,false,false,false,false,false,false,false,false,false,false,false,false,false,false,false,false,false,false,false,false] rfl rfl (any_of HT_.out (by kernel_rfl)) (fun _ _ _ h=>h) (Or.inl ⟨by rfl,?_⟩) ?_ ?_
              rotate_left
              ·intro w'
               go_simp
               with_reducible rfl
              rotate_left
              ·simp only [Act.put,s1_,s2_,s3_,i64_w,i32_w]
               rfl
              refine pure_ (i:=12) (N:=some 102) (v:=?_) (a':=?_) #[true,true,true,true,true,true,true,true,true,true,true,false,true,false,false,false,false,false,false,false,false,false,false,false,false,false,false,false,false,false,false,false,false,false,false,false] rfl rfl (any_of HT_.out (by kernel_rfl)) (fun _ _ _ h=>h) (Or.inl ⟨by rfl,?_⟩) ?_ ?_
              rotate_left
              ·intro w'
               go_simp
               with_reducible rfl
              rotate_left
              ·simp only [Act.put,s1_,s2_,s3_,i64_w,i32_w]
               rfl
              refine take_ (i:=11) (N:=some 101) (v:=?_) (a':=?_) #[true,true,true,true,true,true,true,true,true,true,true,true,true,false,false,false,false,false,false,false,false,false,false,false,false,false,false,false,false,false,false,false,false,false,false,false] rfl rfl (take_ofW HT_.out HW_.out (by kernel_rfl)) (fun _ _ _ h=>h) (Or.inl ⟨by rfl,?_⟩) hHeld ?_ ?_
              rotate_left
              ·rintro w' ⟨s0,s1,s2,s3,s4,s5,s6,s7,s8⟩
               go_simp
               with_reducible rfl
              rotate_left
              ·simp only [Act.put,s1_,s2_,s3_,i64_w,i32_w]
               rfl
              refine one_ (i:=13) (N:=some 103) #[true,true,true,true,true,true,true,true,true,true,true,true,true,true,false,false,false,false,false,false,false,false,false,false,false,false,false,false,false,false,false,false,false,false,false,false] rfl rfl (one_of HT_.out (by kernel_rfl)) (by decide) (fun K hK=>?_)
              refine goes_ Try.func15 (by kernel_rfl) rfl #[.agg #[.slice Ao9 t1.length co9],.slice (some ad34) t12.length co90] (by rfl) rfl rfl lm_ ?_
              with_reducible refine (impl_ValidGroup.calls kj51 _ _ t1 _ _ t12 true _ ?side1 ?side2 ?side3 ?side4 A82.out).mono ?_
              (case side1=>exact cc_ (Kd.R_reads' Z9.out).2.2)
              (case side2=>exact (Kd.R_reads' Z9.out).2.1)
              (case side3=>exact cc_ (Kd.R_reads' HO_7.out).2.2)
              (case side4=>exact (Kd.R_reads' HO_7.out).2.1)
              rintro e w91 ⟨rfl,hb⟩
              have HS1_:=(hb.cell (World.block_lt_of_cell? _ _ (hHeld.2.1))).trans (hHeld.2.1)
              have HS2_:=(hb.cell (World.block_lt_of_cell? _ _ (hHeld.2.2.1))).trans (hHeld.2.2.1)
              have HS3_:=(hb.cell (World.block_lt_of_cell? _ _ (hHeld.2.2.2.1))).trans (hHeld.2.2.2.1)
              have HS4_:=(hb.cell (World.block_lt_of_cell? _ _ (hHeld.2.2.2.2.1))).trans (hHeld.2.2.2.2.1)
              have HS5_:=(hb.cell (World.block_lt_of_cell? _ _ (hHeld.2.2.2.2.2.1))).trans (hHeld.2.2.2.2.2.1)
              have HS6_:=(hb.cell (World.block_lt_of_cell? _ _ (hHeld.2.2.2.2.2.2.1))).trans (hHeld.2.2.2.2.2.2.1)
              have HS7_:=(hb.cell (World.block_lt_of_cell? _ _ (hHeld.2.2.2.2.2.2.2.1))).trans (hHeld.2.2.2.2.2.2.2.1)
              have HS8_:=(hb.cell (World.block_lt_of_cell? _ _ (hHeld.2.2.2.2.2.2.2.2))).trans (hHeld.2.2.2.2.2.2.2.2)
              refine ⟨_,rfl,?_⟩
              have n0_:=rb_ HO_4 hb
              have n1_:=rb_ HO_6 hb
              have n2_:=rb_ HO_7 hb
              have n3_:=rb_ Z9 hb
              have n4_:=kb_ BK8 hb
              have n5_:=a0_ (below_step hb_ hb)
              clear HO_4
              clear HO_6
              clear HO_7
              clear Z9
              clear BK8
              clear HB
              have HO_4:=n0_
              have HO_6:=n1_
              have HO_7:=n2_
              have Z9:=n3_
              have BK8:=n4_
              have HB:=n5_
              clear n0_ n1_ n2_ n3_ n4_ n5_
              (try clear hb)
              (try clear hb2)
              (try clear hk)
              (try clear hi)
              refine hK.out _ _ ⟨(blk_cell BK8.out 0).trans rfl,HS1_,HS2_,HS3_,HS4_,HS5_,HS6_,HS7_,HS8_⟩ (fun hHeld=>?_)
              clear hK K
              refine norm_ (a':=?_) ?_ ?_
              rotate_left
              ·show Act.put _ (some 103) _ = _
               simp only [Act.put,s1_,s2_,s3_,i64_w,i32_w]
               rfl
              refine pure_ (i:=14) (N:=some 104) (v:=?_) (a':=?_) #[true,true,true,true,true,true,true,true,true,true,true,true,true,true,true,false,false,false,false,false,false,false,false,false,false,false,false,false,false,false,false,false,false,false,false,false] rfl rfl (any_of HT_.out (by kernel_rfl)) (fun _ _ _ h=>h) (Or.inl ⟨by rfl,?_⟩) ?_ ?_
              rotate_left
              ·intro w'
               go_simp
               with_reducible rfl
              rotate_left
              ·simp only [Act.put,s1_,s2_,s3_,i64_w,i32_w]
               rfl
              refine pure_ (i:=15) (N:=some 105) (v:=?_) (a':=?_) #[true,true,true,true,true,true,true,true,true,true,true,true,true,true,true,true,false,false,false,false,false,false,false,false,false,false,false,false,false,false,false,false,false,false,false,false] rfl rfl (any_of HT_.out (by kernel_rfl)) (fun _ _ _ h=>h) (Or.inl ⟨by rfl,?_⟩) ?_ ?_
              rotate_left
              ·intro w'
               go_simp
               with_reducible rfl
              rotate_left
              ·simp only [Act.put,s1_,s2_,s3_,i64_w,i32_w]
               rfl
              refine pure_ (i:=16) (N:=some 106) (v:=?_) (a':=?_) #[true,true,true,true,true,true,true,true,true,true,true,true,true,true,true,true,true,false,false,false,false,false,false,false,false,false,false,false,false,false,false,false,false,false,false,false] rfl rfl (any_of HT_.out (by kernel_rfl)) (fun _ _ _ h=>h) (Or.inl ⟨by rfl,?_⟩) ?_ ?_
              rotate_left
              ·intro w'
               go_simp
               with_reducible rfl
              rotate_left
              ·simp only [Act.put,s1_,s2_,s3_,i64_w,i32_w]
               rfl
              refine pure_ (i:=18) (N:=some 108) (v:=?_) (a':=?_) #[true,true,true,true,true,true,true,true,true,true,true,true,true,true,true,true,true,false,true,false,false,false,false,false,false,false,false,false,false,false,false,false,false,false,false,false] rfl rfl (any_of HT_.out (by kernel_rfl)) (fun _ _ _ h=>h) (Or.inl ⟨by rfl,?_⟩) ?_ ?_
              rotate_left
              ·intro w'
               go_simp
               with_reducible rfl
              rotate_left
              ·simp only [Act.put,s1_,s2_,s3_,i64_w,i32_w]
               rfl
              refine pure_ (i:=19) (N:=some 109) (v:=?_) (a':=?_) #[true,true,true,true,true,true,true,true,true,true,true,true,true,true,true,true,true,false,true,true,false,false,false,false,false,false,false,false,false,false,false,false,false,false,false,false] rfl rfl (any_of HT_.out (by kernel_rfl)) (fun _ _ _ h=>h) (Or.inl ⟨by rfl,?_⟩) ?_ ?_
              rotate_left
              ·intro w'
               go_simp
               with_reducible rfl
              rotate_left
              ·simp only [Act.put,s1_,s2_,s3_,i64_w,i32_w]
               rfl
              refine take_ (i:=17) (N:=some 107) (v:=?_) (a':=?_) #[true,true,true,true,true,true,true,true,true,true,true,true,true,true,true,true,true,true,true,true,false,false,false,false,false,false,false,false,false,false,false,false,false,false,false,false] rfl rfl (take_ofW HT_.out HW_.out (by kernel_rfl)) (fun _ _ _ h=>h) (Or.inl ⟨by rfl,?_⟩) hHeld ?_ ?_
              rotate_left
              ·rintro w' ⟨s0,s1,s2,s3,s4,s5,s6,s7,s8⟩
               go_simp
               with_reducible rfl
              rotate_left
              ·simp only [Act.put,s1_,s2_,s3_,i64_w,i32_w]
               rfl
              refine take_ (i:=20) (N:=some 110) (v:=?_) (a':=?_) #[true,true,true,true,true,true,true,true,true,true,true,true,true,true,true,true,true,true,true,true,true,false,false,false,false,false,false,false,false,false,false,false,false,false,false,false] rfl rfl (take_ofW HT_.out HW_.out (by kernel_rfl)) (fun _ _ _ h=>h) (Or.inl ⟨by rfl,?_⟩) hHeld ?_ ?_
              rotate_left
              ·rintro w' ⟨s0,s1,s2,s3,s4,s5,s6,s7,s8⟩
               go_simp
               with_reducible rfl
              rotate_left
              ·simp only [Act.put,s1_,s2_,s3_,i64_w,i32_w]
               rfl
              refine pure_ (i:=21) (N:=some 111) (v:=?_) (a':=?_) #[true,true,true,true,true,true,true,true,true,true,true,true,true,true,true,true,true,true,true,true,true,true,false,false,false,false,false,false,false,false,false,false,false,false,false,false] rfl rfl (any_of HT_.out (by kernel_rfl)) (fun _ _ _ h=>h) (Or.inl ⟨by rfl,?_⟩) ?_ ?_
              rotate_left
              ·intro w'
               go_simp
               with_reducible rfl
              rotate_left
              ·simp only [Act.put,s1_,s2_,s3_,i64_w,i32_w]
               rfl
              refine pure_ (i:=22) (N:=some 112) (v:=?_) (a':=?_) #[true,true,true,true,true,true,true,true,true,true,true,true,true,true,true,true,true,true,true,true,true,true,true,false,false,false,false,false,false,false,false,false,false,false,false,false] rfl rfl (any_of HT_.out (by kernel_rfl)) (fun _ _ _ h=>h) (Or.inl ⟨by rfl,?_⟩) ?_ ?_
              rotate_left
              ·intro w'
               go_simp
               with_reducible rfl
              rotate_left
              ·simp only [Act.put,s1_,s2_,s3_,i64_w,i32_w]
               rfl
              refine pure_ (i:=23) (N:=some 113) (v:=?_) (a':=?_) #[true,true,true,true,true,true,true,true,true,true,true,true,true,true,true,true,true,true,true,true,true,true,true,true,false,false,false,false,false,false,false,false,false,false,false,false] rfl rfl (any_of HT_.out (by kernel_rfl)) (fun _ _ _ h=>h) (Or.inl ⟨by rfl,?_⟩) ?_ ?_
              rotate_left
              ·intro w'
               go_simp
               with_reducible rfl
              rotate_left
              ·simp only [Act.put,s1_,s2_,s3_,i64_w,i32_w]
               rfl
              refine pure_ (i:=24) (N:=some 114) (v:=?_) (a':=?_) #[true,true,true,true,true,true,true,true,true,true,true,true,true,true,true,true,true,true,true,true,true,true,true,true,true,false,false,false,false,false,false,false,false,false,false,false] rfl rfl (any_of HT_.out (by kernel_rfl)) (fun _ _ _ h=>h) (Or.inl ⟨by rfl,?_⟩) ?_ ?_
              rotate_left
              ·intro w'
               go_simp
               with_reducible rfl
              rotate_left
              ·simp only [Act.put,s1_,s2_,s3_,i64_w,i32_w]
               rfl
              refine pure_ (i:=25) (N:=some 115) (v:=?_) (a':=?_) #[true,true,true,true,true,true,true,true,true,true,true,true,true,true,true,true,true,true,true,true,true,true,true,true,true,true,false,false,false,false,false,false,false,false,false,false] rfl rfl (any_of HT_.out (by kernel_rfl)) (fun _ _ _ h=>h) (Or.inl ⟨by rfl,?_⟩) ?_ ?_
              rotate_left
              ·intro w'
               go_simp
               with_reducible rfl
              rotate_left
              ·simp only [Act.put,s1_,s2_,s3_,i64_w,i32_w]
               rfl
              refine pure_ (i:=27) (N:=some 117) (v:=?_) (a':=?_) #[true,true,true,true,true,true,true,true,true,true,true,true,true,true,true,true,true,true,true,true,true,true,true,true,true,true,false,true,false,false,false,false,false,false,false,false] rfl rfl (any_of HT_.out (by kernel_rfl)) (fun _ _ _ h=>h) (Or.inl ⟨by rfl,?_⟩) ?_ ?_
              rotate_left
              ·intro w'
               go_simp
               with_reducible rfl
              rotate_left
              ·simp only [Act.put,s1_,s2_,s3_,i64_w,i32_w]
               rfl
              refine pure_ (i:=28) (N:=some 118) (v:=?_) (a':=?_) #[true,true,true,true,true,true,true,true,true,true,true,true,true,true,true,true,true,true,true,true,true,true,true,true,true,true,false,true,true,false,false,false,false,false,false,false] rfl rfl (any_of HT_.out (by kernel_rfl)) (fun _ _ _ h=>h) (Or.inl ⟨by rfl,?_⟩) ?_ ?_
              rotate_left
              ·intro w'
               go_simp
               with_reducible rfl
              rotate_left
              ·simp only [Act.put,s1_,s2_,s3_,i64_w,i32_w]
               rfl
              refine pure_ (i:=30) (N:=some 120) (v:=?_) (a':=?_) #[true,true,true,true,true,true,true,true,true,true,true,true,true,true,true,true,true,true,true,true,true,true,true,true,true,true,false,true,true,false,true,false,false,false,false,false] rfl rfl (any_of HT_.out (by kernel_rfl)) (fun _ _ _ h=>h) (Or.inl ⟨by rfl,?_⟩) ?_ ?_
              rotate_left
              ·intro w'
               go_simp
               with_reducible rfl
              rotate_left
              ·simp only [Act.put,s1_,s2_,s3_,i64_w,i32_w]
               rfl
              refine pure_ (i:=31) (N:=some 121) (v:=?_) (a':=?_) #[true,true,true,true,true,true,true,true,true,true,true,true,true,true,true,true,true,true,true,true,true,true,true,true,true,true,false,true,true,false,true,true,false,false,false,false] rfl rfl (any_of HT_.out (by kernel_rfl)) (fun _ _ _ h=>h) (Or.inl ⟨by rfl,?_⟩) ?_ ?_
              rotate_left
              ·intro w'
               go_simp
               with_reducible rfl
              rotate_left
              ·simp only [Act.put,s1_,s2_,s3_,i64_w,i32_w]
               rfl
              refine pure_ (i:=32) (N:=some 122) (v:=?_) (a':=?_) #[true,true,true,true,true,true,true,true,true,true,true,true,true,true,true,true,true,true,true,true,true,true,true,true,true,true,false,true,true,false,true,true,true,false,false,false] rfl rfl (any_of HT_.out (by kernel_rfl)) (fun _ _ _ h=>h) (Or.inl ⟨by rfl,?_⟩) ?_ ?_
              rotate_left
              ·intro w'
               go_simp
               with_reducible rfl
              rotate_left
              ·simp only [Act.put,s1_,s2_,s3_,i64_w,i32_w]
               rfl
              refine take_ (i:=26) (N:=some 116) (v:=?_) (a':=?_) #[true,true,true,true,true,true,true,true,true,true,true,true,true,true,true,true,true,true,true,true,true,true,true,true,true,true,true,true,true,false,true,true,true,false,false,false] rfl rfl (take_ofW HT_.out HW_.out (by kernel_rfl)) (fun _ _ _ h=>h) (Or.inl ⟨by rfl,?_⟩) hHeld ?_ ?_
              rotate_left
              ·rintro w' ⟨s0,s1,s2,s3,s4,s5,s6,s7,s8⟩
               go_simp
               with_reducible rfl
              rotate_left
              ·simp only [Act.put,s1_,s2_,s3_,i64_w,i32_w]
               rfl
              refine one_ (i:=29) (N:=some 119) #[true,true,true,true,true,true,true,true,true,true,true,true,true,true,true,true,true,true,true,true,true,true,true,true,true,true,true,true,true,true,true,true,true,false,false,false] rfl rfl (one_of HT_.out (by kernel_rfl)) (by decide) (fun K hK=>?_)
              refine goes_ Try.func20 (by kernel_rfl) rfl #[.agg #[.slice Ao9 t1.length co9],.slice (some ad35) t4.length co11,.int .i64 t7] (by rfl) rfl rfl lm_ ?_
              with_reducible refine (impl_HasClass.calls _ _ t1 _ _ t4 t7 t36 _ ?side1 ?side2 ?side3 ?side4 A87.out).mono ?_
              (case side1=>exact cc_ (Kd.R_reads' Z9.out).2.2)
              (case side2=>exact (Kd.R_reads' Z9.out).2.1)
              (case side3=>exact cc_ (Kd.R_reads' HO_4.out).2.2)
              (case side4=>exact (Kd.R_reads' HO_4.out).2.1)
              rintro e w92 ⟨rfl,hb⟩
              have HS1_:=(hb.cell (World.block_lt_of_cell? _ _ (hHeld.2.1))).trans (hHeld.2.1)
              have HS2_:=(hb.cell (World.block_lt_of_cell? _ _ (hHeld.2.2.1))).trans (hHeld.2.2.1)
              have HS3_:=(hb.cell (World.block_lt_of_cell? _ _ (hHeld.2.2.2.1))).trans (hHeld.2.2.2.1)
              have HS4_:=(hb.cell (World.block_lt_of_cell? _ _ (hHeld.2.2.2.2.1))).trans (hHeld.2.2.2.2.1)
              have HS5_:=(hb.cell (World.block_lt_of_cell? _ _ (hHeld.2.2.2.2.2.1))).trans (hHeld.2.2.2.2.2.1)
              have HS6_:=(hb.cell (World.block_lt_of_cell? _ _ (hHeld.2.2.2.2.2.2.1))).trans (hHeld.2.2.2.2.2.2.1)
              have HS7_:=(hb.cell (World.block_lt_of_cell? _ _ (hHeld.2.2.2.2.2.2.2.1))).trans (hHeld.2.2.2.2.2.2.2.1)
              have HS8_:=(hb.cell (World.block_lt_of_cell? _ _ (hHeld.2.2.2.2.2.2.2.2))).trans (hHeld.2.2.2.2.2.2.2.2)
              refine ⟨_,rfl,?_⟩
              have n0_:=rb_ HO_4 hb
              have n1_:=rb_ HO_6 hb
              have n2_:=rb_ HO_7 hb
              have n3_:=rb_ Z9 hb
              have n4_:=kb_ BK8 hb
              have n5_:=a0_ (below_step hb_ hb)
              clear HO_4
              clear HO_6
              clear HO_7
              clear Z9
              clear BK8
              clear HB
              have HO_4:=n0_
              have HO_6:=n1_
              have HO_7:=n2_
              have Z9:=n3_
              have BK8:=n4_
              have HB:=n5_
              clear n0_ n1_ n2_ n3_ n4_ n5_
              (try clear hb)
              (try clear hb2)
              (try clear hk)
              (try clear hi)
              refine hK.out _ _ ⟨(blk_cell BK8.out 0).trans rfl,HS1_,HS2_,HS3_,HS4_,HS5_,HS6_,HS7_,HS8_⟩ (fun hHeld=>?_)
              clear hK K
              refine norm_ (a':=?_) ?_ ?_
              rotate_left
              ·show Act.put _ (some 119) _ = _
               simp only [Act.put,s1_,s2_,s3_,i64_w,i32_w]
               rfl
              refine pure_ (i:=33) (N:=some 123) (v:=?_) (a':=?_) #[true,true,true,true,true,true,true,true,true,true,true,true,true,true,true,true,true,true,true,true,true,true,true,true,true,true,true,true,true,true,true,true,true,true,false,false] rfl rfl (any_of HT_.out (by kernel_rfl)) (fun _ _ _ h=>h) (Or.inl ⟨by rfl,?_⟩) ?_ ?_
              rotate_left
              ·intro w'
               go_simp
               with_reducible rfl
              rotate_left
              ·simp only [Act.put,s1_,s2_,s3_,i64_w,i32_w]
               rfl
              refine pure_ (i:=34) (N:=some 124) (v:=?_) (a':=?_) #[true,true,true,true,true,true,true,true,true,true,true,true,true,true,true,true,true,true,true,true,true,true,true,true,true,true,true,true,true,true,true,true,true,true,true,false] rfl rfl (any_of HT_.out (by kernel_rfl)) (fun _ _ _ h=>h) (Or.inl ⟨by rfl,?_⟩) ?_ ?_
              rotate_left
              ·intro w'
               go_simp
               with_reducible rfl
              rotate_left
              ·simp only [Act.put,s1_,s2_,s3_,i64_w,i32_w]
               rfl
              refine pure_ (i:=35) (N:=some 2) (v:=?_) (a':=?_) #[true,true,true,true,true,true,true,true,true,true,true,true,true,true,true,true,true,true,true,true,true,true,true,true,true,true,true,true,true,true,true,true,true,true,true,true] rfl rfl (any_of HT_.out (by kernel_rfl)) (fun _ _ _ h=>h) (Or.inl ⟨by rfl,?_⟩) ?_ ?_
              rotate_left
              ·intro w'
               go_simp
               with_reducible rfl
              rotate_left
              ·simp only [Act.put,s1_,s2_,s3_,i64_w,i32_w]
               rfl
              refine done_ (done_of HT_.out (by kernel_rfl)) ?_
              try go_wp2
              go_ret
              exact ⟨by first | rfl | (simp [errW_none,errW_some] <;> rfl) | (simp [*,errW_none,errW_some] <;> rfl),hb_⟩
             ·rw [if_neg c86] at H
              have c86b0 : (((rd_T47 t12 0).f0) == ((rd_T47 t4 0).f0) && (((rd_T47 t12 0).f1) == ((rd_T47 t4 0).f1) && (((rd_T47 t12 0).f2) == ((rd_T47 t4 0).f2) && (((rd_T47 t12 0).f3) == ((rd_T47 t4 0).f3))))) = false:=by simpa using c86
              (try (have c86b1 : decide (((rd_T47 t12 0).f0) = ((rd_T47 t4 0).f0) && (((rd_T47 t12 0).f1) == ((rd_T47 t4 0).f1) && (((rd_T47 t12 0).f2) == ((rd_T47 t4 0).f2) && (((rd_T47 t12 0).f3) == ((rd_T47 t4 0).f3))))) = false:=by simpa using c86))
              (try (have c86b2 : (((rd_T47 t12 0).f0) == ((rd_T47 t4 0).f0) && (((rd_T47 t12 0).f1) == ((rd_T47 t4 0).f1) && (((rd_T47 t12 0).f2) == ((rd_T47 t4 0).f2) && (((rd_T47 t12 0).f3) == ((rd_T47 t4 0).f3))))) = false:=by simpa using c86))
              (try (have c86b3 : ¬ (((rd_T47 t12 0).f0) = ((rd_T47 t4 0).f0) && (((rd_T47 t12 0).f1) == ((rd_T47 t4 0).f1) && (((rd_T47 t12 0).f2) == ((rd_T47 t4 0).f2) && (((rd_T47 t12 0).f3) == ((rd_T47 t4 0).f3))))):=by simpa using c86))
              clear c86
              obtain rfl:=Option.some.inj H
              try go_wp2
              have n0_:=a0_ (Kd.R_drew HO_4.out)
              have n1_:=a0_ (Kd.R_drew HO_6.out)
              have n2_:=a0_ (Kd.R_drew HO_7.out)
              have n3_:=a0_ (Kd.R_drew Z9.out)
              have n4_:=a0_ (blk_drew BK8.out)
              have n5_:=a0_ (below_drew1 HB.out)
              clear HO_4
              clear HO_6
              clear HO_7
              clear Z9
              clear BK8
              clear HB
              have HO_4:=n0_
              have HO_6:=n1_
              have HO_7:=n2_
              have Z9:=n3_
              have BK8:=n4_
              have HB:=n5_
              clear n0_ n1_ n2_ n3_ n4_ n5_
              obtain ⟨Ao94,co94,eo94⟩:=Kd.R_slice HO_6.out
              (first | subst eo94 | (injection eo94 with f1_ f2_ f3_;have f4_:=f1_.symm;have f5_:=f3_.symm;clear f1_ f2_ f3_;subst f4_;subst f5_))
              obtain ⟨Ao95,co95,eo95⟩:=Kd.R_slice HO_7.out
              (first | subst eo95 | (injection eo95 with f1_ f2_ f3_;have f4_:=f1_.symm;have f5_:=f3_.symm;clear f1_ f2_ f3_;subst f4_;subst f5_))
              have p34 : 0 ≤ (0 : Int):=(by omega)
              have q34 : 0 < (t12.length : Int):=of_decide_eq_true (by first | (with_reducible assumption) | assumption)
              obtain ⟨ad34,e34,hx34_0,hx34_1,hx34_2,hx34_3⟩:=at_T47 (Kd.R_reads' HO_7.out).2.2 0 p34 q34
              cases e34
              have qi34 : (0 < t12.length) = True:=eq_true (by omega)
              (try rw [show ((0 : Int)).toNat = 0 from rfl] at hx34_0)
              (try rw [show 0 * 4 = 0 from rfl] at hx34_0)
              (try rw [Addr.add_zero'] at hx34_0)
              (try rw [show ((0 : Int)).toNat = 0 from rfl] at hx34_1)
              (try rw [show 0 * 4 = 0 from rfl] at hx34_1)
              (try rw [Addr.add_zero'] at hx34_1)
              (try rw [show ((0 : Int)).toNat = 0 from rfl] at hx34_2)
              (try rw [show 0 * 4 = 0 from rfl] at hx34_2)
              (try rw [Addr.add_zero'] at hx34_2)
              (try rw [show ((0 : Int)).toNat = 0 from rfl] at hx34_3)
              (try rw [show 0 * 4 = 0 from rfl] at hx34_3)
              (try rw [Addr.add_zero'] at hx34_3)
              replace p34:=eq_true p34
              replace q34:=eq_true q34
              have p35 : 0 ≤ (0 : Int):=(by omega)
              have q35 : 0 < (t4.length : Int):=of_decide_eq_true (by first | (with_reducible assumption) | assumption)
              obtain ⟨ad35,e35,hx35_0,hx35_1,hx35_2,hx35_3⟩:=at_T47 (Kd.R_reads' HO_4.out).2.2 0 p35 q35
              cases e35
              have qi35 : (0 < t4.length) = True:=eq_true (by omega)
              (try rw [show ((0 : Int)).toNat = 0 from rfl] at hx35_0)
              (try rw [show 0 * 4 = 0 from rfl] at hx35_0)
              (try rw [Addr.add_zero'] at hx35_0)
              (try rw [show ((0 : Int)).toNat = 0 from rfl] at hx35_1)
              (try rw [show 0 * 4 = 0 from rfl] at hx35_1)
              (try rw [Addr.add_zero'] at hx35_1)
              (try rw [show ((0 : Int)).toNat = 0 from rfl] at hx35_2)
              (try rw [show 0 * 4 = 0 from rfl] at hx35_2)
              (try rw [Addr.add_zero'] at hx35_2)
              (try rw [show ((0 : Int)).toNat = 0 from rfl] at hx35_3)
              (try rw [show 0 * 4 = 0 from rfl] at hx35_3)
              (try rw [Addr.add_zero'] at hx35_3)
              replace p35:=eq_true p35
              replace q35:=eq_true q35
              refine start_ (n:=36) (S:=fun w'=>w'.cell? ⟨gb8,0,none⟩ = some (.slice Ao9 t1.length co9) ∧ w'.cell? ad34 = some (.int .i64 ((rd_T47 t12 0).f0)) ∧ w'.cell? ⟨ad34.block,ad34.off + 1,none⟩ = some (.bool ((rd_T47 t12 0).f1)) ∧ w'.cell? ⟨ad34.block,ad34.off + 2,none⟩ = some (.int .i64 ((rd_T47 t12 0).f2)) ∧ w'.cell? ⟨ad34.block,ad34.off + 3,none⟩ = some (.int .i64 ((rd_T47 t12 0).f3)) ∧ w'.cell? ad35 = some (.int .i64 ((rd_T47 t4 0).f0)) ∧ w'.cell? ⟨ad35.block,ad35.off + 1,none⟩ = some (.bool ((rd_T47 t4 0).f1)) ∧ w'.cell? ⟨ad35.block,ad35.off + 2,none⟩ = some (.int .i64 ((rd_T47 t4 0).f2)) ∧ w'.cell? ⟨ad35.block,ad35.off + 3,none⟩ = some (.int .i64 ((rd_T47 t4 0).f3))) (ds:=[]) #[false,false,false,false,false,false,false,false,false,false,false,false,false,false,false,false,false,false,false,false,false,false,false,false,false,false,false,false,false,false,false,false,false,false,false,false] (by kernel_rfl) rfl rfl ⟨(blk_cell BK8.out 0).trans rfl,hx34_0,hx34_1,hx34_2,hx34_3,hx35_0,hx35_1,hx35_2,hx35_3⟩ (fun hHeld=>?_);refine with_tabW laws_FnSplitGroupShape.tab10 laws_FnSplitGroupShape.bits10 (fun HT_ HW_=>?_)
              generalize wc.drew = w93 at HO_4 HO_6 HO_7 Z9 BK8 HB hx34_0 hx34_1 hx34_2 hx34_3 hx35_0 hx35_1 hx35_2 hx35_3 hHeld ⊢
              refine pure_ (i:=0) (N:=some 90) (v:=?_) (a':=?_) #[true,false,false,false,false,false,false,false,false,false,false,false,false,false,false,false,false,false,false,false,false,false,false,false,false,false,false,false,false,false,false,false,false,false,false,false] rfl rfl (any_of HT_.out (by kernel_rfl)) (fun _ _ _ h=>h) (Or.inl ⟨by rfl,?_⟩) ?_ ?_
              rotate_left
              ·intro w'
               go_simp
               with_reducible rfl
              rotate_left
              ·simp only [Act.put,s1_,s2_,s3_,i64_w,i32_w]
               rfl
              refine pure_ (i:=1) (N:=some 91) (v:=?_) (a':=?_) #[true,true,false,false,false,false,false,false,false,false,false,false,false,false,false,false,false,false,false,false,false,false,false,false,false,false,false,false,false,false,false,false,false,false,false,false] rfl rfl (any_of HT_.out (by kernel_rfl)) (fun _ _ _ h=>h) (Or.inl ⟨by rfl,?_⟩) ?_ ?_
              rotate_left
              ·intro w'
               go_simp
               with_reducible rfl
              rotate_left
              ·simp only [Act.put,s1_,s2_,s3_,i64_w,i32_w]
               rfl
              refine pure_ (i:=2) (N:=some 92) (v:=?_) (a':=?_) #[true,true,true,false,false,false,false,false,false,false,false,false,false,false,false,false,false,false,false,false,false,false,false,false,false,false,false,false,false,false,false,false,false,false,false,false] rfl rfl (any_of HT_.out (by kernel_rfl)) (fun _ _ _ h=>h) (Or.inl ⟨by rfl,?_⟩) ?_ ?_
              rotate_left
              ·intro w'
               go_simp
               with_reducible rfl
              rotate_left
              ·simp only [Act.put,s1_,s2_,s3_,i64_w,i32_w]
               rfl
              refine pure_ (i:=3) (N:=some 93) (v:=?_) (a':=?_) #[true,true,true,true,false,false,false,false,false,false,false,false,false,false,false,false,false,false,false,false,false,false,false,false,false,false,false,false,false,false,false,false,false,false,false,false] rfl rfl (any_of HT_.out (by kernel_rfl)) (fun _ _ _ h=>h) (Or.inl ⟨by rfl,?_⟩) ?_ ?_
              rotate_left
              ·intro w'
               go_simp
               with_reducible rfl
              rotate_left
              ·simp only [Act.put,s1_,s2_,s3_,i64_w,i32_w]
               rfl
              refine pure_ (i:=4) (N:=some 94) (v:=?_) (a':=?_) #[true,true,true,true,true,false,false,false,false,false,false,false,false,false,false,false,false,false,false,false,false,false,false,false,false,false,false,false,false,false,false,false,false,false,false,false] rfl rfl (any_of HT_.out (by kernel_rfl)) (fun _ _ _ h=>h) (Or.inl ⟨by rfl,?_⟩) ?_ ?_
              rotate_left
              ·intro w'
               go_simp
               with_reducible rfl
              rotate_left
              ·simp only [Act.put,s1_,s2_,s3_,i64_w,i32_w]
               rfl
              refine pure_ (i:=5) (N:=some 95) (v:=?_) (a':=?_) #[true,true,true,true,true,true,false,false,false,false,false,false,false,false,false,false,false,false,false,false,false,false,false,false,false,false,false,false,false,false,false,false,false,false,false,false] rfl rfl (any_of HT_.out (by kernel_rfl)) (fun _ _ _ h=>h) (Or.inl ⟨by rfl,?_⟩) ?_ ?_
              rotate_left
              ·intro w'
               go_simp
               with_reducible rfl
              rotate_left
              ·simp only [Act.put,s1_,s2_,s3_,i64_w,i32_w]
               rfl
              refine pure_ (i:=6) (N:=some 96) (v:=?_) (a':=?_) #[true,true,true,true,true,true,true,false,false,false,false,false,false,false,false,false,false,false,false,false,false,false,false,false,false,false,false,false,false,false,false,false,false,false,false,false] rfl rfl (any_of HT_.out (by kernel_rfl)) (fun _ _ _ h=>h) (Or.inl ⟨by rfl,?_⟩) ?_ ?_
              rotate_left
              ·intro w'
               go_simp
               with_reducible rfl
              rotate_left
              ·simp only [Act.put,s1_,s2_,s3_,i64_w,i32_w]
               rfl
              refine pure_ (i:=7) (N:=some 97) (v:=?_) (a':=?_) #[true,true,true,true,true,true,true,true,false,false,false,false,false,false,false,false,false,false,false,false,false,false,false,false,false,false,false,false,false,false,false,false,false,false,false,false] rfl rfl (any_of HT_.out (by kernel_rfl)) (fun _ _ _ h=>h) (Or.inl ⟨by rfl,?_⟩) ?_ ?_
              rotate_left
              ·intro w'
               go_simp
               with_reducible rfl
              rotate_left
              ·simp only [Act.put,s1_,s2_,s3_,i64_w,i32_w]
               rfl
              refine pure_ (i:=8) (N:=some 98) (v:=?_) (a':=?_) #[true,true,true,true,true,true,true,true,true,false,false,false,false,false,false,false,false,false,false,false,false,false,false,false,false,false,false,false,false,false,false,false,false,false,false,false] rfl rfl (any_of HT_.out (by kernel_rfl)) (fun _ _ _ h=>h) (Or.inl ⟨by rfl,?_⟩) ?_ ?_
              rotate_left
              ·intro w'
               go_simp
               with_reducible rfl
              rotate_left
              ·simp only [Act.put,s1_,s2_,s3_,i64_w,i32_w]
               rfl
              refine pure_ (i:=9) (N:=some 99) (v:=?_) (a':=?_) #[true,true,true,true,true,true,true,true,true,true,false,false,false,false,false,false,false,false,false,false,false,false,false,false,false,false,false,false,false,false,false,false,false,false,false,false] rfl rfl (any_of HT_.out (by kernel_rfl)) (fun _ _ _ h=>h) (Or.inl ⟨by rfl,?_⟩) ?_ ?_
              rotate_left
              ·intro w'
               go_simp
               with_reducible rfl
              rotate_left
              ·simp only [Act.put,s1_,s2_,s3_,i64_w,i32_w]
               rfl
              refine pure_ (i:=10) (N:=some 100) (v:=?_) (a':=?_) #[true,true,true,true,true,true,true,true,true,true,true,false,false,false,false,false,false,false,false,false,false,false,false,false,false,false,false,false,false,false,false,false,false,false,false,false] rfl rfl (any_of HT_.out (by kernel_rfl)) (fun _ _ _ h=>h) (Or.inl ⟨by rfl,?_⟩) ?_ ?_
              rotate_left
              ·intro w'
               go_simp
               with_reducible rfl
              rotate_left
              ·simp only [Act.put,s1_,s2_,s3_,i64_w,i32_w]
               rfl
              refine pure_ (i:=12) (N:=some 102) (v:=?_) (a':=?_) #[true,true,true,true,true,true,true,true,true,true,true,false,true,false,false,false,false,false,false,false,false,false,false,false,false,false,false,false,false,false,false,false,false,false,false,false] rfl rfl (any_of HT_.out (by kernel_rfl)) (fun _ _ _ h=>h) (Or.inl ⟨by rfl,?_⟩) ?_ ?_
              rotate_left
              ·intro w'
               go_simp
               with_reducible rfl
              rotate_left
              ·simp only [Act.put,s1_,s2_,s3_,i64_w,i32_w]
               rfl
              refine take_ (i:=11) (N:=some 101) (v:=?_) (a':=?_) #[true,true,true,true,true,true,true,true,true,true,true,true,true,false,false,false,false,false,false,false,false,false,false,false,false,false,false,false,false,false,false,false,false,false,false,false] rfl rfl (take_ofW HT_.out HW_.out (by kernel_rfl)) (fun _ _ _ h=>h) (Or.inl ⟨by rfl,?_⟩) hHeld ?_ ?_
              rotate_left
              ·rintro w' ⟨s0,s1,s2,s3,s4,s5,s6,s7,s8⟩
               go_simp
               with_reducible rfl
              rotate_left
              ·simp only [Act.put,s1_,s2_,s3_,i64_w,i32_w]
               rfl
              refine one_ (i:=13) (N:=some 103) #[true,true,true,true,true,true,true,true,true,true,true,true,true,true,false,false,false,false,false,false,false,false,false,false,false,false,false,false,false,false,false,false,false,false,false,false] rfl rfl (one_of HT_.out (by kernel_rfl)) (by decide) (fun K hK=>?_)
              refine goes_ Try.func15 (by kernel_rfl) rfl #[.agg #[.slice Ao9 t1.length co9],.slice (some ad34) t12.length co95] (by rfl) rfl rfl lm_ ?_
              with_reducible refine (impl_ValidGroup.calls kj51 _ _ t1 _ _ t12 true _ ?side1 ?side2 ?side3 ?side4 A82.out).mono ?_
              (case side1=>exact cc_ (Kd.R_reads' Z9.out).2.2)
              (case side2=>exact (Kd.R_reads' Z9.out).2.1)
              (case side3=>exact cc_ (Kd.R_reads' HO_7.out).2.2)
              (case side4=>exact (Kd.R_reads' HO_7.out).2.1)
              rintro e w96 ⟨rfl,hb⟩
              have HS1_:=(hb.cell (World.block_lt_of_cell? _ _ (hHeld.2.1))).trans (hHeld.2.1)
              have HS2_:=(hb.cell (World.block_lt_of_cell? _ _ (hHeld.2.2.1))).trans (hHeld.2.2.1)
              have HS3_:=(hb.cell (World.block_lt_of_cell? _ _ (hHeld.2.2.2.1))).trans (hHeld.2.2.2.1)
              have HS4_:=(hb.cell (World.block_lt_of_cell? _ _ (hHeld.2.2.2.2.1))).trans (hHeld.2.2.2.2.1)
              have HS5_:=(hb.cell (World.block_lt_of_cell? _ _ (hHeld.2.2.2.2.2.1))).trans (hHeld.2.2.2.2.2.1)
              have HS6_:=(hb.cell (World.block_lt_of_cell? _ _ (hHeld.2.2.2.2.2.2.1))).trans (hHeld.2.2.2.2.2.2.1)
              have HS7_:=(hb.cell (World.block_lt_of_cell? _ _ (hHeld.2.2.2.2.2.2.2.1))).trans (hHeld.2.2.2.2.2.2.2.1)
              have HS8_:=(hb.cell (World.block_lt_of_cell? _ _ (hHeld.2.2.2.2.2.2.2.2))).trans (hHeld.2.2.2.2.2.2.2.2)
              refine ⟨_,rfl,?_⟩
              have n0_:=rb_ HO_4 hb
              have n1_:=rb_ HO_6 hb
              have n2_:=rb_ HO_7 hb
              have n3_:=rb_ Z9 hb
              have n4_:=kb_ BK8 hb
              have n5_:=a0_ (below_step hb_ hb)
              clear HO_4
              clear HO_6
              clear HO_7
              clear Z9
              clear BK8
              clear HB
              have HO_4:=n0_
              have HO_6:=n1_
              have HO_7:=n2_
              have Z9:=n3_
              have BK8:=n4_
              have HB:=n5_
              clear n0_ n1_ n2_ n3_ n4_ n5_
              (try clear hb)
              (try clear hb2)
              (try clear hk)
              (try clear hi)
              refine hK.out _ _ ⟨(blk_cell BK8.out 0).trans rfl,HS1_,HS2_,HS3_,HS4_,HS5_,HS6_,HS7_,HS8_⟩ (fun hHeld=>?_)
              clear hK K
              refine norm_ (a':=?_) ?_ ?_
              rotate_left
              ·show Act.put _ (some 103) _ = _
               simp only [Act.put,s1_,s2_,s3_,i64_w,i32_w]
               rfl
              refine pure_ (i:=14) (N:=some 104) (v:=?_) (a':=?_) #[true,true,true,true,true,true,true,true,true,true,true,true,true,true,true,false,false,false,false,false,false,false,false,false,false,false,false,false,false,false,false,false,false,false,false,false] rfl rfl (any_of HT_.out (by kernel_rfl)) (fun _ _ _ h=>h) (Or.inl ⟨by rfl,?_⟩) ?_ ?_
              rotate_left
              ·intro w'
               go_simp
               with_reducible rfl
              rotate_left
              ·simp only [Act.put,s1_,s2_,s3_,i64_w,i32_w]
               rfl
              refine pure_ (i:=15) (N:=some 105) (v:=?_) (a':=?_) #[true,true,true,true,true,true,true,true,true,true,true,true,true,true,true,true,false,false,false,false,false,false,false,false,false,false,false,false,false,false,false,false,false,false,false,false] rfl rfl (any_of HT_.out (by kernel_rfl)) (fun _ _ _ h=>h) (Or.inl ⟨by rfl,?_⟩) ?_ ?_
              rotate_left
              ·intro w'
               go_simp
               with_reducible rfl
              rotate_left
              ·simp only [Act.put,s1_,s2_,s3_,i64_w,i32_w]
               rfl
              refine pure_ (i:=16) (N:=some 106) (v:=?_) (a':=?_) #[true,true,true,true,true,true,true,true,true,true,true,true,true,true,true,true,true,false,false,false,false,false,false,false,false,false,false,false,false,false,false,false,false,false,false,false] rfl rfl (any_of HT_.out (by kernel_rfl)) (fun _ _ _ h=>h) (Or.inl ⟨by rfl,?_⟩) ?_ ?_
              rotate_left
              ·intro w'
               go_simp
               with_reducible rfl
              rotate_left
              ·simp only [Act.put,s1_,s2_,s3_,i64_w,i32_w]
               rfl
              refine pure_ (i:=18) (N:=some 108) (v:=?_) (a':=?_) #[true,true,true,true,true,true,true,true,true,true,true,true,true,true,true,true,true,false,true,false,false,false,false,false,false,false,false,false,false,false,false,false,false,false,false,false] rfl rfl (any_of HT_.out (by kernel_rfl)) (fun _ _ _ h=>h) (Or.inl ⟨by rfl,?_⟩) ?_ ?_
              rotate_left
              ·intro w'
               go_simp
               with_reducible rfl
              rotate_left
              ·simp only [Act.put,s1_,s2_,s3_,i64_w,i32_w]
               rfl
              refine pure_ (i:=19) (N:=some 109) (v:=?_) (a':=?_) #[true,true,true,true,true,true,true,true,true,true,true,true,true,true,true,true,true,false,true,true,false,false,false,false,false,false,false,false,false,false,false,false,false,false,false,false] rfl rfl (any_of HT_.out (by kernel_rfl)) (fun _ _ _ h=>h) (Or.inl ⟨by rfl,?_⟩) ?_ ?_
              rotate_left
              ·intro w'
               go_simp
               with_reducible rfl
              rotate_left
              ·simp only [Act.put,s1_,s2_,s3_,i64_w,i32_w]
               rfl
              refine take_ (i:=17) (N:=some 107) (v:=?_) (a':=?_) #[true,true,true,true,true,true,true,true,true,true,true,true,true,true,true,true,true,true,true,true,false,false,false,false,false,false,false,false,false,false,false,false,false,false,false,false] rfl rfl (take_ofW HT_.out HW_.out (by kernel_rfl)) (fun _ _ _ h=>h) (Or.inl ⟨by rfl,?_⟩) hHeld ?_ ?_
              rotate_left
              ·rintro w' ⟨s0,s1,s2,s3,s4,s5,s6,s7,s8⟩
               go_simp
               with_reducible rfl
              rotate_left
              ·simp only [Act.put,s1_,s2_,s3_,i64_w,i32_w]
               rfl
              refine take_ (i:=20) (N:=some 110) (v:=?_) (a':=?_) #[true,true,true,true,true,true,true,true,true,true,true,true,true,true,true,true,true,true,true,true,true,false,false,false,false,false,false,false,false,false,false,false,false,false,false,false] rfl rfl (take_ofW HT_.out HW_.out (by kernel_rfl)) (fun _ _ _ h=>h) (Or.inl ⟨by rfl,?_⟩) hHeld ?_ ?_
              rotate_left
              ·rintro w' ⟨s0,s1,s2,s3,s4,s5,s6,s7,s8⟩
               go_simp
               with_reducible rfl
              rotate_left
              ·simp only [Act.put,s1_,s2_,s3_,i64_w,i32_w]
               rfl
              refine pure_ (i:=21) (N:=some 111) (v:=?_) (a':=?_) #[true,true,true,true,true,true,true,true,true,true,true,true,true,true,true,true,true,true,true,true,true,true,false,false,false,false,false,false,false,false,false,false,false,false,false,false] rfl rfl (any_of HT_.out (by kernel_rfl)) (fun _ _ _ h=>h) (Or.inl ⟨by rfl,?_⟩) ?_ ?_
              rotate_left
              ·intro w'
               go_simp
               with_reducible rfl
              rotate_left
              ·simp only [Act.put,s1_,s2_,s3_,i64_w,i32_w]
               rfl
              refine pure_ (i:=22) (N:=some 112) (v:=?_) (a':=?_) #[true,true,true,true,true,true,true,true,true,true,true,true,true,true,true,true,true,true,true,true,true,true,true,false,false,false,false,false,false,false,false,false,false,false,false,false] rfl rfl (any_of HT_.out (by kernel_rfl)) (fun _ _ _ h=>h) (Or.inl ⟨by rfl,?_⟩) ?_ ?_
              rotate_left
              ·intro w'
               go_simp
               with_reducible rfl
              rotate_left
              ·simp only [Act.put,s1_,s2_,s3_,i64_w,i32_w]
               rfl
              refine pure_ (i:=23) (N:=some 113) (v:=?_) (a':=?_) #[true,true,true,true,true,true,true,true,true,true,true,true,true,true,true,true,true,true,true,true,true,true,true,true,false,false,false,false,false,false,false,false,false,false,false,false] rfl rfl (any_of HT_.out (by kernel_rfl)) (fun _ _ _ h=>h) (Or.inl ⟨by rfl,?_⟩) ?_ ?_
              rotate_left
              ·intro w'
               go_simp
               with_reducible rfl
              rotate_left
              ·simp only [Act.put,s1_,s2_,s3_,i64_w,i32_w]
               rfl
              refine pure_ (i:=24) (N:=some 114) (v:=?_) (a':=?_) #[true,true,true,true,true,true,true,true,true,true,true,true,true,true,true,true,true,true,true,true,true,true,true,true,true,false,false,false,false,false,false,false,false,false,false,false] rfl rfl (any_of HT_.out (by kernel_rfl)) (fun _ _ _ h=>h) (Or.inl ⟨by rfl,?_⟩) ?_ ?_
              rotate_left
              ·intro w'
               go_simp
               with_reducible rfl
              rotate_left
              ·simp only [Act.put,s1_,s2_,s3_,i64_w,i32_w]
               rfl
              refine pure_ (i:=25) (N:=some 115) (v:=?_) (a':=?_) #[true,true,true,true,true,true,true,true,true,true,true,true,true,true,true,true,true,true,true,true,true,true,true,true,true,true,false,false,false,false,false,false,false,false,false,false] rfl rfl (any_of HT_.out (by kernel_rfl)) (fun _ _ _ h=>h) (Or.inl ⟨by rfl,?_⟩) ?_ ?_
              rotate_left
              ·intro w'
               go_simp
               with_reducible rfl
              rotate_left
              ·simp only [Act.put,s1_,s2_,s3_,i64_w,i32_w]
               rfl
              refine pure_ (i:=26) (N:=some 116) (v:=undef) (a':=?_) #[true,true,true,true,true,true,true,true,true,true,true,true,true,true,true,true,true,true,true,true,true,true,true,true,true,true,true,false,false,false,false,false,false,false,false,false] rfl rfl (any_of HT_.out (by kernel_rfl)) (fun _ _ _ h=>h) (Or.inr ⟨by rfl,rfl⟩) ?_ ?_
              rotate_left
              ·simp only [Act.put,s1_,s2_,s3_,i64_w,i32_w]
               rfl
              refine pure_ (i:=27) (N:=some 117) (v:=undef) (a':=?_) #[true,true,true,true,true,true,true,true,true,true,true,true,true,true,true,true,true,true,true,true,true,true,true,true,true,true,true,true,false,false,false,false,false,false,false,false] rfl rfl (any_of HT_.out (by kernel_rfl)) (fun _ _ _ h=>h) (Or.inr ⟨by rfl,rfl⟩) ?_ ?_
              rotate_left
              ·simp only [Act.put,s1_,s2_,s3_,i64_w,i32_w]
               rfl
              refine pure_ (i:=28) (N:=some 118) (v:=undef) (a':=?_) #[true,true,true,true,true,true,true,true,true,true,true,true,true,true,true,true,true,true,true,true,true,true,true,true,true,true,true,true,true,false,false,false,false,false,false,false] rfl rfl (any_of HT_.out (by kernel_rfl)) (fun _ _ _ h=>h) (Or.inr ⟨by rfl,rfl⟩) ?_ ?_
              rotate_left
              ·simp only [Act.put,s1_,s2_,s3_,i64_w,i32_w]
               rfl
              refine pure_ (i:=29) (N:=some 119) (v:=undef) (a':=?_) #[true,true,true,true,true,true,true,true,true,true,true,true,true,true,true,true,true,true,true,true,true,true,true,true,true,true,true,true,true,true,false,false,false,false,false,false] rfl rfl (any_of HT_.out (by kernel_rfl)) (fun _ _ _ h=>h) (Or.inr ⟨by rfl,rfl⟩) ?_ ?_
              rotate_left
              ·simp only [Act.put,s1_,s2_,s3_,i64_w,i32_w]
               rfl
              refine pure_ (i:=30) (N:=some 120) (v:=undef) (a':=?_) #[true,true,true,true,true,true,true,true,true,true,true,true,true,true,true,true,true,true,true,true,true,true,true,true,true,true,true,true,true,true,true,false,false,false,false,false] rfl rfl (any_of HT_.out (by kernel_rfl)) (fun _ _ _ h=>h) (Or.inr ⟨by rfl,rfl⟩) ?_ ?_
              rotate_left
              ·simp only [Act.put,s1_,s2_,s3_,i64_w,i32_w]
               rfl
              refine pure_ (i:=31) (N:=some 121) (v:=undef) (a':=?_) #[true,true,true,true,true,true,true,true,true,true,true,true,true,true,true,true,true,true,true,true,true,true,true,true,true,true,true,true,true,true,true,true,false,false,false,false] rfl rfl (any_of HT_.out (by kernel_rfl)) (fun _ _ _ h=>h) (Or.inr ⟨by rfl,rfl⟩) ?_ ?_
              rotate_left
              ·simp only [Act.put,s1_,s2_,s3_,i64_w,i32_w]
               rfl
              refine pure_ (i:=32) (N:=some 122) (v:=undef) (a':=?_) #[true,true,true,true,true,true,true,true,true,true,true,true,true,true,true,true,true,true,true,true,true,true,true,true,true,true,true,true,true,true,true,true,true,false,false,false] rfl rfl (any_of HT_.out (by kernel_rfl)) (fun _ _ _ h=>h) (Or.inr ⟨by rfl,rfl⟩) ?_ ?_
              rotate_left
              ·simp only [Act.put,s1_,s2_,s3_,i64_w,i32_w]
               rfl
              refine pure_ (i:=33) (N:=some 123) (v:=undef) (a':=?_) #[true,true,true,true,true,true,true,true,true,true,true,true,true,true,true,true,true,true,true,true,true,true,true,true,true,true,true,true,true,true,true,true,true,true,false,false] rfl rfl (any_of HT_.out (by kernel_rfl)) (fun _ _ _ h=>h) (Or.inr ⟨by rfl,rfl⟩) ?_ ?_
              rotate_left
              ·simp only [Act.put,s1_,s2_,s3_,i64_w,i32_w]
               rfl
              refine pure_ (i:=34) (N:=some 124) (v:=?_) (a':=?_) #[true,true,true,true,true,true,true,true,true,true,true,true,true,true,true,true,true,true,true,true,true,true,true,true,true,true,true,true,true,true,true,true,true,true,true,false] rfl rfl (any_of HT_.out (by kernel_rfl)) (fun _ _ _ h=>h) (Or.inl ⟨by rfl,?_⟩) ?_ ?_
              rotate_left
              ·intro w'
               go_simp
               with_reducible rfl
              rotate_left
              ·simp only [Act.put,s1_,s2_,s3_,i64_w,i32_w]
               rfl
              refine pure_ (i:=35) (N:=some 2) (v:=?_) (a':=?_) #[true,true,true,true,true,true,true,true,true,true,true,true,true,true,true,true,true,true,true,true,true,true,true,true,true,true,true,true,true,true,true,true,true,true,true,true] rfl rfl (any_of HT_.out (by kernel_rfl)) (fun _ _ _ h=>h) (Or.inl ⟨by rfl,?_⟩) ?_ ?_
              rotate_left
              ·intro w'
               go_simp
               with_reducible rfl
              rotate_left
              ·simp only [Act.put,s1_,s2_,s3_,i64_w,i32_w]
               rfl
              refine done_ (done_of HT_.out (by kernel_rfl)) ?_
              try go_wp2
              go_ret
              exact ⟨by first | rfl | (simp [errW_none,errW_some] <;> rfl) | (simp [*,errW_none,errW_some] <;> rfl),hb_⟩
            ·rw [if_neg c85] at H
             exact absurd H (by simp)
           ·rw [if_neg c84] at H
            exact absurd H (by simp)
          ·replace c83:=Bool.eq_false_iff.mpr c83
           subst c83
           have H1 : (some false) = some r:=by rw [if_neg (show ¬ (false = true) by decide)] at H;exact H
           clear H
           have H:=H1
           clear H1
           obtain rfl:=Option.some.inj H
           try go_wp2
           have n0_:=a0_ (Kd.R_drew HO_4.out)
           have n1_:=a0_ (Kd.R_drew HO_6.out)
           have n2_:=a0_ (Kd.R_drew HO_7.out)
           have n3_:=a0_ (Kd.R_drew Z9.out)
           have n4_:=a0_ (blk_drew BK8.out)
           have n5_:=a0_ (below_drew1 HB.out)
           clear HO_4
           clear HO_6
           clear HO_7
           clear Z9
           clear BK8
           clear HB
           have HO_4:=n0_
           have HO_6:=n1_
           have HO_7:=n2_
           have Z9:=n3_
           have BK8:=n4_
           have HB:=n5_
           clear n0_ n1_ n2_ n3_ n4_ n5_
           obtain ⟨Ao98,co98,eo98⟩:=Kd.R_slice HO_6.out
           (first | subst eo98 | (injection eo98 with f1_ f2_ f3_;have f4_:=f1_.symm;have f5_:=f3_.symm;clear f1_ f2_ f3_;subst f4_;subst f5_))
           obtain ⟨Ao99,co99,eo99⟩:=Kd.R_slice HO_7.out
           (first | subst eo99 | (injection eo99 with f1_ f2_ f3_;have f4_:=f1_.symm;have f5_:=f3_.symm;clear f1_ f2_ f3_;subst f4_;subst f5_))
           refine start_ (n:=36) (S:=fun w'=>w'.cell? ⟨gb8,0,none⟩ = some (.slice Ao9 t1.length co9)) (ds:=[]) #[false,false,false,false,false,false,false,false,false,false,false,false,false,false,false,false,false,false,false,false,false,false,false,false,false,false,false,false,false,false,false,false,false,false,false,false] (by kernel_rfl) rfl rfl ((blk_cell BK8.out 0).trans rfl) (fun hHeld=>?_);refine with_tabW laws_FnSplitGroupShape.tab10 laws_FnSplitGroupShape.bits10 (fun HT_ HW_=>?_)
           generalize wc.drew = w97 at HO_4 HO_6 HO_7 Z9 BK8 HB hHeld ⊢
           refine pure_ (i:=0) (N:=some 90) (v:=?_) (a':=?_) #[true,false,false,false,false,false,false,false,false,false,false,false,false,false,false,false,false,false,false,false,false,false,false,false,false,false,false,false,false,false,false,false,false,false,false,false] rfl rfl (any_of HT_.out (by kernel_rfl)) (fun _ _ _ h=>h) (Or.inl ⟨by rfl,?_⟩) ?_ ?_
           rotate_left
           ·intro w'
            go_simp
            with_reducible rfl
           rotate_left
           ·simp only [Act.put,s1_,s2_,s3_,i64_w,i32_w]
            rfl
           refine pure_ (i:=1) (N:=some 91) (v:=?_) (a':=?_) #[true,true,false,false,false,false,false,false,false,false,false,false,false,false,false,false,false,false,false,false,false,false,false,false,false,false,false,false,false,false,false,false,false,false,false,false] rfl rfl (any_of HT_.out (by kernel_rfl)) (fun _ _ _ h=>h) (Or.inl ⟨by rfl,?_⟩) ?_ ?_
           rotate_left
           ·intro w'
            go_simp
            with_reducible rfl
           rotate_left
           ·simp only [Act.put,s1_,s2_,s3_,i64_w,i32_w]
            rfl
           refine pure_ (i:=2) (N:=some 92) (v:=?_) (a':=?_) #[true,true,true,false,false,false,false,false,false,false,false,false,false,false,false,false,false,false,false,false,false,false,false,false,false,false,false,false,false,false,false,false,false,false,false,false] rfl rfl (any_of HT_.out (by kernel_rfl)) (fun _ _ _ h=>h) (Or.inl ⟨by rfl,?_⟩) ?_ ?_
           rotate_left
           ·intro w'
            go_simp
            with_reducible rfl
           rotate_left
           ·simp only [Act.put,s1_,s2_,s3_,i64_w,i32_w]
            rfl
           refine pure_ (i:=3) (N:=some 93) (v:=?_) (a':=?_) #[true,true,true,true,false,false,false,false,false,false,false,false,false,false,false,false,false,false,false,false,false,false,false,false,false,false,false,false,false,false,false,false,false,false,false,false] rfl rfl (any_of HT_.out (by kernel_rfl)) (fun _ _ _ h=>h) (Or.inl ⟨by rfl,?_⟩) ?_ ?_
           rotate_left
           ·intro w'
            go_simp
            with_reducible rfl
           rotate_left
           ·simp only [Act.put,s1_,s2_,s3_,i64_w,i32_w]
            rfl
           refine pure_ (i:=4) (N:=some 94) (v:=?_) (a':=?_) #[true,true,true,true,true,false,false,false,false,false,false,false,false,false,false,false,false,false,false,false,false,false,false,false,false,false,false,false,false,false,false,false,false,false,false,false] rfl rfl (any_of HT_.out (by kernel_rfl)) (fun _ _ _ h=>h) (Or.inl ⟨by rfl,?_⟩) ?_ ?_
           rotate_left
           ·intro w'
            go_simp
            with_reducible rfl
           rotate_left
           ·simp only [Act.put,s1_,s2_,s3_,i64_w,i32_w]
            rfl
           refine pure_ (i:=5) (N:=some 95) (v:=?_) (a':=?_) #[true,true,true,true,true,true,false,false,false,false,false,false,false,false,false,false,false,false,false,false,false,false,false,false,false,false,false,false,false,false,false,false,false,false,false,false] rfl rfl (any_of HT_.out (by kernel_rfl)) (fun _ _ _ h=>h) (Or.inl ⟨by rfl,?_⟩) ?_ ?_
           rotate_left
           ·intro w'
            go_simp
            with_reducible rfl
           rotate_left
           ·simp only [Act.put,s1_,s2_,s3_,i64_w,i32_w]
            rfl
           refine pure_ (i:=6) (N:=some 96) (v:=?_) (a':=?_) #[true,true,true,true,true,true,true,false,false,false,false,false,false,false,false,false,false,false,false,false,false,false,false,false,false,false,false,false,false,false,false,false,false,false,false,false] rfl rfl (any_of HT_.out (by kernel_rfl)) (fun _ _ _ h=>h) (Or.inl ⟨by rfl,?_⟩) ?_ ?_
           rotate_left
           ·intro w'
            go_simp
            with_reducible rfl
           rotate_left
           ·simp only [Act.put,s1_,s2_,s3_,i64_w,i32_w]
            rfl
           refine pure_ (i:=7) (N:=some 97) (v:=?_) (a':=?_) #[true,true,true,true,true,true,true,true,false,false,false,false,false,false,false,false,false,false,false,false,false,false,false,false,false,false,false,false,false,false,false,false,false,false,false,false] rfl rfl (any_of HT_.out (by kernel_rfl)) (fun _ _ _ h=>h) (Or.inl ⟨by rfl,?_⟩) ?_ ?_
           rotate_left
           ·intro w'
            go_simp
            with_reducible rfl
           rotate_left
           ·simp only [Act.put,s1_,s2_,s3_,i64_w,i32_w]
            rfl
           refine pure_ (i:=8) (N:=some 98) (v:=?_) (a':=?_) #[true,true,true,true,true,true,true,true,true,false,false,false,false,false,false,false,false,false,false,false,false,false,false,false,false,false,false,false,false,false,false,false,false,false,false,false] rfl rfl (any_of HT_.out (by kernel_rfl)) (fun _ _ _ h=>h) (Or.inl ⟨by rfl,?_⟩) ?_ ?_
           rotate_left
           ·intro w'
            go_simp
            with_reducible rfl
           rotate_left
           ·simp only [Act.put,s1_,s2_,s3_,i64_w,i32_w]
            rfl
           refine pure_ (i:=9) (N:=some 99) (v:=?_) (a':=?_) #[true,true,true,true,true,true,true,true,true,true,false,false,false,false,false,false,false,false,false,false,false,false,false,false,false,false,false,false,false,false,false,false,false,false,false,false] rfl rfl (any_of HT_.out (by kernel_rfl)) (fun _ _ _ h=>h) (Or.inl ⟨by rfl,?_⟩) ?_ ?_
           rotate_left
           ·intro w'
            go_simp
            with_reducible rfl
           rotate_left
           ·simp only [Act.put,s1_,s2_,s3_,i64_w,i32_w]
            rfl
           refine pure_ (i:=10) (N:=some 100) (v:=?_) (a':=?_) #[true,true,true,true,true,true,true,true,true,true,true,false,false,false,false,false,false,false,false,false,false,false,false,false,false,false,false,false,false,false,false,false,false,false,false,false] rfl rfl (any_of HT_.out (by kernel_rfl)) (fun _ _ _ h=>h) (Or.inl ⟨by rfl,?_⟩) ?_ ?_
           rotate_left
           ·intro w'
            go_simp
            with_reducible rfl
           rotate_left
           ·simp only [Act.put,s1_,s2_,s3_,i64_w,i32_w]
            rfl
           refine pure_ (i:=12) (N:=some 102) (v:=?_) (a':=?_) #[true,true,true,true,true,true,true,true,true,true,true,false,true,false,false,false,false,false,false,false,false,false,false,false,false,false,false,false,false,false,false,false,false,false,false,false] rfl rfl (any_of HT_.out (by kernel_rfl)) (fun _ _ _ h=>h) (Or.inl ⟨by rfl,?_⟩) ?_ ?_
           rotate_left
           ·intro w'
            go_simp
            with_reducible rfl
           rotate_left
           ·simp only [Act.put,s1_,s2_,s3_,i64_w,i32_w]
            rfl
           refine take_ (i:=11) (N:=some 101) (v:=?_) (a':=?_) #[true,true,true,true,true,true,true,true,true,true,true,true,true,false,false,false,false,false,false,false,false,false,false,false,false,false,false,false,false,false,false,false,false,false,false,false] rfl rfl (take_ofW HT_.out HW_.out (by kernel_rfl)) (fun _ _ _ h=>h) (Or.inl ⟨by rfl,?_⟩) hHeld ?_ ?_
           rotate_left
           ·intro w' s0
            go_simp
            with_reducible rfl
           rotate_left
           ·simp only [Act.put,s1_,s2_,s3_,i64_w,i32_w]
            rfl
           refine one_ (i:=13) (N:=some 103) #[true,true,true,true,true,true,true,true,true,true,true,true,true,true,false,false,false,false,false,false,false,false,false,false,false,false,false,false,false,false,false,false,false,false,false,false] rfl rfl (one_of HT_.out (by kernel_rfl)) (by decide) (fun K hK=>?_)
           refine goes_ Try.func15 (by kernel_rfl) rfl #[.agg #[.slice Ao9 t1.length co9],.slice Ao99 t12.length co99] (by rfl) rfl rfl lm_ ?_
           with_reducible refine (impl_ValidGroup.calls kj51 _ _ t1 _ _ t12 false _ ?side1 ?side2 ?side3 ?side4 A82.out).mono ?_
           (case side1=>exact cc_ (Kd.R_reads' Z9.out).2.2)
           (case side2=>exact (Kd.R_reads' Z9.out).2.1)
           (case side3=>exact cc_ (Kd.R_reads' HO_7.out).2.2)
           (case side4=>exact (Kd.R_reads' HO_7.out).2.1)
           rintro e w100 ⟨rfl,hb⟩
           refine ⟨_,rfl,?_⟩
           have n0_:=rb_ HO_4 hb
           have n1_:=rb_ HO_6 hb
           have n2_:=rb_ HO_7 hb
           have n3_:=rb_ Z9 hb
           have n4_:=kb_ BK8 hb
           have n5_:=a0_ (below_step hb_ hb)
           clear HO_4
           clear HO_6
           clear HO_7
           clear Z9
           clear BK8
           clear HB
           have HO_4:=n0_
           have HO_6:=n1_
           have HO_7:=n2_
           have Z9:=n3_
           have BK8:=n4_
           have HB:=n5_
           clear n0_ n1_ n2_ n3_ n4_ n5_
           (try clear hb)
           (try clear hb2)
           (try clear hk)
           (try clear hi)
           refine hK.out _ _ ((blk_cell BK8.out 0).trans rfl) (fun hHeld=>?_)
           clear hK K
           refine norm_ (a':=?_) ?_ ?_
           rotate_left
           ·show Act.put _ (some 103) _ = _
            simp only [Act.put,s1_,s2_,s3_,i64_w,i32_w]
            rfl
           refine pure_ (i:=14) (N:=some 104) (v:=?_) (a':=?_) #[true,true,true,true,true,true,true,true,true,true,true,true,true,true,true,false,false,false,false,false,false,false,false,false,false,false,false,false,false,false,false,false,false,false,false,false] rfl rfl (any_of HT_.out (by kernel_rfl)) (fun _ _ _ h=>h) (Or.inl ⟨by rfl,?_⟩) ?_ ?_
           rotate_left
           ·intro w'
            go_simp
            with_reducible rfl
           rotate_left
           ·simp only [Act.put,s1_,s2_,s3_,i64_w,i32_w]
            rfl
           refine pure_ (i:=15) (N:=some 105) (v:=undef) (a':=?_) #[true,true,true,true,true,true,true,true,true,true,true,true,true,true,true,true,false,false,false,false,false,false,false,false,false,false,false,false,false,false,false,false,false,false,false,false] rfl rfl (any_of HT_.out (by kernel_rfl)) (fun _ _ _ h=>h) (Or.inr ⟨by rfl,rfl⟩) ?_ ?_
           rotate_left
           ·simp only [Act.put,s1_,s2_,s3_,i64_w,i32_w]
            rfl
           refine pure_ (i:=16) (N:=some 106) (v:=undef) (a':=?_) #[true,true,true,true,true,true,true,true,true,true,true,true,true,true,true,true,true,false,false,false,false,false,false,false,false,false,false,false,false,false,false,false,false,false,false,false] rfl rfl (any_of HT_.out (by kernel_rfl)) (fun _ _ _ h=>h) (Or.inr ⟨by rfl,rfl⟩) ?_ ?_
           rotate_left
           ·simp only [Act.put,s1_,s2_,s3_,i64_w,i32_w]
            rfl
           refine pure_ (i:=17) (N:=some 107) (v:=undef) (a':=?_) #[true,true,true,true,true,true,true,true,true,true,true,true,true,true,true,true,true,true,false,false,false,false,false,false,false,false,false,false,false,false,false,false,false,false,false,false] rfl rfl (any_of HT_.out (by kernel_rfl)) (fun _ _ _ h=>h) (Or.inr ⟨by rfl,rfl⟩) ?_ ?_
           rotate_left
           ·simp only [Act.put,s1_,s2_,s3_,i64_w,i32_w]
            rfl
           refine pure_ (i:=18) (N:=some 108) (v:=undef) (a':=?_) #[true,true,true,true,true,true,true,true,true,true,true,true,true,true,true,true,true,true,true,false,false,false,false,false,false,false,false,false,false,false,false,false,false,false,false,false] rfl rfl (any_of HT_.out (by kernel_rfl)) (fun _ _ _ h=>h) (Or.inr ⟨by rfl,rfl⟩) ?_ ?_
           rotate_left
           ·simp only [Act.put,s1_,s2_,s3_,i64_w,i32_w]
            rfl
           refine pure_ (i:=19) (N:=some 109) (v:=undef) (a':=?_) #[true,true,true,true,true,true,true,true,true,true,true,true,true,true,true,true,true,true,true,true,false,false,false,false,false,false,false,false,false,false,false,false,false,false,false,false] rfl rfl (any_of HT_.out (by kernel_rfl)) (fun _ _ _ h=>h) (Or.inr ⟨by rfl,rfl⟩) ?_ ?_
           rotate_left
           ·simp only [Act.put,s1_,s2_,s3_,i64_w,i32_w]
            rfl
           refine pure_ (i:=20) (N:=some 110) (v:=undef) (a':=?_) #[true,true,true,true,true,true,true,true,true,true,true,true,true,true,true,true,true,true,true,true,true,false,false,false,false,false,false,false,false,false,false,false,false,false,false,false] rfl rfl (any_of HT_.out (by kernel_rfl)) (fun _ _ _ h=>h) (Or.inr ⟨by rfl,rfl⟩) ?_ ?_
           rotate_left
           ·simp only [Act.put,s1_,s2_,s3_,i64_w,i32_w]
            rfl
           refine pure_ (i:=21) (N:=some 111) (v:=undef) (a':=?_) #[true,true,true,true,true,true,true,true,true,true,true,true,true,true,true,true,true,true,true,true,true,true,false,false,false,false,false,false,false,false,false,false,false,false,false,false] rfl rfl (any_of HT_.out (by kernel_rfl)) (fun _ _ _ h=>h) (Or.inr ⟨by rfl,rfl⟩) ?_ ?_
           rotate_left
           ·simp only [Act.put,s1_,s2_,s3_,i64_w,i32_w]
            rfl
           refine pure_ (i:=22) (N:=some 112) (v:=?_) (a':=?_) #[true,true,true,true,true,true,true,true,true,true,true,true,true,true,true,true,true,true,true,true,true,true,true,false,false,false,false,false,false,false,false,false,false,false,false,false] rfl rfl (any_of HT_.out (by kernel_rfl)) (fun _ _ _ h=>h) (Or.inl ⟨by rfl,?_⟩) ?_ ?_
           rotate_left
           ·intro w'
            go_simp
            with_reducible rfl
           rotate_left
           ·simp only [Act.put,s1_,s2_,s3_,i64_w,i32_w]
            rfl
           refine pure_ (i:=23) (N:=some 113) (v:=?_) (a':=?_) #[true,true,true,true,true,true,true,true,true,true,true,true,true,true,true,true,true,true,true,true,true,true,true,true,false,false,false,false,false,false,false,false,false,false,false,false] rfl rfl (any_of HT_.out (by kernel_rfl)) (fun _ _ _ h=>h) (Or.inl ⟨by rfl,?_⟩) ?_ ?_
           rotate_left
           ·intro w'
            go_simp
            with_reducible rfl
           rotate_left
           ·simp only [Act.put,s1_,s2_,s3_,i64_w,i32_w]
            rfl
           refine pure_ (i:=24) (N:=some 114) (v:=?_) (a':=?_) #[true,true,true,true,true,true,true,true,true,true,true,true,true,true,true,true,true,true,true,true,true,true,true,true,true,false,false,false,false,false,false,false,false,false,false,false] rfl rfl (any_of HT_.out (by kernel_rfl)) (fun _ _ _ h=>h) (Or.inl ⟨by rfl,?_⟩) ?_ ?_
           rotate_left
           ·intro w'
            go_simp
            with_reducible rfl
           rotate_left
           ·simp only [Act.put,s1_,s2_,s3_,i64_w,i32_w]
            rfl
           refine pure_ (i:=25) (N:=some 115) (v:=?_) (a':=?_) #[true,true,true,true,true,true,true,true,true,true,true,true,true,true,true,true,true,true,true,true,true,true,true,true,true,true,false,false,false,false,false,false,false,false,false,false] rfl rfl (any_of HT_.out (by kernel_rfl)) (fun _ _ _ h=>h) (Or.inl ⟨by rfl,?_⟩) ?_ ?_
           rotate_left
           ·intro w'
            go_simp
            with_reducible rfl
           rotate_left
           ·simp only [Act.put,s1_,s2_,s3_,i64_w,i32_w]
            rfl
           refine pure_ (i:=26) (N:=some 116) (v:=undef) (a':=?_) #[true,true,true,true,true,true,true,true,true,true,true,true,true,true,true,true,true,true,true,true,true,true,true,true,true,true,true,false,false,false,false,false,false,false,false,false] rfl rfl (any_of HT_.out (by kernel_rfl)) (fun _ _ _ h=>h) (Or.inr ⟨by rfl,rfl⟩) ?_ ?_
           rotate_left
           ·simp only [Act.put,s1_,s2_,s3_,i64_w,i32_w]
            rfl
           refine pure_ (i:=27) (N:=some 117) (v:=undef) (a':=?_) #[true,true,true,true,true,true,true,true,true,true,true,true,true,true,true,true,true,true,true,true,true,true,true,true,true,true,true,true,false,false,false,false,false,false,false,false] rfl rfl (any_of HT_.out (by kernel_rfl)) (fun _ _ _ h=>h) (Or.inr ⟨by rfl,rfl⟩) ?_ ?_
           rotate_left
           ·simp only [Act.put,s1_,s2_,s3_,i64_w,i32_w]
            rfl
           refine pure_ (i:=28) (N:=some 118) (v:=undef) (a':=?_) #[true,true,true,true,true,true,true,true,true,true,true,true,true,true,true,true,true,true,true,true,true,true,true,true,true,true,true,true,true,false,false,false,false,false,false,false] rfl rfl (any_of HT_.out (by kernel_rfl)) (fun _ _ _ h=>h) (Or.inr ⟨by rfl,rfl⟩) ?_ ?_
           rotate_left
           ·simp only [Act.put,s1_,s2_,s3_,i64_w,i32_w]
            rfl
           refine pure_ (i:=29) (N:=some 119) (v:=undef) (a':=?_) #[true,true,true,true,true,true,true,true,true,true,true,true,true,true,true,true,true,true,true,true,true,true,true,true,true,true,true,true,true,true,false,false,false,false,false,false] rfl rfl (any_of HT_.out (by kernel_rfl)) (fun _ _ _ h=>h) (Or.inr ⟨by rfl,rfl⟩) ?_ ?_
           rotate_left
           ·simp only [Act.put,s1_,s2_,s3_,i64_w,i32_w]
            rfl
           refine pure_ (i:=30) (N:=some 120) (v:=undef) (a':=?_) #[true,true,true,true,true,true,true,true,true,true,true,true,true,true,true,true,true,true,true,true,true,true,true,true,true,true,true,true,true,true,true,false,false,false,false,false] rfl rfl (any_of HT_.out (by kernel_rfl)) (fun _ _ _ h=>h) (Or.inr ⟨by rfl,rfl⟩) ?_ ?_
           rotate_left
           ·simp only [Act.put,s1_,s2_,s3_,i64_w,i32_w]
            rfl
           refine pure_ (i:=31) (N:=some 121) (v:=undef) (a':=?_) #[true,true,true,true,true,true,true,true,true,true,true,true,true,true,true,true,true,true,true,true,true,true,true,true,true,true,true,true,true,true,true,true,false,false,false,false] rfl rfl (any_of HT_.out (by kernel_rfl)) (fun _ _ _ h=>h) (Or.inr ⟨by rfl,rfl⟩) ?_ ?_
           rotate_left
           ·simp only [Act.put,s1_,s2_,s3_,i64_w,i32_w]
            rfl
           refine pure_ (i:=32) (N:=some 122) (v:=undef) (a':=?_) #[true,true,true,true,true,true,true,true,true,true,true,true,true,true,true,true,true,true,true,true,true,true,true,true,true,true,true,true,true,true,true,true,true,false,false,false] rfl rfl (any_of HT_.out (by kernel_rfl)) (fun _ _ _ h=>h) (Or.inr ⟨by rfl,rfl⟩) ?_ ?_
           rotate_left
           ·simp only [Act.put,s1_,s2_,s3_,i64_w,i32_w]
            rfl
           refine pure_ (i:=33) (N:=some 123) (v:=undef) (a':=?_) #[true,true,true,true,true,true,true,true,true,true,true,true,true,true,true,true,true,true,true,true,true,true,true,true,true,true,true,true,true,true,true,true,true,true,false,false] rfl rfl (any_of HT_.out (by kernel_rfl)) (fun _ _ _ h=>h) (Or.inr ⟨by rfl,rfl⟩) ?_ ?_
           rotate_left
           ·simp only [Act.put,s1_,s2_,s3_,i64_w,i32_w]
            rfl
           refine pure_ (i:=34) (N:=some 124) (v:=?_) (a':=?_) #[true,true,true,true,true,true,true,true,true,true,true,true,true,true,true,true,true,true,true,true,true,true,true,true,true,true,true,true,true,true,true,true,true,true,true,false] rfl rfl (any_of HT_.out (by kernel_rfl)) (fun _ _ _ h=>h) (Or.inl ⟨by rfl,?_⟩) ?_ ?_
           rotate_left
           ·intro w'
            go_simp
            with_reducible rfl
           rotate_left
           ·simp only [Act.put,s1_,s2_,s3_,i64_w,i32_w]
            rfl
           refine pure_ (i:=35) (N:=some 2) (v:=?_) (a':=?_) #[true,true,true,true,true,true,true,true,true,true,true,true,true,true,true,true,true,true,true,true,true,true,true,true,true,true,true,true,true,true,true,true,true,true,true,true] rfl rfl (any_of HT_.out (by kernel_rfl)) (fun _ _ _ h=>h) (Or.inl ⟨by rfl,?_⟩) ?_ ?_
           rotate_left
           ·intro w'
            go_simp
            with_reducible rfl
           rotate_left
           ·simp only [Act.put,s1_,s2_,s3_,i64_w,i32_w]
            rfl
           refine done_ (done_of HT_.out (by kernel_rfl)) ?_
           try go_wp2
           go_ret
           exact ⟨by first | rfl | (simp [errW_none,errW_some] <;> rfl) | (simp [*,errW_none,errW_some] <;> rfl),hb_⟩
        ·rw [if_neg c75] at H
         have c75b0 : decide (0 < (wrap64 ((t9.length : Int) + (t12.length : Int)))) = false:=decide_eq_false c75
         clear c75
         obtain rfl:=Option.some.inj H
         try go_wp2
         have n0_:=a0_ (Kd.R_drew HO_4.out)
         have n1_:=a0_ (Kd.R_drew HO_6.out)
         have n2_:=a0_ (Kd.R_drew HO_7.out)
         have n3_:=a0_ (Kd.R_drew Z9.out)
         have n4_:=a0_ (blk_drew BK8.out)
         have n5_:=a0_ (below_drew1 HB.out)
         clear HO_4
         clear HO_6
         clear HO_7
         clear Z9
         clear BK8
         clear HB
         have HO_4:=n0_
         have HO_6:=n1_
         have HO_7:=n2_
         have Z9:=n3_
         have BK8:=n4_
         have HB:=n5_
         clear n0_ n1_ n2_ n3_ n4_ n5_
         obtain ⟨Ao102,co102,eo102⟩:=Kd.R_slice HO_6.out
         (first | subst eo102 | (injection eo102 with f1_ f2_ f3_;have f4_:=f1_.symm;have f5_:=f3_.symm;clear f1_ f2_ f3_;subst f4_;subst f5_))
         obtain ⟨Ao103,co103,eo103⟩:=Kd.R_slice HO_7.out
         (first | subst eo103 | (injection eo103 with f1_ f2_ f3_;have f4_:=f1_.symm;have f5_:=f3_.symm;clear f1_ f2_ f3_;subst f4_;subst f5_))
         refine start_ (n:=36) (S:=fun w'=>True) (ds:=[]) #[false,false,false,false,false,false,false,false,false,false,false,false,false,false,false,false,false,false,false,false,false,false,false,false,false,false,false,false,false,false,false,false,false,false,false,false] (by kernel_rfl) rfl rfl trivial (fun hHeld=>?_);refine with_tabW laws_FnSplitGroupShape.tab10 laws_FnSplitGroupShape.bits10 (fun HT_ HW_=>?_)
         generalize wc.drew = w101 at HO_4 HO_6 HO_7 Z9 BK8 HB hHeld ⊢
         refine pure_ (i:=0) (N:=some 90) (v:=?_) (a':=?_) #[true,false,false,false,false,false,false,false,false,false,false,false,false,false,false,false,false,false,false,false,false,false,false,false,false,false,false,false,false,false,false,false,false,false,false,false] rfl rfl (any_of HT_.out (by kernel_rfl)) (fun _ _ _ h=>h) (Or.inl ⟨by rfl,?_⟩) ?_ ?_
         rotate_left
         ·intro w'
          go_simp
          with_reducible rfl
         rotate_left
         ·simp only [Act.put,s1_,s2_,s3_,i64_w,i32_w]
          rfl
         refine pure_ (i:=1) (N:=some 91) (v:=?_) (a':=?_) #[true,true,false,false,false,false,false,false,false,false,false,false,false,false,false,false,false,false,false,false,false,false,false,false,false,false,false,false,false,false,false,false,false,false,false,false] rfl rfl (any_of HT_.out (by kernel_rfl)) (fun _ _ _ h=>h) (Or.inl ⟨by rfl,?_⟩) ?_ ?_
         rotate_left
         ·intro w'
          go_simp
          with_reducible rfl
         rotate_left
         ·simp only [Act.put,s1_,s2_,s3_,i64_w,i32_w]
          rfl
         refine pure_ (i:=2) (N:=some 92) (v:=?_) (a':=?_) #[true,true,true,false,false,false,false,false,false,false,false,false,false,false,false,false,false,false,false,false,false,false,false,false,false,false,false,false,false,false,false,false,false,false,false,false] rfl rfl (any_of HT_.out (by kernel_rfl)) (fun _ _ _ h=>h) (Or.inl ⟨by rfl,?_⟩) ?_ ?_
         rotate_left
         ·intro w'
          go_simp
          with_reducible rfl
         rotate_left
         ·simp only [Act.put,s1_,s2_,s3_,i64_w,i32_w]
          rfl
         refine pure_ (i:=3) (N:=some 93) (v:=?_) (a':=?_) #[true,true,true,true,false,false,false,false,false,false,false,false,false,false,false,false,false,false,false,false,false,false,false,false,false,false,false,false,false,false,false,false,false,false,false,false] rfl rfl (any_of HT_.out (by kernel_rfl)) (fun _ _ _ h=>h) (Or.inl ⟨by rfl,?_⟩) ?_ ?_
         rotate_left
         ·intro w'
          go_simp
          with_reducible rfl
         rotate_left
         ·simp only [Act.put,s1_,s2_,s3_,i64_w,i32_w]
          rfl
         refine pure_ (i:=4) (N:=some 94) (v:=?_) (a':=?_) #[true,true,true,true,true,false,false,false,false,false,false,false,false,false,false,false,false,false,false,false,false,false,false,false,false,false,false,false,false,false,false,false,false,false,false,false] rfl rfl (any_of HT_.out (by kernel_rfl)) (fun _ _ _ h=>h) (Or.inl ⟨by rfl,?_⟩) ?_ ?_
         rotate_left
         ·intro w'
          go_simp
          with_reducible rfl
         rotate_left
         ·simp only [Act.put,s1_,s2_,s3_,i64_w,i32_w]
          rfl
         refine pure_ (i:=5) (N:=some 95) (v:=?_) (a':=?_) #[true,true,true,true,true,true,false,false,false,false,false,false,false,false,false,false,false,false,false,false,false,false,false,false,false,false,false,false,false,false,false,false,false,false,false,false] rfl rfl (any_of HT_.out (by kernel_rfl)) (fun _ _ _ h=>h) (Or.inl ⟨by rfl,?_⟩) ?_ ?_
         rotate_left
         ·intro w'
          go_simp
          with_reducible rfl
         rotate_left
         ·simp only [Act.put,s1_,s2_,s3_,i64_w,i32_w]
          rfl
         refine pure_ (i:=6) (N:=some 96) (v:=?_) (a':=?_) #[true,true,true,true,true,true,true,false,false,false,false,false,false,false,false,false,false,false,false,false,false,false,false,false,false,false,false,false,false,false,false,false,false,false,false,false] rfl rfl (any_of HT_.out (by kernel_rfl)) (fun _ _ _ h=>h) (Or.inl ⟨by rfl,?_⟩) ?_ ?_
         rotate_left
         ·intro w'
          go_simp
          with_reducible rfl
         rotate_left
         ·simp only [Act.put,s1_,s2_,s3_,i64_w,i32_w]
          rfl
         refine pure_ (i:=7) (N:=some 97) (v:=undef) (a':=?_) #[true,true,true,true,true,true,true,true,false,false,false,false,false,false,false,false,false,false,false,false,false,false,false,false,false,false,false,false,false,false,false,false,false,false,false,false] rfl rfl (any_of HT_.out (by kernel_rfl)) (fun _ _ _ h=>h) (Or.inr ⟨by rfl,rfl⟩) ?_ ?_
         rotate_left
         ·simp only [Act.put,s1_,s2_,s3_,i64_w,i32_w]
          rfl
         refine pure_ (i:=8) (N:=some 98) (v:=undef) (a':=?_) #[true,true,true,true,true,true,true,true,true,false,false,false,false,false,false,false,false,false,false,false,false,false,false,false,false,false,false,false,false,false,false,false,false,false,false,false] rfl rfl (any_of HT_.out (by kernel_rfl)) (fun _ _ _ h=>h) (Or.inr ⟨by rfl,rfl⟩) ?_ ?_
         rotate_left
         ·simp only [Act.put,s1_,s2_,s3_,i64_w,i32_w]
          rfl
         refine pure_ (i:=9) (N:=some 99) (v:=undef) (a':=?_) #[true,true,true,true,true,true,true,true,true,true,false,false,false,false,false,false,false,false,false,false,false,false,false,false,false,false,false,false,false,false,false,false,false,false,false,false] rfl rfl (any_of HT_.out (by kernel_rfl)) (fun _ _ _ h=>h) (Or.inr ⟨by rfl,rfl⟩) ?_ ?_
         rotate_left
         ·simp only [Act.put,s1_,s2_,s3_,i64_w,i32_w]
          rfl
         refine pure_ (i:=10) (N:=some 100) (v:=undef) (a':=?_) #[true,true,true,true,true,true,true,true,true,true,true,false,false,false,false,false,false,false,false,false,false,false,false,false,false,false,false,false,false,false,false,false,false,false,false,false] rfl rfl (any_of HT_.out (by kernel_rfl)) (fun _ _ _ h=>h) (Or.inr ⟨by rfl,rfl⟩) ?_ ?_
         rotate_left
         ·simp only [Act.put,s1_,s2_,s3_,i64_w,i32_w]
          rfl
         refine pure_ (i:=11) (N:=some 101) (v:=undef) (a':=?_) #[true,true,true,true,true,true,true,true,true,true,true,true,false,false,false,false,false,false,false,false,false,false,false,false,false,false,false,false,false,false,false,false,false,false,false,false] rfl rfl (any_of HT_.out (by kernel_rfl)) (fun _ _ _ h=>h) (Or.inr ⟨by rfl,rfl⟩) ?_ ?_
         rotate_left
         ·simp only [Act.put,s1_,s2_,s3_,i64_w,i32_w]
          rfl
         refine pure_ (i:=12) (N:=some 102) (v:=undef) (a':=?_) #[true,true,true,true,true,true,true,true,true,true,true,true,true,false,false,false,false,false,false,false,false,false,false,false,false,false,false,false,false,false,false,false,false,false,false,false] rfl rfl (any_of HT_.out (by kernel_rfl)) (fun _ _ _ h=>h) (Or.inr ⟨by rfl,rfl⟩) ?_ ?_
         rotate_left
         ·simp only [Act.put,s1_,s2_,s3_,i64_w,i32_w]
          rfl
         refine pure_ (i:=13) (N:=some 103) (v:=undef) (a':=?_) #[true,true,true,true,true,true,true,true,true,true,true,true,true,true,false,false,false,false,false,false,false,false,false,false,false,false,false,false,false,false,false,false,false,false,false,false] rfl rfl (any_of HT_.out (by kernel_rfl)) (fun _ _ _ h=>h) (Or.inr ⟨by rfl,rfl⟩) ?_ ?_
         rotate_left
         ·simp only [Act.put,s1_,s2_,s3_,i64_w,i32_w]
          rfl
         refine pure_ (i:=14) (N:=some 104) (v:=undef) (a':=?_) #[true,true,true,true,true,true,true,true,true,true,true,true,true,true,true,false,false,false,false,false,false,false,false,false,false,false,false,false,false,false,false,false,false,false,false,false] rfl rfl (any_of HT_.out (by kernel_rfl)) (fun _ _ _ h=>h) (Or.inr ⟨by rfl,rfl⟩) ?_ ?_
         rotate_left
         ·simp only [Act.put,s1_,s2_,s3_,i64_w,i32_w]
          rfl
         refine pure_ (i:=15) (N:=some 105) (v:=undef) (a':=?_) #[true,true,true,true,true,true,true,true,true,true,true,true,true,true,true,true,false,false,false,false,false,false,false,false,false,false,false,false,false,false,false,false,false,false,false,false] rfl rfl (any_of HT_.out (by kernel_rfl)) (fun _ _ _ h=>h) (Or.inr ⟨by rfl,rfl⟩) ?_ ?_
         rotate_left
         ·simp only [Act.put,s1_,s2_,s3_,i64_w,i32_w]
          rfl
         refine pure_ (i:=16) (N:=some 106) (v:=undef) (a':=?_) #[true,true,true,true,true,true,true,true,true,true,true,true,true,true,true,true,true,false,false,false,false,false,false,false,false,false,false,false,false,false,false,false,false,false,false,false] rfl rfl (any_of HT_.out (by kernel_rfl)) (fun _ _ _ h=>h) (Or.inr ⟨by rfl,rfl⟩) ?_ ?_
         rotate_left
         ·simp only [Act.put,s1_,s2_,s3_,i64_w,i32_w]
          rfl
         refine pure_ (i:=17) (N:=some 107) (v:=undef) (a':=?_) #[true,true,true,true,true,true,true,true,true,true,true,true,true,true,true,true,true,true,false,false,false,false,false,false,false,false,false,false,false,false,false,false,false,false,false,false] rfl rfl (any_of HT_.out (by kernel_rfl)) (fun _ _ _ h=>h) (Or.inr ⟨by rfl,rfl⟩) ?_ ?_
         rotate_left
         ·simp only [Act.put,s1_,s2_,s3_,i64_w,i32_w]
          rfl
         refine pure_ (i:=18) (N:=some 108) (v:=undef) (a':=?_) #[true,true,true,true,true,true,true,true,true,true,true,true,true,true,true,true,true,true,true,false,false,false,false,false,false,false,false,false,false,false,false,false,false,false,false,false] rfl rfl (any_of HT_.out (by kernel_rfl)) (fun _ _ _ h=>h) (Or.inr ⟨by rfl,rfl⟩) ?_ ?_
         rotate_left
         ·simp only [Act.put,s1_,s2_,s3_,i64_w,i32_w]
          rfl
         refine pure_ (i:=19) (N:=some 109) (v:=undef) (a':=?_) #[true,true,true,true,true,true,true,true,true,true,true,true,true,true,true,true,true,true,true,true,false,false,false,false,false,false,false,false,false,false,false,false,false,false,false,false] rfl rfl (any_of HT_.out (by kernel_rfl)) (fun _ _ _ h=>h) (Or.inr ⟨by rfl,rfl⟩) ?_ ?_
         rotate_left
         ·simp only [Act.put,s1_,s2_,s3_,i64_w,i32_w]
          rfl
         refine pure_ (i:=20) (N:=some 110) (v:=undef) (a':=?_) #[true,true,true,true,true,true,true,true,true,true,true,true,true,true,true,true,true,true,true,true,true,false,false,false,false,false,false,false,false,false,false,false,false,false,false,false] rfl rfl (any_of HT_.out (by kernel_rfl)) (fun _ _ _ h=>h) (Or.inr ⟨by rfl,rfl⟩) ?_ ?_
         rotate_left
         ·simp only [Act.put,s1_,s2_,s3_,i64_w,i32_w]
          rfl
         refine pure_ (i:=21) (N:=some 111) (v:=undef) (a':=?_) #[true,true,true,true,true,true,true,true,true,true,true,true,true,true,true,true,true,true,true,true,true,true,false,false,false,false,false,false,false,false,false,false,false,false,false,false] rfl rfl (any_of HT_.out (by kernel_rfl)) (fun _ _ _ h=>h) (Or.inr ⟨by rfl,rfl⟩) ?_ ?_
         rotate_left
         ·simp only [Act.put,s1_,s2_,s3_,i64_w,i32_w]
          rfl
         refine pure_ (i:=22) (N:=some 112) (v:=undef) (a':=?_) #[true,true,true,true,true,true,true,true,true,true,true,true,true,true,true,true,true,true,true,true,true,true,true,false,false,false,false,false,false,false,false,false,false,false,false,false] rfl rfl (any_of HT_.out (by kernel_rfl)) (fun _ _ _ h=>h) (Or.inr ⟨by rfl,rfl⟩) ?_ ?_
         rotate_left
         ·simp only [Act.put,s1_,s2_,s3_,i64_w,i32_w]
          rfl
         refine pure_ (i:=23) (N:=some 113) (v:=undef) (a':=?_) #[true,true,true,true,true,true,true,true,true,true,true,true,true,true,true,true,true,true,true,true,true,true,true,true,false,false,false,false,false,false,false,false,false,false,false,false] rfl rfl (any_of HT_.out (by kernel_rfl)) (fun _ _ _ h=>h) (Or.inr ⟨by rfl,rfl⟩) ?_ ?_
         rotate_left
         ·simp only [Act.put,s1_,s2_,s3_,i64_w,i32_w]
          rfl
         refine pure_ (i:=24) (N:=some 114) (v:=?_) (a':=?_) #[true,true,true,true,true,true,true,true,true,true,true,true,true,true,true,true,true,true,true,true,true,true,true,true,true,false,false,false,false,false,false,false,false,false,false,false] rfl rfl (any_of HT_.out (by kernel_rfl)) (fun _ _ _ h=>h) (Or.inl ⟨by rfl,?_⟩) ?_ ?_
         rotate_left
         ·intro w'
          go_simp
          with_reducible rfl
         rotate_left
         ·simp only [Act.put,s1_,s2_,s3_,i64_w,i32_w]
          rfl
         refine pure_ (i:=25) (N:=some 115) (v:=?_) (a':=?_) #[true,true,true,true,true,true,true,true,true,true,true,true,true,true,true,true,true,true,true,true,true,true,true,true,true,true,false,false,false,false,false,false,false,false,false,false] rfl rfl (any_of HT_.out (by kernel_rfl)) (fun _ _ _ h=>h) (Or.inl ⟨by rfl,?_⟩) ?_ ?_
         rotate_left
         ·intro w'
          go_simp
          with_reducible rfl
         rotate_left
         ·simp only [Act.put,s1_,s2_,s3_,i64_w,i32_w]
          rfl
         refine pure_ (i:=26) (N:=some 116) (v:=undef) (a':=?_) #[true,true,true,true,true,true,true,true,true,true,true,true,true,true,true,true,true,true,true,true,true,true,true,true,true,true,true,false,false,false,false,false,false,false,false,false] rfl rfl (any_of HT_.out (by kernel_rfl)) (fun _ _ _ h=>h) (Or.inr ⟨by rfl,rfl⟩) ?_ ?_
         rotate_left
         ·simp only [Act.put,s1_,s2_,s3_,i64_w,i32_w]
          rfl
         refine pure_ (i:=27) (N:=some 117) (v:=undef) (a':=?_) #[true,true,true,true,true,true,true,true,true,true,true,true,true,true,true,true,true,true,true,true,true,true,true,true,true,true,true,true,false,false,false,false,false,false,false,false] rfl rfl (any_of HT_.out (by kernel_rfl)) (fun _ _ _ h=>h) (Or.inr ⟨by rfl,rfl⟩) ?_ ?_
         rotate_left
         ·simp only [Act.put,s1_,s2_,s3_,i64_w,i32_w]
          rfl
         refine pure_ (i:=28) (N:=some 118) (v:=undef) (a':=?_) #[true,true,true,true,true,true,true,true,true,true,true,true,true,true,true,true,true,true,true,true,true,true,true,true,true,true,true,true,true,false,false,false,false,false,false,false] rfl rfl (any_of HT_.out (by kernel_rfl)) (fun _ _ _ h=>h) (Or.inr ⟨by rfl,rfl⟩) ?_ ?_
         rotate_left
         ·simp only [Act.put,s1_,s2_,s3_,i64_w,i32_w]
          rfl
         refine pure_ (i:=29) (N:=some 119) (v:=undef) (a':=?_) #[true,true,true,true,true,true,true,true,true,true,true,true,true,true,true,true,true,true,true,true,true,true,true,true,true,true,true,true,true,true,false,false,false,false,false,false] rfl rfl (any_of HT_.out (by kernel_rfl)) (fun _ _ _ h=>h) (Or.inr ⟨by rfl,rfl⟩) ?_ ?_
         rotate_left
         ·simp only [Act.put,s1_,s2_,s3_,i64_w,i32_w]
          rfl
         refine pure_ (i:=30) (N:=some 120) (v:=undef) (a':=?_) #[true,true,true,true,true,true,true,true,true,true,true,true,true,true,true,true,true,true,true,true,true,true,true,true,true,true,true,true,true,true,true,false,false,false,false,false] rfl rfl (any_of HT_.out (by kernel_rfl)) (fun _ _ _ h=>h) (Or.inr ⟨by rfl,rfl⟩) ?_ ?_
         rotate_left
         ·simp only [Act.put,s1_,s2_,s3_,i64_w,i32_w]
          rfl
         refine pure_ (i:=31) (N:=some 121) (v:=undef) (a':=?_) #[true,true,true,true,true,true,true,true,true,true,true,true,true,true,true,true,true,true,true,true,true,true,true,true,true,true,true,true,true,true,true,true,false,false,false,false] rfl rfl (any_of HT_.out (by kernel_rfl)) (fun _ _ _ h=>h) (Or.inr ⟨by rfl,rfl⟩) ?_ ?_
         rotate_left
         ·simp only [Act.put,s1_,s2_,s3_,i64_w,i32_w]
          rfl
         refine pure_ (i:=32) (N:=some 122) (v:=undef) (a':=?_) #[true,true,true,true,true,true,true,true,true,true,true,true,true,true,true,true,true,true,true,true,true,true,true,true,true,true,true,true,true,true,true,true,true,false,false,false] rfl rfl (any_of HT_.out (by kernel_rfl)) (fun _ _ _ h=>h) (Or.inr ⟨by rfl,rfl⟩) ?_ ?_
         rotate_left
         ·simp only [Act.put,s1_,s2_,s3_,i64_w,i32_w]
          rfl
         refine pure_ (i:=33) (N:=some 123) (v:=undef) (a':=?_) #[true,true,true,true,true,true,true,true,true,true,true,true,true,true,true,true,true,true,true,true,true,true,true,true,true,true,true,true,true,true,true,true,true,true,false,false] rfl rfl (any_of HT_.out (by kernel_rfl)) (fun _ _ _ h=>h) (Or.inr ⟨by rfl,rfl⟩) ?_ ?_
         rotate_left
         ·simp only [Act.put,s1_,s2_,s3_,i64_w,i32_w]
          rfl
         refine pure_ (i:=34) (N:=some 124) (v:=?_) (a':=?_) #[true,true,true,true,true,true,true,true,true,true,true,true,true,true,true,true,true,true,true,true,true,true,true,true,true,true,true,true,true,true,true,true,true,true,true,false] rfl rfl (any_of HT_.out (by kernel_rfl)) (fun _ _ _ h=>h) (Or.inl ⟨by rfl,?_⟩) ?_ ?_
         rotate_left
         ·intro w'
          go_simp
          with_reducible rfl
         rotate_left
         ·simp only [Act.put,s1_,s2_,s3_,i64_w,i32_w]
          rfl
         refine pure_ (i:=35) (N:=some 2) (v:=?_) (a':=?_) #[true,true,true,true,true,true,true,true,true,true,true,true,true,true,true,true,true,true,true,true,true,true,true,true,true,true,true,true,true,true,true,true,true,true,true,true] rfl rfl (any_of HT_.out (by kernel_rfl)) (fun _ _ _ h=>h) (Or.inl ⟨by rfl,?_⟩) ?_ ?_
         rotate_left
         ·intro w'
          go_simp
          with_reducible rfl
         rotate_left
         ·simp only [Act.put,s1_,s2_,s3_,i64_w,i32_w]
          rfl
         refine done_ (done_of HT_.out (by kernel_rfl)) ?_
         try go_wp2
         go_ret
         exact ⟨by first | rfl | (simp [errW_none,errW_some] <;> rfl) | (simp [*,errW_none,errW_some] <;> rfl),hb_⟩
def laws_FnSplitGroupShape.Pure : Prop:=∀ (l0 : List Int),l0.length ≤ maxLen → l0.length * 1 ≤ 140737488351232 → (∀ x ∈ l0,(Lit.int .u8 x).wf = true) → ∃ k,laws_FnSplitGroupShape.f k l0 = some true
theorem laws_FnSplitGroupShape.walk (P : laws_FnSplitGroupShape.Pure) (a0 : Option Addr) (len0 cap0 : Nat) (z0 : List Int) (w : World) (w0 : (a0 = none ∧ len0 = 0 ∧ cap0 = 0 ∧ z0 = []) ∨ ∃ x,a0 = some x ∧ len0 ≤ cap0 ∧ cap0 ≤ maxLen ∧ z0.length = cap0 ∧ (∀ i,i < z0.length → w.cell? (x.add i) = some (.int .u8 (z0.getD i 0))) ∧ ∀ n ∈ z0,(Lit.int .u8 n).wf = true) (y0 : len0 * 1 ≤ 140737488351232) :
  Calls Try.prog 5 #[.slice a0 len0 cap0] w fun e w'=>e = .returned (.bool true) ∧ Below w.heap.size w w':=by
 obtain ⟨l0,rfl,hr0,hm0,hw0,hc0⟩:=ReadsInt.ofRowC w0
 obtain ⟨k,h⟩:=P l0 hm0 y0 hw0
 refine (laws_FnSplitGroupShape.calls k _ _ l0 true w (Kd.C_of_reads (d:=(0 : Int)) (h1:=fun _=>rfl) hr0) hc0 h).mono ?_
 rintro e w' ⟨rfl,hd⟩
 exact ⟨rfl,hd⟩
end Go.Proofs.Ytfphcdbnnienhaa.P
namespace Go.Proofs.Ytfphcdbnnienhaa.Pure
open Go.RowKit Go.Proofs.Ytfphcdbnnienhaa.P
open Go.Proofs.YtfphcdbnnienhaaW.PrintWords (rd rdOf wrap_succ wrap_pred wrap_in toL_beq idxP)
set_option linter.unusedVariables false
theorem FnSplitGroupShape : laws_FnSplitGroupShape.Pure:=by
 intro l0 _ _ hw
 refine Ev.out (F:=fun k=>laws_FnSplitGroupShape.f k l0) ?_
 unfold laws_FnSplitGroupShape.f
 by_cases hbig : (l0.length : Int) > 1048576
 ·exact Ev.pos hbig (Ev.const rfl)
 refine Ev.neg hbig ?_
 obtain ⟨t,g,a,hd,ht,hs,hg⟩:=spec_DrawSplitGroup_ev l0 hw
 have hI:=impl_SplitGroup_ev t g a hs (by omega)
 have hS : Ev (fun k=>spec_SplitGroup.f k t g a) (splitP t g a):=spec_SplitGroup_ev t g a hs (by omega) (by omega)
 have hV:=impl_ValidGroup_ev t g (by omega) (by omega) hs
 by_cases hc : (vG t g && hasC t a) = true
 ·have hr : splitP t g a = (selR (fun q=>isA t q.f2 a == true) g,selR (fun q=>isA t q.f2 a == false) g):=by
   unfold splitP
   rw [if_pos hc,selN_selR,selN_selR]
  rw [hr] at hI hS
  rw [Bool.and_eq_true] at hc
  obtain ⟨hv,ha⟩:=hc
  rw [hv] at hV
  have hT:=(vG_tree hv).1
  have hF:=Tre_Fr (vG_tre hv).1
  have l1:=(selR_sub (fun q=>isA t q.f2 a == true) g).length_le
  have l2:=(selR_sub (fun q=>isA t q.f2 a == false) g).length_le
  have hH:=laws_has_ev t a
  rw [ha] at hH
  refine Ev.bind hd (Ev.bind (Ev.const hI) (Ev.bind hS (Ev.bind (laws_equalGroup_ev _ (Nat.le_trans l1 (by omega))) (Ev.pos rfl (Ev.bind (laws_equalGroup_ev _ (Nat.le_trans l2 (by omega))) (Ev.pos rfl (Ev.bind hV (Ev.pos rfl (Ev.bind (Ev.const hH) (Ev.succ ?_))))))))))
  simp only [laws_FnSplitGroupShape.j0]
  refine Ev.neg (by simp) ?_
  have hTre:=(vG_tre hv).1
  have hgl : 1 ≤ g.length:=(vG_tree hv).2.1
  have hhd : ∀ P : Prt → Bool,selR P g ≠ [] → rd_T47 (selR P g) 0 = rd_T47 g 0:=by
   intro P hn
   have:=(selR_Tre P hTre hn).2
   unfold rd_T47
   cases h1 : selR P g with
   | nil=>exact absurd h1 hn
   | cons x r =>
    rw [h1] at this
    cases g with
    | nil=>simp at hgl
    | cons y s =>
     have e : x = y:=by simpa using this
     rw [e]
     rfl
  have hH2:=impl_HasClass_ev t g a hs
  have hhp : hasP t g a = decide (((selR (fun q=>isA t q.f2 a == true) g).length : Int) > 0):=by
   rw [← selN_selR,selN_any]
   unfold hasP lfB
   rw [hv,ha,Bool.true_and,Bool.true_and]
   congr 1
   funext q
   simp
  rw [hhp] at hH2
  have htot : 0 < (selR (fun q=>isA t q.f2 a == true) g).length + (selR (fun q=>isA t q.f2 a == false) g).length:=by
   obtain ⟨q,hq,h1⟩:=vG_leafy hv
   cases hb : isA t q.f2 a with
   | true =>
    have:=selR_some (fun q=>isA t q.f2 a == true) g (List.any_eq_true.2 ⟨q,hq,by unfold lfQ;rw [h1];simp [hb]⟩)
    have:=List.length_pos_iff.2 this
    omega
   | false =>
    have:=selR_some (fun q=>isA t q.f2 a == false) g (List.any_eq_true.2 ⟨q,hq,by unfold lfQ;rw [h1];simp [hb]⟩)
    have:=List.length_pos_iff.2 this
    omega
  have hD0:=impl_GroupDepth_ev t g (by omega) (by omega) hs hv
  have vs : ∀ P : Prt → Bool,selR P g ≠ [] → (selR P g).length ≤ g.length → Ev (fun k=>impl_ValidGroup.f k t (selR P g)) true:=by
   intro P hn hl
   have:=impl_ValidGroup_ev t (selR P g) (by omega) (by omega) hs
   rwa [vG_sel hv P hn] at this
  have v1:=vs (fun q=>isA t q.f2 a == true)
  have v2:=vs (fun q=>isA t q.f2 a == false)
  have d1 : selR (fun q=>isA t q.f2 a == true) g ≠ [] → Ev (fun k=>impl_GroupDepth.f k t (selR (fun q=>isA t q.f2 a == true) g)) (mxd (selR (fun q=>isA t q.f2 a == true) g)):=fun hn=>impl_GroupDepth_ev t _ (by omega) (by omega) hs (vG_sel hv _ hn)
  have d2 : mxd (selR (fun q=>isA t q.f2 a == true) g) ≤ mxd g:=mxd_sub (fun p hp=>(selR_sub _ g).subset hp)
  have h1:=hhd (fun q=>isA t q.f2 a == true)
  have h2:=hhd (fun q=>isA t q.f2 a == false)
  generalize selR (fun q=>isA t q.f2 a == true) g = m at l1 hH2 htot v1 d1 d2 h1
  generalize selR (fun q=>isA t q.f2 a == false) g = n at l2 htot v2 h2
  have ne : ∀ x : List Prt,0 < x.length → x ≠ []:=by
   rintro x hx rfl
   exact absurd hx (by simp)
  have last : Ev (fun k=>laws_FnSplitGroupShape.j1 k g a m n false t) true:=by
   refine Ev.succ ?_
   simp only [laws_FnSplitGroupShape.j1]
   refine Ev.neg (by simp) (Ev.pos (by rw [wrap_in (by omega) (by omega)];omega) ?_)
   by_cases hz : (n.length : Int) = 0
   ·exact Ev.pos hz (Ev.bind hH2 (Ev.const (by simp)))
   ·refine Ev.neg hz (Ev.bind (v2 (ne n (by omega)) l2) (Ev.pos rfl (Ev.pos (by omega) (Ev.pos (by omega) (Ev.pos ?_ (Ev.bind hH2 (Ev.const (by simp))))))))
    rw [h2 (ne n (by omega))]
    simp
  by_cases hz : (m.length : Int) > 0
  ·have hn:=ne m (by omega)
   refine Ev.pos hz (Ev.bind (v1 hn l1) (Ev.pos rfl (Ev.pos (by omega) (Ev.pos (by omega) (Ev.neg ?_ (Ev.bind (d1 hn) (Ev.bind hD0 ?_)))))))
   ·rw [h1 hn]
    simp
   ·rw [decide_eq_false (show ¬ mxd m > mxd g by omega)]
    exact last
  ·exact Ev.neg hz last
 ·have hr : splitP t g a = ([],[]):=by unfold splitP;rw [if_neg hc]
  rw [hr] at hI hS
  have no : Ev (fun k=>laws_FnSplitGroupShape.j0 k g a [] [] [] [] true t) true:=by
   refine Ev.succ ?_
   simp only [laws_FnSplitGroupShape.j0]
   exact Ev.pos trivial (Ev.bind (laws_equalGroup_ev _ (by simp)) (Ev.pos rfl (Ev.bind (laws_equalGroup_ev _ (by simp)) (Ev.const rfl))))
  refine Ev.bind hd (Ev.bind (Ev.const hI) (Ev.bind hS (Ev.bind (laws_equalGroup_ev _ (by simp)) (Ev.pos rfl (Ev.bind (laws_equalGroup_ev _ (by simp)) (Ev.pos rfl (Ev.bind hV ?_)))))))
  cases hv : vG t g with
  | false=>exact Ev.neg (by simp) no
  | true =>
   refine Ev.pos rfl (Ev.bind (Ev.const (laws_has_ev t a)) ?_)
   cases ha : hasC t a with
   | false=>exact no
   | true=>rw [hv,ha] at hc;exact absurd rfl hc
end Go.Proofs.Ytfphcdbnnienhaa.Pure
