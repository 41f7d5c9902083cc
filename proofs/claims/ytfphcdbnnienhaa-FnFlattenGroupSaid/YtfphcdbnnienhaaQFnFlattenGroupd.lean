/- Texts under the proof of FnFlattenGroup: helper words, the functions' contracts and the plain laws. No condition. -/
import Derived.Test.YtfphcdbnnienhaaQFnFlattenGroupa
import Derived.Test.YtfphcdbnnienhaaQFnFlattenGroupb
import Derived.Test.YtfphcdbnnienhaaQFnFlattenGroupc
namespace Go.Proofs.Ytfphcdbnnienhaa.P
open Go.RowKit Go.Proofs.YtfphcdbnnienhaaW.PrintWords Go.Proofs.YtfphcdbnnienhaaW.PrintLast Go.Proofs.YtfphcdbnnienhaaW.PrintMore
attribute [local go_sem] max2_int min2_int max_two min_two max_three min_three max_four min_four
set_option linter.unusedVariables false
set_option linter.unusedSimpArgs false
def laws_FnFlattenGroup.j0 : Nat → List (S47) → List (S47) → Bool → List (S85) → Option (Bool)
 | 0,_,_,_,_=>none
 | k + 1,x4,x5,x28,x8000=>if x28 = true then ((spec_FlattenGroup.f k x8000 x4).bind fun t16=>((laws_equalGroup.f k x5 t16).bind fun t19=>(some t19))) else ((impl_LeavesOf.f k x8000 x5).bind fun t20=>((impl_LeavesOf.f k x8000 x4).bind fun t23=>((laws_equalLeaves.f k t20 t23).bind fun t26=>(if t26 = true then ((impl_GroupDepth.f k x8000 x5).bind fun t27=>(if t27 ≤ 1 then ((impl_FlattenGroup.f k x8000 x5).bind fun t28=>((laws_equalGroup.f k t28 x5).bind fun t31=>(if t31 = true then (some (decide ((x5.length : Int) ≤ (x4.length : Int)))) else (some false)))) else (some false))) else (some false)))))
def laws_FnFlattenGroup.f (k : Nat) (l0 : List Int) : Option (Bool):=if (l0.length : Int) > 1048576 then (some true) else ((spec_DrawFlattenGroup.f k l0).bind fun bt1=>((impl_FlattenGroup.f k bt1.1 bt1.2).bind fun t8=>((spec_FlattenGroup.f k bt1.1 bt1.2).bind fun t11=>((laws_equalGroup.f k t8 t11).bind fun t14=>(if t14 = true then ((impl_ValidGroup.f k bt1.1 bt1.2).bind fun t15=>(laws_FnFlattenGroup.j0 k bt1.2 t8 (!t15) bt1.1)) else (laws_FnFlattenGroup.j0 k bt1.2 t8 true bt1.1))))))
theorem laws_FnFlattenGroup.mono_l : ∀ k,(∀ y0 y1 y2 y3,LeO (laws_FnFlattenGroup.j0 k y0 y1 y2 y3) (laws_FnFlattenGroup.j0 (k + 1) y0 y1 y2 y3))
 | 0=>fun _ _ _ _ r h=>by simp [laws_FnFlattenGroup.j0] at h
 | k + 1=>by
  have ih0:=laws_FnFlattenGroup.mono_l k
  ·intro y0 y1 y2 y3
   unfold laws_FnFlattenGroup.j0
   repeat' first
   | (with_reducible exact ih0 _ _ _ _)
   | (with_reducible exact impl_FlattenGroup.mono _ _ _)
   | (with_reducible exact impl_GroupDepth.mono _ _ _)
   | (with_reducible exact impl_LeavesOf.mono _ _ _)
   | (with_reducible exact impl_ValidGroup.mono _ _ _)
   | (with_reducible exact laws_equalGroup.mono _ _ _)
   | (with_reducible exact laws_equalLeaves.mono _ _ _)
   | (with_reducible exact spec_DrawFlattenGroup.mono _ _)
   | (with_reducible exact spec_FlattenGroup.mono _ _ _)
   | (with_reducible exact LeO.refl _)
   | (with_reducible exact LeO.none _)
   | (with_reducible refine LeO.ite ?_ ?_)
   | (with_reducible refine LeO.bind ?_ (fun _=>?_))
   | exact ih0 _ _ _ _
   | exact impl_FlattenGroup.mono _ _ _
   | exact impl_GroupDepth.mono _ _ _
   | exact impl_LeavesOf.mono _ _ _
   | exact impl_ValidGroup.mono _ _ _
   | exact laws_equalGroup.mono _ _ _
   | exact laws_equalLeaves.mono _ _ _
   | exact spec_DrawFlattenGroup.mono _ _
   | exact spec_FlattenGroup.mono _ _ _
   | exact LeO.none _
   | refine LeO.ite ?_ ?_
   | refine LeO.bind ?_ (fun _=>?_)
theorem laws_FnFlattenGroup.mono : ∀ a0 k,LeO (laws_FnFlattenGroup.f k a0) (laws_FnFlattenGroup.f (k + 1) a0):=by
 intro a0 k
 have ih0:=laws_FnFlattenGroup.mono_l k
 unfold laws_FnFlattenGroup.f
 repeat' first
   | (with_reducible exact ih0 _ _ _ _)
   | (with_reducible exact impl_FlattenGroup.mono _ _ _)
   | (with_reducible exact impl_GroupDepth.mono _ _ _)
   | (with_reducible exact impl_LeavesOf.mono _ _ _)
   | (with_reducible exact impl_ValidGroup.mono _ _ _)
   | (with_reducible exact laws_equalGroup.mono _ _ _)
   | (with_reducible exact laws_equalLeaves.mono _ _ _)
   | (with_reducible exact spec_DrawFlattenGroup.mono _ _)
   | (with_reducible exact spec_FlattenGroup.mono _ _ _)
   | (with_reducible exact LeO.refl _)
   | (with_reducible exact LeO.none _)
   | (with_reducible refine LeO.ite ?_ ?_)
   | (with_reducible refine LeO.bind ?_ (fun _=>?_))
   | exact ih0 _ _ _ _
   | exact impl_FlattenGroup.mono _ _ _
   | exact impl_GroupDepth.mono _ _ _
   | exact impl_LeavesOf.mono _ _ _
   | exact impl_ValidGroup.mono _ _ _
   | exact laws_equalGroup.mono _ _ _
   | exact laws_equalLeaves.mono _ _ _
   | exact spec_DrawFlattenGroup.mono _ _
   | exact spec_FlattenGroup.mono _ _ _
   | exact LeO.none _
   | refine LeO.ite ?_ ?_
   | refine LeO.bind ?_ (fun _=>?_)
def laws_FnFlattenGroup.T7 : Bool × List (List Nat × List Nat):=(true,[([],[]),([],[]),([0,1],[0,1]),([],[]),([],[]),([3,4,2],[3,4]),([2,5,5],[2,5]),([6,6],[6]),([7],[7]),([7],[7]),([8,9,7,7],[7,8,9]),([10,7],[7,10]),([7,11],[7,11]),([12,10],[12]),([13],[13]),([13],[13]),([14,15,13,13],[13,14,15]),([13],[13]),([16,17,16,13],[13,16,17]),([13,18],[13,18]),([19,18],[19]),([20],[20]),([21,20],[20,21]),([20],[20]),([23,20],[20,23]),([22,24,20],[20,22,24]),([20,25],[20,25]),([26,20,0,1,2,3,4,5,6,7,8,9,10,11,12,13,14,15,16,17,18,19,20,21,22,23,24,25,26],[26])])
def laws_FnFlattenGroup.B7 : List Nat:=[0,0,3,0,0,31,63,127,255,255,1023,2047,4095,8191,16383,16383,65535,16383,262143,524287,1048575,2097151,4194303,2097151,10485759,33554431,67108863,134217727]
theorem laws_FnFlattenGroup.tab7 : rtab .any (opsOf Try.f3 7) = laws_FnFlattenGroup.T7:=by kernel_rfl
theorem laws_FnFlattenGroup.bits7 : waitsOk laws_FnFlattenGroup.T7.2 laws_FnFlattenGroup.B7 = true:=by kernel_rfl
set_option maxHeartbeats 8000000 in
set_option maxRecDepth 100000 in
theorem laws_FnFlattenGroup.calls (k : Nat) (A0 : Option Addr) (c0 : Nat) (l0 : List Int) (r : Bool) (w : World) (hr0 : Kd.C (Kd.int .u8) w A0 l0.length l0) (hc0 : l0.length ≤ c0) (h : laws_FnFlattenGroup.f k l0 = some r) :
  Calls Try.prog 3 #[.slice A0 l0.length c0] w fun e w'=>e = .returned (.bool r) ∧ Below w.heap.size w w':=by
 have hu25:=Try.underlying25
 have HR0:=a0_ hr0
 have HC0:=a0_ hc0
 clear hr0 hc0
 have HB:=a0_ (Below.refl w.heap.size w)
 have H : (if (l0.length : Int) > 1048576 then (some true) else ((spec_DrawFlattenGroup.f k l0).bind fun bt1=>((impl_FlattenGroup.f k bt1.1 bt1.2).bind fun t8=>((spec_FlattenGroup.f k bt1.1 bt1.2).bind fun t11=>((laws_equalGroup.f k t8 t11).bind fun t14=>(if t14 = true then ((impl_ValidGroup.f k bt1.1 bt1.2).bind fun t15=>(laws_FnFlattenGroup.j0 k bt1.2 t8 (!t15) bt1.1)) else (laws_FnFlattenGroup.j0 k bt1.2 t8 true bt1.1))))))) = some r:=h
 clear h
 by_cases c2 : (l0.length : Int) > 1048576
 ·rw [if_pos c2] at H
  have c2b0 : decide (1048576 < (l0.length : Int)) = true:=decide_eq_true c2
  have c2b1 : decide (1048576 < l0.length) = true:=decide_eq_true (by omega)
  clear c2
  obtain rfl:=Option.some.inj H
  go_enter Try.func3,Try.ntmps3
  go_wp2
  go_ret
  exact ⟨by first | rfl | (simp [errW_none,errW_some] <;> rfl) | (simp [*,errW_none,errW_some] <;> rfl),hb_⟩
 ·rw [if_neg c2] at H
  have c2b0 : decide (1048576 < (l0.length : Int)) = false:=decide_eq_false c2
  have c2b1 : decide (1048576 < l0.length) = false:=decide_eq_false (by omega)
  clear c2
  replace H:=Option.bind_eq_some_iff.mp H
  obtain ⟨⟨t1,t4⟩,A30,H⟩:=H
  try dsimp only at H
  have A3:=a0_ A30
  clear A30
  replace H:=Option.bind_eq_some_iff.mp H
  obtain ⟨t8,A40,H⟩:=H
  try dsimp only at H
  have A4:=a0_ A40
  clear A40
  have HC5:=a0_ H
  clear H
  go_enter Try.func3,Try.ntmps3
  go_upto_region 5 with (first | ((with_reducible refine gate_callee (f:=11) rfl ?_);refine goesL_ (some 11) rfl rfl Try.func11 (by kernel_rfl) rfl #[.slice A0 l0.length c0] rfl lm_ ?_;(with_reducible refine (spec_DrawFlattenGroup.calls k _ _ l0 t1 t4 _ ?side1 ?side2 A3.out).mono ?_);(case side1=>repeat (first | exact HR0.out | (with_reducible refine Kd.C_alloc ?_ _) | (with_reducible refine Kd.C_drewN ?_ _) | (with_reducible refine Kd.C_drew ?_)));(case side2=>exact HC0.out);rintro e w6 ⟨v2,v5,rfl,ho0,ho1,hb⟩;refine ⟨_,rfl,?_⟩;have HO3:=a0_ (Kd.R_lower ho0 (below_size hb_));have HO6:=a0_ (Kd.R_lower ho1 (below_size hb_));replace HB:=a0_ (below_step hb_ hb);(try clear hb);(try clear ho0);(try clear ho1)) | ((with_reducible refine gate_dst (N:=3) rfl ?_);(try (refine gate_guard (by rfl) ?_;dsimp only));refine box_event ?hg (N:=3) ?hd (cs:=#[.slice none 0 0]) (t:=25) ?hr ?_;(case hd=>rfl);(case hg=>rfl);(case hr=>first | (go_simp;done) | (go_simp;rfl));intro gb7 hg w7 hbox hb;replace HO3:=rb_ HO3 hb;replace HO6:=rb_ HO6 hb;have BK7:=a0_ (hbox);have GW7:=a0_ ((by rw [hg];exact (below_size hb_) : w.heap.size ≤ gb7));have GE7:=a0_ ((by rw [hg];exact (below_size hb_) : w.heap.size ≤ gb7));replace HB:=a0_ (below_step hb_ hb);clear hb hbox hg;obtain ⟨Ao8,co8,eo8⟩:=Kd.R_slice HO3.out;subst eo8;have hcz9_0 : w7.cell? ⟨gb7,0,none⟩ = some (.slice none 0 0):=(blk_cell BK7.out 0).trans rfl;have hfz9_0:=blk_frozen BK7.out 0;obtain ⟨Ao10,co10,eo10⟩:=Kd.R_slice HO6.out;subst eo10) | ((with_reducible refine gate_callee (f:=12) rfl ?_);refine goesL_ (some 16) rfl rfl Try.func12 (by kernel_rfl) rfl #[.agg #[.slice Ao8 t1.length co8],.slice Ao10 t4.length co10] rfl lm_ ?_;(with_reducible refine (impl_FlattenGroup.calls k _ _ t1 _ _ t4 t8 _ ?side1 ?side2 ?side3 ?side4 A4.out).mono ?_);(case side1=>refine (Kd.R_reads' (e:=85) (base:=w.heap.size) (ok:=fun k_=>True) (n:=t1.length) (c:=co8) ?_).2.2;exact (by (with_reducible repeat (first | apply Kd.R_alloc | apply Kd.R_drewN | apply Kd.R_drew));exact (Kd.R_mono (Kd.R_far (p:=⟨gb7,0,none⟩) (Kd.R_types HO3.out BK7.out (by decide)) (fun _ hk=>hk.2) (.slice Ao8 t1.length co8)) (fun _ h_=>h_.1))));(case side2=>exact (Kd.R_reads' HO3.out).2.1);(case side3=>refine (Kd.R_reads' (e:=47) (base:=w.heap.size) (ok:=fun k_=>True) (n:=t4.length) (c:=co10) ?_).2.2;exact (by (with_reducible repeat (first | apply Kd.R_alloc | apply Kd.R_drewN | apply Kd.R_drew));exact (Kd.R_mono (Kd.R_far (p:=⟨gb7,0,none⟩) (Kd.R_types HO6.out BK7.out (by decide)) (fun _ hk=>hk.2) (.slice Ao8 t1.length co8)) (fun _ h_=>h_.1))));(case side4=>exact (Kd.R_reads' HO6.out).2.1);rintro e w11 ⟨v9,rfl,ho0,hb⟩;refine ⟨_,rfl,?_⟩;have n0_:=a0_ (Kd.R_below (by (with_reducible repeat (first | apply Kd.R_alloc | apply Kd.R_drewN | apply Kd.R_drew));exact (Kd.R_mono (Kd.R_far (p:=⟨gb7,0,none⟩) (Kd.R_types HO3.out BK7.out (by decide)) (fun _ hk=>hk.2) (.slice Ao8 t1.length co8)) (fun _ h_=>h_.1))) hb);have n1_:=a0_ (Kd.R_elder' (by (with_reducible repeat (first | apply Kd.R_alloc | apply Kd.R_drewN | apply Kd.R_drew));exact (Kd.R_mono (Kd.R_far (p:=⟨gb7,0,none⟩) (Kd.R_types HO6.out BK7.out (by decide)) (fun _ hk=>hk.2) (.slice Ao8 t1.length co8)) (fun _ h_=>h_.1))) (Kd.R_base ho0) hb);have n2_:=a0_ (Kd.R_lower (Kd.R_new' ho0 (Kd.R_lt (by (with_reducible repeat (first | apply Kd.R_alloc | apply Kd.R_drewN | apply Kd.R_drew));exact (Kd.R_mono (Kd.R_far (p:=⟨gb7,0,none⟩) (Kd.R_types HO6.out BK7.out (by decide)) (fun _ hk=>hk.2) (.slice Ao8 t1.length co8)) (fun _ h_=>h_.1))))) (below_size hb_));have n3_:=a0_ (blk_below (g:=gb7) (o:=.cells #[.slice Ao8 t1.length co8] 25 (0,0)) (by (with_reducible repeat (first | refine blk_drewN ?_ _ | refine blk_drew ?_ | refine blk_alloc ?_ _));refine blk_put (cs:=#[.slice none 0 0]) ?_ 0 _ rfl;(with_reducible repeat (first | refine blk_drewN ?_ _ | refine blk_drew ?_ | refine blk_alloc ?_ _));exact BK7.out) hb);have n4_:=a0_ (below_step hb_ hb);clear HO3 HO6;clear BK7 HB;have HO3:=n0_;have HO6:=n1_;have HO10:=n2_;have BK7:=n3_;have HB:=n4_;clear n0_ n1_ n2_ n3_ n4_;(try clear hb);(try clear ho0)))
  (try simp only [Act.put,s1_,s2_,s3_])
  go_cut [28] (fun v28 wc=>∃ (kq : Nat) (x28_4 : Bool),v28 = .bool x28_4 ∧ Aside0 (laws_FnFlattenGroup.j0 kq t4 t8 x28_4 t1 = some r) ∧ Aside0 (kq ≤ k) ∧ Aside0 (Kd.R k47 47 wc w.heap.size (fun k_=>some k_ ≠ (v9 : Value).ownBlock) (.slice Ao10 t4.length co10) t4) ∧ Aside0 (Kd.R k47 47 wc w.heap.size (fun k_=>some k_ ≠ ((.slice Ao10 t4.length co10) : Value).ownBlock) v9 t8) ∧ Aside0 (Kd.R k85 85 wc w.heap.size (fun _=>True) (.slice Ao8 t1.length co8) t1) ∧ Aside0 (wc.heap[gb7]? = some (.cells #[(.slice Ao8 t1.length co8)] 25 (0,0))) ∧ Aside0 (Below w.heap.size w wc))
  case first =>
   have H:=HC5.out
   clear HC5
   replace H:=Option.bind_eq_some_iff.mp H
   obtain ⟨t11,A120,H⟩:=H
   try dsimp only at H
   have A12:=a0_ A120
   clear A120
   replace H:=Option.bind_eq_some_iff.mp H
   obtain ⟨t14,A130,H⟩:=H
   try dsimp only at H
   have A13:=a0_ A130
   clear A130
   by_cases c14 : t14 = true
   ·subst c14
    have H1 : ((impl_ValidGroup.f k t1 t4).bind fun t15=>(laws_FnFlattenGroup.j0 k t4 t8 (!t15) t1)) = some r:=by rw [if_pos rfl] at H;exact H
    clear H
    have H:=H1
    clear H1
    replace H:=Option.bind_eq_some_iff.mp H
    obtain ⟨t15,A150,H⟩:=H
    replace H : (laws_FnFlattenGroup.j0 k t4 t8 (!t15) t1) = some r:=H
    have A15:=a0_ A150
    clear A150
    have H':=a0_ H
    clear H
    have hcz16_0 : w11.cell? ⟨gb7,0,none⟩ = some (.slice Ao8 t1.length co8):=(blk_cell BK7.out 0).trans rfl
    have hfz16_0:=blk_frozen BK7.out 0
    go_wp2_with (first | ((with_reducible refine gate_callee (f:=14) rfl ?_);refine goesL_ (some 20) rfl rfl Try.func14 (by kernel_rfl) rfl #[.agg #[.slice Ao8 t1.length co8],.slice Ao10 t4.length co10] rfl lm_ ?_;(with_reducible refine (spec_FlattenGroup.calls k _ _ t1 _ _ t4 t11 _ ?side1 ?side2 ?side3 ?side4 A12.out).mono ?_);(case side1=>exact cc_ (Kd.R_reads' HO3.out).2.2);(case side2=>exact (Kd.R_reads' HO3.out).2.1);(case side3=>exact cc_ (Kd.R_reads' HO6.out).2.2);(case side4=>exact (Kd.R_reads' HO6.out).2.1);rintro e w17 ⟨v12,rfl,ho0,hb⟩;refine ⟨_,rfl,?_⟩;have n0_:=rb_ HO3 hb;have n1_:=a0_ (Kd.R_elder' (rr_ HO6.out) (Kd.R_base ho0) hb);have n2_:=a0_ (Kd.R_elder' (rr_ HO10.out) (Kd.R_base ho0) hb);have n3_:=a0_ (Kd.R_lower (Kd.R_new' (Kd.R_new' ho0 (Kd.R_lt (rr_ HO6.out))) (Kd.R_lt (rr_ HO10.out))) (below_size hb_));have n4_:=kb_ BK7 hb;have n5_:=a0_ (below_step hb_ hb);clear HO3 HO6;clear HO10 BK7 HB;have HO3:=n0_;have HO6:=n1_;have HO10:=n2_;have HO13:=n3_;have BK7:=n4_;have HB:=n5_;clear n0_ n1_ n2_ n3_ n4_ n5_;(try clear hb);(try clear ho0);obtain ⟨Ao18,co18,eo18⟩:=Kd.R_slice HO10.out;subst eo18;obtain ⟨Ao19,co19,eo19⟩:=Kd.R_slice HO13.out;subst eo19) | ((with_reducible refine gate_callee (f:=13) rfl ?_);refine goesL_ (some 21) rfl rfl Try.func13 (by kernel_rfl) rfl #[.slice Ao18 t8.length co18,.slice Ao19 t11.length co19] rfl lm_ ?_;(with_reducible refine (laws_equalGroup.calls k _ _ t8 _ _ t11 true _ ?side1 ?side2 ?side3 ?side4 A13.out).mono ?_);(case side1=>exact cc_ (Kd.R_reads' HO10.out).2.2);(case side2=>exact (Kd.R_reads' HO10.out).2.1);(case side3=>exact cc_ (Kd.R_reads' HO13.out).2.2);(case side4=>exact (Kd.R_reads' HO13.out).2.1);rintro e w' ⟨rfl,⟨nd,rfl⟩⟩;refine ⟨_,rfl,?_⟩;have hcz20_0 : w17.cell? ⟨gb7,0,none⟩ = some (.slice Ao8 t1.length co8):=(blk_cell BK7.out 0).trans rfl;have hfz20_0:=blk_frozen BK7.out 0) | (go_at_call 15;(with_reducible refine (impl_ValidGroup.calls k _ _ t1 _ _ t4 t15 _ ?side1 ?side2 ?side3 ?side4 A15.out).mono ?_);(case side1=>exact cc_ (Kd.R_reads' HO3.out).2.2);(case side2=>exact (Kd.R_reads' HO3.out).2.1);(case side3=>exact cc_ (Kd.R_reads' HO6.out).2.2);(case side4=>exact (Kd.R_reads' HO6.out).2.1);rintro e w21 ⟨rfl,hb⟩;replace HO3:=rb_ HO3 hb;replace HO6:=rb_ HO6 hb;replace HO10:=rb_ HO10 hb;replace HO13:=rb_ HO13 hb;replace BK7:=kb_ BK7 hb;replace HB:=a0_ (below_step hb_ hb);(try clear hb);(try clear hb2);(try clear hk);(try clear hi)))
    go_meet
    case rel=>exact ⟨_,(!t15),(by first | rfl | (simp;done) | (simp [*];done)),H',⟨by first | omega | exact Nat.le_refl _⟩,⟨by (with_reducible repeat (first | apply Kd.R_alloc | apply Kd.R_drewN | apply Kd.R_drew));exact Kd.R_mono HO6.out (fun _ hk=>hk.1.2)⟩,⟨by (with_reducible repeat (first | apply Kd.R_alloc | apply Kd.R_drewN | apply Kd.R_drew));exact Kd.R_mono HO10.out (fun _ hk=>hk.1.2)⟩,⟨by (with_reducible repeat (first | apply Kd.R_alloc | apply Kd.R_drewN | apply Kd.R_drew));exact HO3.out⟩,⟨by (with_reducible repeat (first | refine blk_drewN ?_ _ | refine blk_drew ?_ | refine blk_alloc ?_ _));exact BK7.out⟩,⟨hb_⟩⟩
   ·replace c14:=Bool.eq_false_iff.mpr c14
    subst c14
    have H1 : (laws_FnFlattenGroup.j0 k t4 t8 true t1) = some r:=by rw [if_neg (show ¬ (false = true) by decide)] at H;exact H
    clear H
    have H:=H1
    clear H1
    have H':=a0_ H
    clear H
    have hcz22_0 : w11.cell? ⟨gb7,0,none⟩ = some (.slice Ao8 t1.length co8):=(blk_cell BK7.out 0).trans rfl
    have hfz22_0:=blk_frozen BK7.out 0
    go_wp2_with (first | ((with_reducible refine gate_callee (f:=14) rfl ?_);refine goesL_ (some 20) rfl rfl Try.func14 (by kernel_rfl) rfl #[.agg #[.slice Ao8 t1.length co8],.slice Ao10 t4.length co10] rfl lm_ ?_;(with_reducible refine (spec_FlattenGroup.calls k _ _ t1 _ _ t4 t11 _ ?side1 ?side2 ?side3 ?side4 A12.out).mono ?_);(case side1=>exact cc_ (Kd.R_reads' HO3.out).2.2);(case side2=>exact (Kd.R_reads' HO3.out).2.1);(case side3=>exact cc_ (Kd.R_reads' HO6.out).2.2);(case side4=>exact (Kd.R_reads' HO6.out).2.1);rintro e w23 ⟨v12,rfl,ho0,hb⟩;refine ⟨_,rfl,?_⟩;have n0_:=rb_ HO3 hb;have n1_:=a0_ (Kd.R_elder' (rr_ HO6.out) (Kd.R_base ho0) hb);have n2_:=a0_ (Kd.R_elder' (rr_ HO10.out) (Kd.R_base ho0) hb);have n3_:=a0_ (Kd.R_lower (Kd.R_new' (Kd.R_new' ho0 (Kd.R_lt (rr_ HO6.out))) (Kd.R_lt (rr_ HO10.out))) (below_size hb_));have n4_:=kb_ BK7 hb;have n5_:=a0_ (below_step hb_ hb);clear HO3 HO6;clear HO10 BK7 HB;have HO3:=n0_;have HO6:=n1_;have HO10:=n2_;have HO13:=n3_;have BK7:=n4_;have HB:=n5_;clear n0_ n1_ n2_ n3_ n4_ n5_;(try clear hb);(try clear ho0);obtain ⟨Ao24,co24,eo24⟩:=Kd.R_slice HO10.out;subst eo24;obtain ⟨Ao25,co25,eo25⟩:=Kd.R_slice HO13.out;subst eo25) | ((with_reducible refine gate_callee (f:=13) rfl ?_);refine goesL_ (some 21) rfl rfl Try.func13 (by kernel_rfl) rfl #[.slice Ao24 t8.length co24,.slice Ao25 t11.length co25] rfl lm_ ?_;(with_reducible refine (laws_equalGroup.calls k _ _ t8 _ _ t11 false _ ?side1 ?side2 ?side3 ?side4 A13.out).mono ?_);(case side1=>exact cc_ (Kd.R_reads' HO10.out).2.2);(case side2=>exact (Kd.R_reads' HO10.out).2.1);(case side3=>exact cc_ (Kd.R_reads' HO13.out).2.2);(case side4=>exact (Kd.R_reads' HO13.out).2.1);rintro e w' ⟨rfl,⟨nd,rfl⟩⟩;refine ⟨_,rfl,?_⟩))
    go_meet
    case rel=>exact ⟨_,(true),(by first | rfl | (simp;done) | (simp [*];done)),H',⟨by first | omega | exact Nat.le_refl _⟩,⟨by (with_reducible repeat (first | apply Kd.R_alloc | apply Kd.R_drewN | apply Kd.R_drew));exact Kd.R_mono HO6.out (fun _ hk=>hk.1.2)⟩,⟨by (with_reducible repeat (first | apply Kd.R_alloc | apply Kd.R_drewN | apply Kd.R_drew));exact Kd.R_mono HO10.out (fun _ hk=>hk.1.2)⟩,⟨by (with_reducible repeat (first | apply Kd.R_alloc | apply Kd.R_drewN | apply Kd.R_drew));exact HO3.out⟩,⟨by (with_reducible repeat (first | refine blk_drewN ?_ _ | refine blk_drew ?_ | refine blk_alloc ?_ _));exact BK7.out⟩,⟨hb_⟩⟩
  case rest =>
   clear HC5
   try clear c1
   try clear c2
   try clear c2b0
   try clear c2b1
   try clear p2
   try clear c3
   try clear c11
   try clear c12
   try clear c13
   try clear c14
   try clear hcz16_0
   try clear hcz20_0
   try clear hcz22_0
   try clear hcz9_0
   try clear hfz16_0
   try clear hfz20_0
   try clear hfz22_0
   try clear hfz9_0
   obtain ⟨kq,x28_4,rfl,HA,HJ4,HO_4,HO_5,Z8,BK7,HB⟩:=hcut
   cases kq with
   | zero=>exact absurd HA.out (by simp [laws_FnFlattenGroup.j0])
   | succ kj4 =>
    have H:=HA.out
    clear HA
    simp only [laws_FnFlattenGroup.j0] at H
    by_cases c26 : x28_4 = true
    ·subst c26
     have H1 : ((spec_FlattenGroup.f kj4 t1 t4).bind fun t16=>((laws_equalGroup.f kj4 t8 t16).bind fun t19=>(some t19))) = some r:=by rw [if_pos rfl] at H;exact H
     clear H
     have H:=H1
     clear H1
     replace H:=Option.bind_eq_some_iff.mp H
     obtain ⟨t16,A270,H⟩:=H
     try dsimp only at H
     have A27:=a0_ A270
     clear A270
     replace H:=Option.bind_eq_some_iff.mp H
     obtain ⟨t19,A280,H⟩:=H
     replace H : (some t19) = some r:=H
     have A28:=a0_ A280
     clear A280
     obtain rfl:=Option.some.inj H
     have hcz29_0 : wc.cell? ⟨gb7,0,none⟩ = some (.slice Ao8 t1.length co8):=(blk_cell BK7.out 0).trans rfl
     have hfz29_0:=blk_frozen BK7.out 0
     go_wp2_with (first | ((with_reducible refine gate_callee (f:=14) rfl ?_);refine goesL_ (some 32) rfl rfl Try.func14 (by kernel_rfl) rfl #[.agg #[.slice Ao8 t1.length co8],.slice Ao10 t4.length co10] rfl lm_ ?_;(with_reducible refine (spec_FlattenGroup.calls kj4 _ _ t1 _ _ t4 t16 _ ?side1 ?side2 ?side3 ?side4 A27.out).mono ?_);(case side1=>exact cc_ (Kd.R_reads' Z8.out).2.2);(case side2=>exact (Kd.R_reads' Z8.out).2.1);(case side3=>exact cc_ (Kd.R_reads' HO_4.out).2.2);(case side4=>exact (Kd.R_reads' HO_4.out).2.1);rintro e w30 ⟨v17,rfl,ho0,hb⟩;refine ⟨_,rfl,?_⟩;have n0_:=a0_ (Kd.R_elder' (rr_ HO_4.out) (Kd.R_base ho0) hb);have n1_:=a0_ (Kd.R_elder' (rr_ HO_5.out) (Kd.R_base ho0) hb);have n2_:=rb_ Z8 hb;have n3_:=a0_ (Kd.R_lower (Kd.R_new' (Kd.R_new' ho0 (Kd.R_lt (rr_ HO_4.out))) (Kd.R_lt (rr_ HO_5.out))) (below_size hb_));have n4_:=kb_ BK7 hb;have n5_:=a0_ (below_step hb_ hb);clear HO_4 HO_5;clear Z8 BK7 HB;have HO_4:=n0_;have HO_5:=n1_;have Z8:=n2_;have HO18:=n3_;have BK7:=n4_;have HB:=n5_;clear n0_ n1_ n2_ n3_ n4_ n5_;(try clear hb);(try clear ho0);obtain ⟨Ao31,co31,eo31⟩:=Kd.R_slice HO_5.out;subst eo31;obtain ⟨Ao32,co32,eo32⟩:=Kd.R_slice HO18.out;subst eo32) | ((with_reducible refine gate_callee (f:=13) rfl ?_);refine goesL_ (some 33) rfl rfl Try.func13 (by kernel_rfl) rfl #[.slice Ao31 t8.length co31,.slice Ao32 t16.length co32] rfl lm_ ?_;(with_reducible refine (laws_equalGroup.calls kj4 _ _ t8 _ _ t16 t19 _ ?side1 ?side2 ?side3 ?side4 A28.out).mono ?_);(case side1=>exact cc_ (Kd.R_reads' HO_5.out).2.2);(case side2=>exact (Kd.R_reads' HO_5.out).2.1);(case side3=>exact cc_ (Kd.R_reads' HO18.out).2.2);(case side4=>exact (Kd.R_reads' HO18.out).2.1);rintro e w' ⟨rfl,⟨nd,rfl⟩⟩;refine ⟨_,rfl,?_⟩))
     go_ret
     exact ⟨by first | rfl | (simp [errW_none,errW_some] <;> rfl) | (simp [*,errW_none,errW_some] <;> rfl),hb_⟩
    ·replace c26:=Bool.eq_false_iff.mpr c26
     subst c26
     have H1 : ((impl_LeavesOf.f kj4 t1 t8).bind fun t20=>((impl_LeavesOf.f kj4 t1 t4).bind fun t23=>((laws_equalLeaves.f kj4 t20 t23).bind fun t26=>(if t26 = true then ((impl_GroupDepth.f kj4 t1 t8).bind fun t27=>(if t27 ≤ 1 then ((impl_FlattenGroup.f kj4 t1 t8).bind fun t28=>((laws_equalGroup.f kj4 t28 t8).bind fun t31=>(if t31 = true then (some (decide ((t8.length : Int) ≤ (t4.length : Int)))) else (some false)))) else (some false))) else (some false))))) = some r:=by rw [if_neg (show ¬ (false = true) by decide)] at H;exact H
     clear H
     have H:=H1
     clear H1
     replace H:=Option.bind_eq_some_iff.mp H
     obtain ⟨t20,A330,H⟩:=H
     try dsimp only at H
     have A33:=a0_ A330
     clear A330
     replace H:=Option.bind_eq_some_iff.mp H
     obtain ⟨t23,A340,H⟩:=H
     try dsimp only at H
     have A34:=a0_ A340
     clear A340
     replace H:=Option.bind_eq_some_iff.mp H
     obtain ⟨t26,A350,H⟩:=H
     try dsimp only at H
     have A35:=a0_ A350
     clear A350
     by_cases c36 : t26 = true
     ·subst c36
      have H1 : ((impl_GroupDepth.f kj4 t1 t8).bind fun t27=>(if t27 ≤ 1 then ((impl_FlattenGroup.f kj4 t1 t8).bind fun t28=>((laws_equalGroup.f kj4 t28 t8).bind fun t31=>(if t31 = true then (some (decide ((t8.length : Int) ≤ (t4.length : Int)))) else (some false)))) else (some false))) = some r:=by rw [if_pos rfl] at H;exact H
      clear H
      have H:=H1
      clear H1
      replace H:=Option.bind_eq_some_iff.mp H
      obtain ⟨t27,A370,H⟩:=H
      try dsimp only at H
      have A37:=a0_ A370
      clear A370
      by_cases c38 : t27 ≤ 1
      ·rw [if_pos c38] at H
       have c38b0 : decide (t27 ≤ 1) = true:=decide_eq_true c38
       clear c38
       replace H:=Option.bind_eq_some_iff.mp H
       obtain ⟨t28,A390,H⟩:=H
       try dsimp only at H
       have A39:=a0_ A390
       clear A390
       replace H:=Option.bind_eq_some_iff.mp H
       obtain ⟨t31,A400,H⟩:=H
       try dsimp only at H
       have A40:=a0_ A400
       clear A400
       by_cases c41 : t31 = true
       ·subst c41
        have H1 : (some (decide ((t8.length : Int) ≤ (t4.length : Int)))) = some r:=by rw [if_pos rfl] at H;exact H
        clear H
        have H:=H1
        clear H1
        obtain rfl:=Option.some.inj H
        try go_wp2
        have n0_:=a0_ (Kd.R_drew HO_4.out)
        have n1_:=a0_ (Kd.R_drew HO_5.out)
        have n2_:=a0_ (Kd.R_drew Z8.out)
        have n3_:=a0_ (blk_drew BK7.out)
        have n4_:=a0_ (below_drew1 HB.out)
        clear HO_4
        clear HO_5
        clear Z8
        clear BK7
        clear HB
        have HO_4:=n0_
        have HO_5:=n1_
        have Z8:=n2_
        have BK7:=n3_
        have HB:=n4_
        clear n0_ n1_ n2_ n3_ n4_
        obtain ⟨Ao43,co43,eo43⟩:=Kd.R_slice HO_5.out
        (first | subst eo43 | (injection eo43 with f1_ f2_ f3_;have f4_:=f1_.symm;have f5_:=f3_.symm;clear f1_ f2_ f3_;subst f4_;subst f5_))
        refine start_ (n:=28) (S:=fun w'=>w'.cell? ⟨gb7,0,none⟩ = some (.slice Ao8 t1.length co8)) (ds:=[]) #[false,false,false,false,false,false,false,false,false,false,false,false,false,false,false,false,false,false,false,false,false,false,false,false,false,false,false,false] (by kernel_rfl) rfl rfl ((blk_cell BK7.out 0).trans rfl) (fun hHeld=>?_);refine with_tabW laws_FnFlattenGroup.tab7 laws_FnFlattenGroup.bits7 (fun HT_ HW_=>?_)
        generalize wc.drew = w42 at HO_4 HO_5 Z8 BK7 HB hHeld ⊢
        refine pure_ (i:=1) (N:=some 35) (v:=?_) (a':=?_) #[false,true,false,false,false,false,false,false,false,false,false,false,false,false,false,false,false,false,false,false,false,false,false,false,false,false,false,false] rfl rfl (any_of HT_.out (by kernel_rfl)) (fun _ _ _ h=>h) (Or.inl ⟨by rfl,?_⟩) ?_ ?_
        rotate_left
        ·intro w'
         go_simp
         with_reducible rfl
        rotate_left
        ·simp only [Act.put,s1_,s2_,s3_,i64_w,i32_w]
         rfl
        refine pure_ (i:=4) (N:=some 38) (v:=?_) (a':=?_) #[false,true,false,false,true,false,false,false,false,false,false,false,false,false,false,false,false,false,false,false,false,false,false,false,false,false,false,false] rfl rfl (any_of HT_.out (by kernel_rfl)) (fun _ _ _ h=>h) (Or.inl ⟨by rfl,?_⟩) ?_ ?_
        rotate_left
        ·intro w'
         go_simp
         with_reducible rfl
        rotate_left
        ·simp only [Act.put,s1_,s2_,s3_,i64_w,i32_w]
         rfl
        refine take_ (i:=0) (N:=some 34) (v:=?_) (a':=?_) #[true,true,false,false,true,false,false,false,false,false,false,false,false,false,false,false,false,false,false,false,false,false,false,false,false,false,false,false] rfl rfl (take_ofW HT_.out HW_.out (by kernel_rfl)) (fun _ _ _ h=>h) (Or.inl ⟨by rfl,?_⟩) hHeld ?_ ?_
        rotate_left
        ·intro w' s0
         go_simp
         with_reducible rfl
        rotate_left
        ·simp only [Act.put,s1_,s2_,s3_,i64_w,i32_w]
         rfl
        refine take_ (i:=3) (N:=some 37) (v:=?_) (a':=?_) #[true,true,false,true,true,false,false,false,false,false,false,false,false,false,false,false,false,false,false,false,false,false,false,false,false,false,false,false] rfl rfl (take_ofW HT_.out HW_.out (by kernel_rfl)) (fun _ _ _ h=>h) (Or.inl ⟨by rfl,?_⟩) hHeld ?_ ?_
        rotate_left
        ·intro w' s0
         go_simp
         with_reducible rfl
        rotate_left
        ·simp only [Act.put,s1_,s2_,s3_,i64_w,i32_w]
         rfl
        refine one_ (i:=2) (N:=some 36) #[true,true,true,true,true,false,false,false,false,false,false,false,false,false,false,false,false,false,false,false,false,false,false,false,false,false,false,false] rfl rfl (one_of HT_.out (by kernel_rfl)) (by decide) (fun K hK=>?_)
        refine goes_ Try.func17 (by kernel_rfl) rfl #[.agg #[.slice Ao8 t1.length co8],.slice Ao43 t8.length co43] (by rfl) rfl rfl lm_ ?_
        with_reducible refine (impl_LeavesOf.calls kj4 _ _ t1 _ _ t8 t20 _ ?side1 ?side2 ?side3 ?side4 A33.out).mono ?_
        (case side1=>exact cc_ (Kd.R_reads' Z8.out).2.2)
        (case side2=>exact (Kd.R_reads' Z8.out).2.1)
        (case side3=>exact cc_ (Kd.R_reads' HO_5.out).2.2)
        (case side4=>exact (Kd.R_reads' HO_5.out).2.1)
        rintro e w44 ⟨v21,rfl,ho0,hb⟩
        refine ⟨_,rfl,?_⟩
        have n0_:=rb_ HO_4 hb
        have n1_:=rb_ HO_5 hb
        have n2_:=rb_ Z8 hb
        have n3_:=a0_ (Kd.R_lower ho0 (below_size hb_))
        have n4_:=kb_ BK7 hb
        have n5_:=a0_ (below_step hb_ hb)
        clear HO_4
        clear HO_5
        clear Z8
        clear BK7
        clear HB
        have HO_4:=n0_
        have HO_5:=n1_
        have Z8:=n2_
        have HO22:=n3_
        have BK7:=n4_
        have HB:=n5_
        clear n0_ n1_ n2_ n3_ n4_ n5_
        (try clear hb)
        (try clear hb2)
        (try clear hk)
        (try clear hi)
        (try clear ho0)
        refine hK.out _ _ ((blk_cell BK7.out 0).trans rfl) (fun hHeld=>?_)
        clear hK K
        refine norm_ (a':=?_) ?_ ?_
        rotate_left
        ·show Act.put _ (some 36) _ = _
         simp only [Act.put,s1_,s2_,s3_,i64_w,i32_w]
         rfl
        refine one_ (i:=5) (N:=some 39) #[true,true,true,true,true,true,false,false,false,false,false,false,false,false,false,false,false,false,false,false,false,false,false,false,false,false,false,false] rfl rfl (one_of HT_.out (by kernel_rfl)) (by decide) (fun K hK=>?_)
        refine goes_ Try.func17 (by kernel_rfl) rfl #[.agg #[.slice Ao8 t1.length co8],.slice Ao10 t4.length co10] (by rfl) rfl rfl lm_ ?_
        with_reducible refine (impl_LeavesOf.calls kj4 _ _ t1 _ _ t4 t23 _ ?side1 ?side2 ?side3 ?side4 A34.out).mono ?_
        (case side1=>exact cc_ (Kd.R_reads' Z8.out).2.2)
        (case side2=>exact (Kd.R_reads' Z8.out).2.1)
        (case side3=>exact cc_ (Kd.R_reads' HO_4.out).2.2)
        (case side4=>exact (Kd.R_reads' HO_4.out).2.1)
        rintro e w45 ⟨v24,rfl,ho0,hb⟩
        refine ⟨_,rfl,?_⟩
        have n0_:=rb_ HO_4 hb
        have n1_:=rb_ HO_5 hb
        have n2_:=rb_ Z8 hb
        have n3_:=a0_ (Kd.R_elder' (rr_ HO22.out) (Kd.R_base ho0) hb)
        have n4_:=a0_ (Kd.R_lower (Kd.R_new' ho0 (Kd.R_lt (rr_ HO22.out))) (below_size hb_))
        have n5_:=kb_ BK7 hb
        have n6_:=a0_ (below_step hb_ hb)
        clear HO_4
        clear HO_5
        clear Z8
        clear HO22
        clear BK7
        clear HB
        have HO_4:=n0_
        have HO_5:=n1_
        have Z8:=n2_
        have HO22:=n3_
        have HO25:=n4_
        have BK7:=n5_
        have HB:=n6_
        clear n0_ n1_ n2_ n3_ n4_ n5_ n6_
        (try clear hb)
        (try clear hb2)
        (try clear hk)
        (try clear hi)
        (try clear ho0)
        obtain ⟨Ao46,co46,eo46⟩:=Kd.R_slice HO22.out
        (first | subst eo46 | (injection eo46 with f1_ f2_ f3_;have f4_:=f1_.symm;have f5_:=f3_.symm;clear f1_ f2_ f3_;subst f4_;subst f5_))
        obtain ⟨Ao47,co47,eo47⟩:=Kd.R_slice HO25.out
        (first | subst eo47 | (injection eo47 with f1_ f2_ f3_;have f4_:=f1_.symm;have f5_:=f3_.symm;clear f1_ f2_ f3_;subst f4_;subst f5_))
        refine hK.out _ _ ((blk_cell BK7.out 0).trans rfl) (fun hHeld=>?_)
        clear hK K
        refine norm_ (a':=?_) ?_ ?_
        rotate_left
        ·show Act.put _ (some 39) _ = _
         simp only [Act.put,s1_,s2_,s3_,i64_w,i32_w]
         rfl
        refine one_ (i:=6) (N:=some 40) #[true,true,true,true,true,true,true,false,false,false,false,false,false,false,false,false,false,false,false,false,false,false,false,false,false,false,false,false] rfl rfl (one_of HT_.out (by kernel_rfl)) (by decide) (fun K hK=>?_)
        refine goes_ Try.func16 (by kernel_rfl) rfl #[.slice Ao46 t20.length co46,.slice Ao47 t23.length co47] (by rfl) rfl rfl lm_ ?_
        with_reducible refine (laws_equalLeaves.calls kj4 _ _ t20 _ _ t23 true _ ?side1 ?side2 ?side3 ?side4 A35.out).mono ?_
        (case side1=>exact cc_ (Kd.R_reads' HO22.out).2.2)
        (case side2=>exact (Kd.R_reads' HO22.out).2.1)
        (case side3=>exact cc_ (Kd.R_reads' HO25.out).2.2)
        (case side4=>exact (Kd.R_reads' HO25.out).2.1)
        rintro e w' ⟨rfl,⟨nd,rfl⟩⟩
        refine ⟨_,rfl,?_⟩
        refine hK.out _ _ ((blk_cell BK7.out 0).trans rfl) (fun hHeld=>?_)
        clear hK K
        refine norm_ (a':=?_) ?_ ?_
        rotate_left
        ·show Act.put _ (some 40) _ = _
         simp only [Act.put,s1_,s2_,s3_,i64_w,i32_w]
         rfl
        refine pure_ (i:=7) (N:=some 41) (v:=?_) (a':=?_) #[true,true,true,true,true,true,true,true,false,false,false,false,false,false,false,false,false,false,false,false,false,false,false,false,false,false,false,false] rfl rfl (any_of HT_.out (by kernel_rfl)) (fun _ _ _ h=>h) (Or.inl ⟨by rfl,?_⟩) ?_ ?_
        rotate_left
        ·intro w'
         go_simp
         with_reducible rfl
        rotate_left
        ·simp only [Act.put,s1_,s2_,s3_,i64_w,i32_w]
         rfl
        refine pure_ (i:=9) (N:=some 43) (v:=?_) (a':=?_) #[true,true,true,true,true,true,true,true,false,true,false,false,false,false,false,false,false,false,false,false,false,false,false,false,false,false,false,false] rfl rfl (any_of HT_.out (by kernel_rfl)) (fun _ _ _ h=>h) (Or.inl ⟨by rfl,?_⟩) ?_ ?_
        rotate_left
        ·intro w'
         go_simp
         with_reducible rfl
        rotate_left
        ·simp only [Act.put,s1_,s2_,s3_,i64_w,i32_w]
         rfl
        refine take_ (i:=8) (N:=some 42) (v:=?_) (a':=?_) #[true,true,true,true,true,true,true,true,true,true,false,false,false,false,false,false,false,false,false,false,false,false,false,false,false,false,false,false] rfl rfl (take_ofW HT_.out HW_.out (by kernel_rfl)) (fun _ _ _ h=>h) (Or.inl ⟨by rfl,?_⟩) hHeld ?_ ?_
        rotate_left
        ·intro w' s0
         go_simp
         with_reducible rfl
        rotate_left
        ·simp only [Act.put,s1_,s2_,s3_,i64_w,i32_w]
         rfl
        refine one_ (i:=10) (N:=some 44) #[true,true,true,true,true,true,true,true,true,true,true,false,false,false,false,false,false,false,false,false,false,false,false,false,false,false,false,false] rfl rfl (one_of HT_.out (by kernel_rfl)) (by decide) (fun K hK=>?_)
        refine goes_ Try.func18 (by kernel_rfl) rfl #[.agg #[.slice Ao8 t1.length co8],.slice Ao43 t8.length co43] (by rfl) rfl rfl lm_ ?_
        with_reducible refine (impl_GroupDepth.calls kj4 _ _ t1 _ _ t8 t27 _ ?side1 ?side2 ?side3 ?side4 A37.out).mono ?_
        (case side1=>exact cc_ (Kd.R_reads' Z8.out).2.2)
        (case side2=>exact (Kd.R_reads' Z8.out).2.1)
        (case side3=>exact cc_ (Kd.R_reads' HO_5.out).2.2)
        (case side4=>exact (Kd.R_reads' HO_5.out).2.1)
        rintro e w48 ⟨rfl,hb⟩
        refine ⟨_,rfl,?_⟩
        have n0_:=rb_ HO_4 hb
        have n1_:=rb_ HO_5 hb
        have n2_:=rb_ Z8 hb
        have n3_:=rb_ HO22 hb
        have n4_:=rb_ HO25 hb
        have n5_:=kb_ BK7 hb
        have n6_:=a0_ (below_step hb_ hb)
        clear HO_4
        clear HO_5
        clear Z8
        clear HO22
        clear HO25
        clear BK7
        clear HB
        have HO_4:=n0_
        have HO_5:=n1_
        have Z8:=n2_
        have HO22:=n3_
        have HO25:=n4_
        have BK7:=n5_
        have HB:=n6_
        clear n0_ n1_ n2_ n3_ n4_ n5_ n6_
        (try clear hb)
        (try clear hb2)
        (try clear hk)
        (try clear hi)
        refine hK.out _ _ ((blk_cell BK7.out 0).trans rfl) (fun hHeld=>?_)
        clear hK K
        refine norm_ (a':=?_) ?_ ?_
        rotate_left
        ·show Act.put _ (some 44) _ = _
         simp only [Act.put,s1_,s2_,s3_,i64_w,i32_w]
         rfl
        refine pure_ (i:=11) (N:=some 45) (v:=?_) (a':=?_) #[true,true,true,true,true,true,true,true,true,true,true,true,false,false,false,false,false,false,false,false,false,false,false,false,false,false,false,false] rfl rfl (any_of HT_.out (by kernel_rfl)) (fun _ _ _ h=>h) (Or.inl ⟨by rfl,?_⟩) ?_ ?_
        rotate_left
        ·intro w'
         go_simp
         with_reducible rfl
        rotate_left
        ·simp only [Act.put,s1_,s2_,s3_,i64_w,i32_w]
         rfl
        refine pure_ (i:=12) (N:=some 46) (v:=?_) (a':=?_) #[true,true,true,true,true,true,true,true,true,true,true,true,true,false,false,false,false,false,false,false,false,false,false,false,false,false,false,false] rfl rfl (any_of HT_.out (by kernel_rfl)) (fun _ _ _ h=>h) (Or.inl ⟨by rfl,?_⟩) ?_ ?_
        rotate_left
        ·intro w'
         go_simp
         with_reducible rfl
        rotate_left
        ·simp only [Act.put,s1_,s2_,s3_,i64_w,i32_w]
         rfl
        refine pure_ (i:=13) (N:=some 47) (v:=?_) (a':=?_) #[true,true,true,true,true,true,true,true,true,true,true,true,true,true,false,false,false,false,false,false,false,false,false,false,false,false,false,false] rfl rfl (any_of HT_.out (by kernel_rfl)) (fun _ _ _ h=>h) (Or.inl ⟨by rfl,?_⟩) ?_ ?_
        rotate_left
        ·intro w'
         go_simp
         with_reducible rfl
        rotate_left
        ·simp only [Act.put,s1_,s2_,s3_,i64_w,i32_w]
         rfl
        refine pure_ (i:=15) (N:=some 49) (v:=?_) (a':=?_) #[true,true,true,true,true,true,true,true,true,true,true,true,true,true,false,true,false,false,false,false,false,false,false,false,false,false,false,false] rfl rfl (any_of HT_.out (by kernel_rfl)) (fun _ _ _ h=>h) (Or.inl ⟨by rfl,?_⟩) ?_ ?_
        rotate_left
        ·intro w'
         go_simp
         with_reducible rfl
        rotate_left
        ·simp only [Act.put,s1_,s2_,s3_,i64_w,i32_w]
         rfl
        refine pure_ (i:=17) (N:=some 51) (v:=?_) (a':=?_) #[true,true,true,true,true,true,true,true,true,true,true,true,true,true,false,true,false,true,false,false,false,false,false,false,false,false,false,false] rfl rfl (any_of HT_.out (by kernel_rfl)) (fun _ _ _ h=>h) (Or.inl ⟨by rfl,?_⟩) ?_ ?_
        rotate_left
        ·intro w'
         go_simp
         with_reducible rfl
        rotate_left
        ·simp only [Act.put,s1_,s2_,s3_,i64_w,i32_w]
         rfl
        refine take_ (i:=14) (N:=some 48) (v:=?_) (a':=?_) #[true,true,true,true,true,true,true,true,true,true,true,true,true,true,true,true,false,true,false,false,false,false,false,false,false,false,false,false] rfl rfl (take_ofW HT_.out HW_.out (by kernel_rfl)) (fun _ _ _ h=>h) (Or.inl ⟨by rfl,?_⟩) hHeld ?_ ?_
        rotate_left
        ·intro w' s0
         go_simp
         with_reducible rfl
        rotate_left
        ·simp only [Act.put,s1_,s2_,s3_,i64_w,i32_w]
         rfl
        refine one_ (i:=16) (N:=some 50) #[true,true,true,true,true,true,true,true,true,true,true,true,true,true,true,true,true,true,false,false,false,false,false,false,false,false,false,false] rfl rfl (one_of HT_.out (by kernel_rfl)) (by decide) (fun K hK=>?_)
        refine goes_ Try.func12 (by kernel_rfl) rfl #[.agg #[.slice Ao8 t1.length co8],.slice Ao43 t8.length co43] (by rfl) rfl rfl lm_ ?_
        with_reducible refine (impl_FlattenGroup.calls kj4 _ _ t1 _ _ t8 t28 _ ?side1 ?side2 ?side3 ?side4 A39.out).mono ?_
        (case side1=>exact cc_ (Kd.R_reads' Z8.out).2.2)
        (case side2=>exact (Kd.R_reads' Z8.out).2.1)
        (case side3=>exact cc_ (Kd.R_reads' HO_5.out).2.2)
        (case side4=>exact (Kd.R_reads' HO_5.out).2.1)
        rintro e w49 ⟨v29,rfl,ho0,hb⟩
        refine ⟨_,rfl,?_⟩
        have n0_:=a0_ (Kd.R_elder' (rr_ HO_4.out) (Kd.R_base ho0) hb)
        have n1_:=a0_ (Kd.R_elder' (rr_ HO_5.out) (Kd.R_base ho0) hb)
        have n2_:=rb_ Z8 hb
        have n3_:=rb_ HO22 hb
        have n4_:=rb_ HO25 hb
        have n5_:=a0_ (Kd.R_lower (Kd.R_new' (Kd.R_new' ho0 (Kd.R_lt (rr_ HO_4.out))) (Kd.R_lt (rr_ HO_5.out))) (below_size hb_))
        have n6_:=kb_ BK7 hb
        have n7_:=a0_ (below_step hb_ hb)
        clear HO_4
        clear HO_5
        clear Z8
        clear HO22
        clear HO25
        clear BK7
        clear HB
        have HO_4:=n0_
        have HO_5:=n1_
        have Z8:=n2_
        have HO22:=n3_
        have HO25:=n4_
        have HO30:=n5_
        have BK7:=n6_
        have HB:=n7_
        clear n0_ n1_ n2_ n3_ n4_ n5_ n6_ n7_
        (try clear hb)
        (try clear hb2)
        (try clear hk)
        (try clear hi)
        (try clear ho0)
        obtain ⟨Ao50,co50,eo50⟩:=Kd.R_slice HO30.out
        (first | subst eo50 | (injection eo50 with f1_ f2_ f3_;have f4_:=f1_.symm;have f5_:=f3_.symm;clear f1_ f2_ f3_;subst f4_;subst f5_))
        refine hK.out _ _ ((blk_cell BK7.out 0).trans rfl) (fun hHeld=>?_)
        clear hK K
        refine norm_ (a':=?_) ?_ ?_
        rotate_left
        ·show Act.put _ (some 50) _ = _
         simp only [Act.put,s1_,s2_,s3_,i64_w,i32_w]
         rfl
        refine one_ (i:=18) (N:=some 52) #[true,true,true,true,true,true,true,true,true,true,true,true,true,true,true,true,true,true,true,false,false,false,false,false,false,false,false,false] rfl rfl (one_of HT_.out (by kernel_rfl)) (by decide) (fun K hK=>?_)
        refine goes_ Try.func13 (by kernel_rfl) rfl #[.slice Ao50 t28.length co50,.slice Ao43 t8.length co43] (by rfl) rfl rfl lm_ ?_
        with_reducible refine (laws_equalGroup.calls kj4 _ _ t28 _ _ t8 true _ ?side1 ?side2 ?side3 ?side4 A40.out).mono ?_
        (case side1=>exact cc_ (Kd.R_reads' HO30.out).2.2)
        (case side2=>exact (Kd.R_reads' HO30.out).2.1)
        (case side3=>exact cc_ (Kd.R_reads' HO_5.out).2.2)
        (case side4=>exact (Kd.R_reads' HO_5.out).2.1)
        rintro e w' ⟨rfl,⟨nd,rfl⟩⟩
        refine ⟨_,rfl,?_⟩
        refine hK.out _ _ ((blk_cell BK7.out 0).trans rfl) (fun hHeld=>?_)
        clear hK K
        refine norm_ (a':=?_) ?_ ?_
        rotate_left
        ·show Act.put _ (some 52) _ = _
         simp only [Act.put,s1_,s2_,s3_,i64_w,i32_w]
         rfl
        refine pure_ (i:=19) (N:=some 53) (v:=?_) (a':=?_) #[true,true,true,true,true,true,true,true,true,true,true,true,true,true,true,true,true,true,true,true,false,false,false,false,false,false,false,false] rfl rfl (any_of HT_.out (by kernel_rfl)) (fun _ _ _ h=>h) (Or.inl ⟨by rfl,?_⟩) ?_ ?_
        rotate_left
        ·intro w'
         go_simp
         with_reducible rfl
        rotate_left
        ·simp only [Act.put,s1_,s2_,s3_,i64_w,i32_w]
         rfl
        refine pure_ (i:=20) (N:=some 54) (v:=?_) (a':=?_) #[true,true,true,true,true,true,true,true,true,true,true,true,true,true,true,true,true,true,true,true,true,false,false,false,false,false,false,false] rfl rfl (any_of HT_.out (by kernel_rfl)) (fun _ _ _ h=>h) (Or.inl ⟨by rfl,?_⟩) ?_ ?_
        rotate_left
        ·intro w'
         go_simp
         with_reducible rfl
        rotate_left
        ·simp only [Act.put,s1_,s2_,s3_,i64_w,i32_w]
         rfl
        refine pure_ (i:=21) (N:=some 55) (v:=?_) (a':=?_) #[true,true,true,true,true,true,true,true,true,true,true,true,true,true,true,true,true,true,true,true,true,true,false,false,false,false,false,false] rfl rfl (any_of HT_.out (by kernel_rfl)) (fun _ _ _ h=>h) (Or.inl ⟨by rfl,?_⟩) ?_ ?_
        rotate_left
        ·intro w'
         go_simp
         with_reducible rfl
        rotate_left
        ·simp only [Act.put,s1_,s2_,s3_,i64_w,i32_w]
         rfl
        refine pure_ (i:=22) (N:=some 56) (v:=?_) (a':=?_) #[true,true,true,true,true,true,true,true,true,true,true,true,true,true,true,true,true,true,true,true,true,true,true,false,false,false,false,false] rfl rfl (any_of HT_.out (by kernel_rfl)) (fun _ _ _ h=>h) (Or.inl ⟨by rfl,?_⟩) ?_ ?_
        rotate_left
        ·intro w'
         go_simp
         with_reducible rfl
        rotate_left
        ·simp only [Act.put,s1_,s2_,s3_,i64_w,i32_w]
         rfl
        refine pure_ (i:=23) (N:=some 57) (v:=?_) (a':=?_) #[true,true,true,true,true,true,true,true,true,true,true,true,true,true,true,true,true,true,true,true,true,true,true,true,false,false,false,false] rfl rfl (any_of HT_.out (by kernel_rfl)) (fun _ _ _ h=>h) (Or.inl ⟨by rfl,?_⟩) ?_ ?_
        rotate_left
        ·intro w'
         go_simp
         with_reducible rfl
        rotate_left
        ·simp only [Act.put,s1_,s2_,s3_,i64_w,i32_w]
         rfl
        refine pure_ (i:=24) (N:=some 58) (v:=?_) (a':=?_) #[true,true,true,true,true,true,true,true,true,true,true,true,true,true,true,true,true,true,true,true,true,true,true,true,true,false,false,false] rfl rfl (any_of HT_.out (by kernel_rfl)) (fun _ _ _ h=>h) (Or.inl ⟨by rfl,?_⟩) ?_ ?_
        rotate_left
        ·intro w'
         go_simp
         with_reducible rfl
        rotate_left
        ·simp only [Act.put,s1_,s2_,s3_,i64_w,i32_w]
         rfl
        refine pure_ (i:=25) (N:=some 59) (v:=?_) (a':=?_) #[true,true,true,true,true,true,true,true,true,true,true,true,true,true,true,true,true,true,true,true,true,true,true,true,true,true,false,false] rfl rfl (any_of HT_.out (by kernel_rfl)) (fun _ _ _ h=>h) (Or.inl ⟨by rfl,?_⟩) ?_ ?_
        rotate_left
        ·intro w'
         go_simp
         with_reducible rfl
        rotate_left
        ·simp only [Act.put,s1_,s2_,s3_,i64_w,i32_w]
         rfl
        refine pure_ (i:=26) (N:=some 60) (v:=?_) (a':=?_) #[true,true,true,true,true,true,true,true,true,true,true,true,true,true,true,true,true,true,true,true,true,true,true,true,true,true,true,false] rfl rfl (any_of HT_.out (by kernel_rfl)) (fun _ _ _ h=>h) (Or.inl ⟨by rfl,?_⟩) ?_ ?_
        rotate_left
        ·intro w'
         go_simp
         with_reducible rfl
        rotate_left
        ·simp only [Act.put,s1_,s2_,s3_,i64_w,i32_w]
         rfl
        refine pure_ (i:=27) (N:=some 2) (v:=?_) (a':=?_) #[true,true,true,true,true,true,true,true,true,true,true,true,true,true,true,true,true,true,true,true,true,true,true,true,true,true,true,true] rfl rfl (any_of HT_.out (by kernel_rfl)) (fun _ _ _ h=>h) (Or.inl ⟨by rfl,?_⟩) ?_ ?_
        rotate_left
        ·intro w'
         go_simp
         with_reducible rfl
        rotate_left
        ·simp only [Act.put,s1_,s2_,s3_,i64_w,i32_w]
         rfl
        refine done_ (done_of HT_.out (by kernel_rfl)) ?_
        try go_wp2
        go_ret
        exact ⟨by first | rfl | (simp [errW_none,errW_some] <;> rfl) | (simp [*,errW_none,errW_some] <;> rfl),hb_⟩
       ·replace c41:=Bool.eq_false_iff.mpr c41
        subst c41
        have H1 : (some false) = some r:=by rw [if_neg (show ¬ (false = true) by decide)] at H;exact H
        clear H
        have H:=H1
        clear H1
        obtain rfl:=Option.some.inj H
        try go_wp2
        have n0_:=a0_ (Kd.R_drew HO_4.out)
        have n1_:=a0_ (Kd.R_drew HO_5.out)
        have n2_:=a0_ (Kd.R_drew Z8.out)
        have n3_:=a0_ (blk_drew BK7.out)
        have n4_:=a0_ (below_drew1 HB.out)
        clear HO_4
        clear HO_5
        clear Z8
        clear BK7
        clear HB
        have HO_4:=n0_
        have HO_5:=n1_
        have Z8:=n2_
        have BK7:=n3_
        have HB:=n4_
        clear n0_ n1_ n2_ n3_ n4_
        obtain ⟨Ao52,co52,eo52⟩:=Kd.R_slice HO_5.out
        (first | subst eo52 | (injection eo52 with f1_ f2_ f3_;have f4_:=f1_.symm;have f5_:=f3_.symm;clear f1_ f2_ f3_;subst f4_;subst f5_))
        refine start_ (n:=28) (S:=fun w'=>w'.cell? ⟨gb7,0,none⟩ = some (.slice Ao8 t1.length co8)) (ds:=[]) #[false,false,false,false,false,false,false,false,false,false,false,false,false,false,false,false,false,false,false,false,false,false,false,false,false,false,false,false] (by kernel_rfl) rfl rfl ((blk_cell BK7.out 0).trans rfl) (fun hHeld=>?_);refine with_tabW laws_FnFlattenGroup.tab7 laws_FnFlattenGroup.bits7 (fun HT_ HW_=>?_)
        generalize wc.drew = w51 at HO_4 HO_5 Z8 BK7 HB hHeld ⊢
        refine pure_ (i:=1) (N:=some 35) (v:=?_) (a':=?_) #[false,true,false,false,false,false,false,false,false,false,false,false,false,false,false,false,false,false,false,false,false,false,false,false,false,false,false,false] rfl rfl (any_of HT_.out (by kernel_rfl)) (fun _ _ _ h=>h) (Or.inl ⟨by rfl,?_⟩) ?_ ?_
        rotate_left
        ·intro w'
         go_simp
         with_reducible rfl
        rotate_left
        ·simp only [Act.put,s1_,s2_,s3_,i64_w,i32_w]
         rfl
        refine pure_ (i:=4) (N:=some 38) (v:=?_) (a':=?_) #[false,true,false,false,true,false,false,false,false,false,false,false,false,false,false,false,false,false,false,false,false,false,false,false,false,false,false,false] rfl rfl (any_of HT_.out (by kernel_rfl)) (fun _ _ _ h=>h) (Or.inl ⟨by rfl,?_⟩) ?_ ?_
        rotate_left
        ·intro w'
         go_simp
         with_reducible rfl
        rotate_left
        ·simp only [Act.put,s1_,s2_,s3_,i64_w,i32_w]
         rfl
        refine take_ (i:=0) (N:=some 34) (v:=?_) (a':=?_) #[true,true,false,false,true,false,false,false,false,false,false,false,false,false,false,false,false,false,false,false,false,false,false,false,false,false,false,false] rfl rfl (take_ofW HT_.out HW_.out (by kernel_rfl)) (fun _ _ _ h=>h) (Or.inl ⟨by rfl,?_⟩) hHeld ?_ ?_
        rotate_left
        ·intro w' s0
         go_simp
         with_reducible rfl
        rotate_left
        ·simp only [Act.put,s1_,s2_,s3_,i64_w,i32_w]
         rfl
        refine take_ (i:=3) (N:=some 37) (v:=?_) (a':=?_) #[true,true,false,true,true,false,false,false,false,false,false,false,false,false,false,false,false,false,false,false,false,false,false,false,false,false,false,false] rfl rfl (take_ofW HT_.out HW_.out (by kernel_rfl)) (fun _ _ _ h=>h) (Or.inl ⟨by rfl,?_⟩) hHeld ?_ ?_
        rotate_left
        ·intro w' s0
         go_simp
         with_reducible rfl
        rotate_left
        ·simp only [Act.put,s1_,s2_,s3_,i64_w,i32_w]
         rfl
        refine one_ (i:=2) (N:=some 36) #[true,true,true,true,true,false,false,false,false,false,false,false,false,false,false,false,false,false,false,false,false,false,false,false,false,false,false,false] rfl rfl (one_of HT_.out (by kernel_rfl)) (by decide) (fun K hK=>?_)
        refine goes_ Try.func17 (by kernel_rfl) rfl #[.agg #[.slice Ao8 t1.length co8],.slice Ao52 t8.length co52] (by rfl) rfl rfl lm_ ?_
        with_reducible refine (impl_LeavesOf.calls kj4 _ _ t1 _ _ t8 t20 _ ?side1 ?side2 ?side3 ?side4 A33.out).mono ?_
        (case side1=>exact cc_ (Kd.R_reads' Z8.out).2.2)
        (case side2=>exact (Kd.R_reads' Z8.out).2.1)
        (case side3=>exact cc_ (Kd.R_reads' HO_5.out).2.2)
        (case side4=>exact (Kd.R_reads' HO_5.out).2.1)
        rintro e w53 ⟨v21,rfl,ho0,hb⟩
        refine ⟨_,rfl,?_⟩
        have n0_:=rb_ HO_4 hb
        have n1_:=rb_ HO_5 hb
        have n2_:=rb_ Z8 hb
        have n3_:=a0_ (Kd.R_lower ho0 (below_size hb_))
        have n4_:=kb_ BK7 hb
        have n5_:=a0_ (below_step hb_ hb)
        clear HO_4
        clear HO_5
        clear Z8
        clear BK7
        clear HB
        have HO_4:=n0_
        have HO_5:=n1_
        have Z8:=n2_
        have HO22:=n3_
        have BK7:=n4_
        have HB:=n5_
        clear n0_ n1_ n2_ n3_ n4_ n5_
        (try clear hb)
        (try clear hb2)
        (try clear hk)
        (try clear hi)
        (try clear ho0)
        refine hK.out _ _ ((blk_cell BK7.out 0).trans rfl) (fun hHeld=>?_)
        clear hK K
        refine norm_ (a':=?_) ?_ ?_
        rotate_left
        ·show Act.put _ (some 36) _ = _
         simp only [Act.put,s1_,s2_,s3_,i64_w,i32_w]
         rfl
        refine one_ (i:=5) (N:=some 39) #[true,true,true,true,true,true,false,false,false,false,false,false,false,false,false,false,false,false,false,false,false,false,false,false,false,false,false,false] rfl rfl (one_of HT_.out (by kernel_rfl)) (by decide) (fun K hK=>?_)
        refine goes_ Try.func17 (by kernel_rfl) rfl #[.agg #[.slice Ao8 t1.length co8],.slice Ao10 t4.length co10] (by rfl) rfl rfl lm_ ?_
        with_reducible refine (impl_LeavesOf.calls kj4 _ _ t1 _ _ t4 t23 _ ?side1 ?side2 ?side3 ?side4 A34.out).mono ?_
        (case side1=>exact cc_ (Kd.R_reads' Z8.out).2.2)
        (case side2=>exact (Kd.R_reads' Z8.out).2.1)
        (case side3=>exact cc_ (Kd.R_reads' HO_4.out).2.2)
        (case side4=>exact (Kd.R_reads' HO_4.out).2.1)
        rintro e w54 ⟨v24,rfl,ho0,hb⟩
        refine ⟨_,rfl,?_⟩
        have n0_:=rb_ HO_4 hb
        have n1_:=rb_ HO_5 hb
        have n2_:=rb_ Z8 hb
        have n3_:=a0_ (Kd.R_elder' (rr_ HO22.out) (Kd.R_base ho0) hb)
        have n4_:=a0_ (Kd.R_lower (Kd.R_new' ho0 (Kd.R_lt (rr_ HO22.out))) (below_size hb_))
        have n5_:=kb_ BK7 hb
        have n6_:=a0_ (below_step hb_ hb)
        clear HO_4
        clear HO_5
        clear Z8
        clear HO22
        clear BK7
        clear HB
        have HO_4:=n0_
        have HO_5:=n1_
        have Z8:=n2_
        have HO22:=n3_
        have HO25:=n4_
        have BK7:=n5_
        have HB:=n6_
        clear n0_ n1_ n2_ n3_ n4_ n5_ n6_
        (try clear hb)
        (try clear hb2)
        (try clear hk)
        (try clear hi)
        (try clear ho0)
        obtain ⟨Ao55,co55,eo55⟩:=Kd.R_slice HO22.out
        (first | subst eo55 | (injection eo55 with f1_ f2_ f3_;have f4_:=f1_.symm;have f5_:=f3_.symm;clear f1_ f2_ f3_;subst f4_;subst f5_))
        obtain ⟨Ao56,co56,eo56⟩:=Kd.R_slice HO25.out
        (first | subst eo56 | (injection eo56 with f1_ f2_ f3_;have f4_:=f1_.symm;have f5_:=f3_.symm;clear f1_ f2_ f3_;subst f4_;subst f5_))
        refine hK.out _ _ ((blk_cell BK7.out 0).trans rfl) (fun hHeld=>?_)
        clear hK K
        refine norm_ (a':=?_) ?_ ?_
        rotate_left
        ·show Act.put _ (some 39) _ = _
         simp only [Act.put,s1_,s2_,s3_,i64_w,i32_w]
         rfl
        refine one_ (i:=6) (N:=some 40) #[true,true,true,true,true,true,true,false,false,false,false,false,false,false,false,false,false,false,false,false,false,false,false,false,false,false,false,false] rfl rfl (one_of HT_.out (by kernel_rfl)) (by decide) (fun K hK=>?_)
        refine goes_ Try.func16 (by kernel_rfl) rfl #[.slice Ao55 t20.length co55,.slice Ao56 t23.length co56] (by rfl) rfl rfl lm_ ?_
        with_reducible refine (laws_equalLeaves.calls kj4 _ _ t20 _ _ t23 true _ ?side1 ?side2 ?side3 ?side4 A35.out).mono ?_
        (case side1=>exact cc_ (Kd.R_reads' HO22.out).2.2)
        (case side2=>exact (Kd.R_reads' HO22.out).2.1)
        (case side3=>exact cc_ (Kd.R_reads' HO25.out).2.2)
        (case side4=>exact (Kd.R_reads' HO25.out).2.1)
        rintro e w' ⟨rfl,⟨nd,rfl⟩⟩
        refine ⟨_,rfl,?_⟩
        refine hK.out _ _ ((blk_cell BK7.out 0).trans rfl) (fun hHeld=>?_)
        clear hK K
        refine norm_ (a':=?_) ?_ ?_
        rotate_left
        ·show Act.put _ (some 40) _ = _
         simp only [Act.put,s1_,s2_,s3_,i64_w,i32_w]
         rfl
        refine pure_ (i:=7) (N:=some 41) (v:=?_) (a':=?_) #[true,true,true,true,true,true,true,true,false,false,false,false,false,false,false,false,false,false,false,false,false,false,false,false,false,false,false,false] rfl rfl (any_of HT_.out (by kernel_rfl)) (fun _ _ _ h=>h) (Or.inl ⟨by rfl,?_⟩) ?_ ?_
        rotate_left
        ·intro w'
         go_simp
         with_reducible rfl
        rotate_left
        ·simp only [Act.put,s1_,s2_,s3_,i64_w,i32_w]
         rfl
        refine pure_ (i:=9) (N:=some 43) (v:=?_) (a':=?_) #[true,true,true,true,true,true,true,true,false,true,false,false,false,false,false,false,false,false,false,false,false,false,false,false,false,false,false,false] rfl rfl (any_of HT_.out (by kernel_rfl)) (fun _ _ _ h=>h) (Or.inl ⟨by rfl,?_⟩) ?_ ?_
        rotate_left
        ·intro w'
         go_simp
         with_reducible rfl
        rotate_left
        ·simp only [Act.put,s1_,s2_,s3_,i64_w,i32_w]
         rfl
        refine take_ (i:=8) (N:=some 42) (v:=?_) (a':=?_) #[true,true,true,true,true,true,true,true,true,true,false,false,false,false,false,false,false,false,false,false,false,false,false,false,false,false,false,false] rfl rfl (take_ofW HT_.out HW_.out (by kernel_rfl)) (fun _ _ _ h=>h) (Or.inl ⟨by rfl,?_⟩) hHeld ?_ ?_
        rotate_left
        ·intro w' s0
         go_simp
         with_reducible rfl
        rotate_left
        ·simp only [Act.put,s1_,s2_,s3_,i64_w,i32_w]
         rfl
        refine one_ (i:=10) (N:=some 44) #[true,true,true,true,true,true,true,true,true,true,true,false,false,false,false,false,false,false,false,false,false,false,false,false,false,false,false,false] rfl rfl (one_of HT_.out (by kernel_rfl)) (by decide) (fun K hK=>?_)
        refine goes_ Try.func18 (by kernel_rfl) rfl #[.agg #[.slice Ao8 t1.length co8],.slice Ao52 t8.length co52] (by rfl) rfl rfl lm_ ?_
        with_reducible refine (impl_GroupDepth.calls kj4 _ _ t1 _ _ t8 t27 _ ?side1 ?side2 ?side3 ?side4 A37.out).mono ?_
        (case side1=>exact cc_ (Kd.R_reads' Z8.out).2.2)
        (case side2=>exact (Kd.R_reads' Z8.out).2.1)
        (case side3=>exact cc_ (Kd.R_reads' HO_5.out).2.2)
        (case side4=>exact (Kd.R_reads' HO_5.out).2.1)
        rintro e w57 ⟨rfl,hb⟩
        refine ⟨_,rfl,?_⟩
        have n0_:=rb_ HO_4 hb
        have n1_:=rb_ HO_5 hb
        have n2_:=rb_ Z8 hb
        have n3_:=rb_ HO22 hb
        have n4_:=rb_ HO25 hb
        have n5_:=kb_ BK7 hb
        have n6_:=a0_ (below_step hb_ hb)
        clear HO_4
        clear HO_5
        clear Z8
        clear HO22
        clear HO25
        clear BK7
        clear HB
        have HO_4:=n0_
        have HO_5:=n1_
        have Z8:=n2_
        have HO22:=n3_
        have HO25:=n4_
        have BK7:=n5_
        have HB:=n6_
        clear n0_ n1_ n2_ n3_ n4_ n5_ n6_
        (try clear hb)
        (try clear hb2)
        (try clear hk)
        (try clear hi)
        refine hK.out _ _ ((blk_cell BK7.out 0).trans rfl) (fun hHeld=>?_)
        clear hK K
        refine norm_ (a':=?_) ?_ ?_
        rotate_left
        ·show Act.put _ (some 44) _ = _
         simp only [Act.put,s1_,s2_,s3_,i64_w,i32_w]
         rfl
        refine pure_ (i:=11) (N:=some 45) (v:=?_) (a':=?_) #[true,true,true,true,true,true,true,true,true,true,true,true,false,false,false,false,false,false,false,false,false,false,false,false,false,false,false,false] rfl rfl (any_of HT_.out (by kernel_rfl)) (fun _ _ _ h=>h) (Or.inl ⟨by rfl,?_⟩) ?_ ?_
        rotate_left
        ·intro w'
         go_simp
         with_reducible rfl
        rotate_left
        ·simp only [Act.put,s1_,s2_,s3_,i64_w,i32_w]
         rfl
        refine pure_ (i:=12) (N:=some 46) (v:=?_) (a':=?_) #[true,true,true,true,true,true,true,true,true,true,true,true,true,false,false,false,false,false,false,false,false,false,false,false,false,false,false,false] rfl rfl (any_of HT_.out (by kernel_rfl)) (fun _ _ _ h=>h) (Or.inl ⟨by rfl,?_⟩) ?_ ?_
        rotate_left
        ·intro w'
         go_simp
         with_reducible rfl
        rotate_left
        ·simp only [Act.put,s1_,s2_,s3_,i64_w,i32_w]
         rfl
        refine pure_ (i:=13) (N:=some 47) (v:=?_) (a':=?_) #[true,true,true,true,true,true,true,true,true,true,true,true,true,true,false,false,false,false,false,false,false,false,false,false,false,false,false,false] rfl rfl (any_of HT_.out (by kernel_rfl)) (fun _ _ _ h=>h) (Or.inl ⟨by rfl,?_⟩) ?_ ?_
        rotate_left
        ·intro w'
         go_simp
         with_reducible rfl
        rotate_left
        ·simp only [Act.put,s1_,s2_,s3_,i64_w,i32_w]
         rfl
        refine pure_ (i:=15) (N:=some 49) (v:=?_) (a':=?_) #[true,true,true,true,true,true,true,true,true,true,true,true,true,true,false,true,false,false,false,false,false,false,false,false,false,false,false,false] rfl rfl (any_of HT_.out (by kernel_rfl)) (fun _ _ _ h=>h) (Or.inl ⟨by rfl,?_⟩) ?_ ?_
        rotate_left
        ·intro w'
         go_simp
         with_reducible rfl
        rotate_left
        ·simp only [Act.put,s1_,s2_,s3_,i64_w,i32_w]
         rfl
        refine pure_ (i:=17) (N:=some 51) (v:=?_) (a':=?_) #[true,true,true,true,true,true,true,true,true,true,true,true,true,true,false,true,false,true,false,false,false,false,false,false,false,false,false,false] rfl rfl (any_of HT_.out (by kernel_rfl)) (fun _ _ _ h=>h) (Or.inl ⟨by rfl,?_⟩) ?_ ?_
        rotate_left
        ·intro w'
         go_simp
         with_reducible rfl
        rotate_left
        ·simp only [Act.put,s1_,s2_,s3_,i64_w,i32_w]
         rfl
        refine take_ (i:=14) (N:=some 48) (v:=?_) (a':=?_) #[true,true,true,true,true,true,true,true,true,true,true,true,true,true,true,true,false,true,false,false,false,false,false,false,false,false,false,false] rfl rfl (take_ofW HT_.out HW_.out (by kernel_rfl)) (fun _ _ _ h=>h) (Or.inl ⟨by rfl,?_⟩) hHeld ?_ ?_
        rotate_left
        ·intro w' s0
         go_simp
         with_reducible rfl
        rotate_left
        ·simp only [Act.put,s1_,s2_,s3_,i64_w,i32_w]
         rfl
        refine one_ (i:=16) (N:=some 50) #[true,true,true,true,true,true,true,true,true,true,true,true,true,true,true,true,true,true,false,false,false,false,false,false,false,false,false,false] rfl rfl (one_of HT_.out (by kernel_rfl)) (by decide) (fun K hK=>?_)
        refine goes_ Try.func12 (by kernel_rfl) rfl #[.agg #[.slice Ao8 t1.length co8],.slice Ao52 t8.length co52] (by rfl) rfl rfl lm_ ?_
        with_reducible refine (impl_FlattenGroup.calls kj4 _ _ t1 _ _ t8 t28 _ ?side1 ?side2 ?side3 ?side4 A39.out).mono ?_
        (case side1=>exact cc_ (Kd.R_reads' Z8.out).2.2)
        (case side2=>exact (Kd.R_reads' Z8.out).2.1)
        (case side3=>exact cc_ (Kd.R_reads' HO_5.out).2.2)
        (case side4=>exact (Kd.R_reads' HO_5.out).2.1)
        rintro e w58 ⟨v29,rfl,ho0,hb⟩
        refine ⟨_,rfl,?_⟩
        have n0_:=a0_ (Kd.R_elder' (rr_ HO_4.out) (Kd.R_base ho0) hb)
        have n1_:=a0_ (Kd.R_elder' (rr_ HO_5.out) (Kd.R_base ho0) hb)
        have n2_:=rb_ Z8 hb
        have n3_:=rb_ HO22 hb
        have n4_:=rb_ HO25 hb
        have n5_:=a0_ (Kd.R_lower (Kd.R_new' (Kd.R_new' ho0 (Kd.R_lt (rr_ HO_4.out))) (Kd.R_lt (rr_ HO_5.out))) (below_size hb_))
        have n6_:=kb_ BK7 hb
        have n7_:=a0_ (below_step hb_ hb)
        clear HO_4
        clear HO_5
        clear Z8
        clear HO22
        clear HO25
        clear BK7
        clear HB
        have HO_4:=n0_
        have HO_5:=n1_
        have Z8:=n2_
        have HO22:=n3_
        have HO25:=n4_
        have HO30:=n5_
        have BK7:=n6_
        have HB:=n7_
        clear n0_ n1_ n2_ n3_ n4_ n5_ n6_ n7_
        (try clear hb)
        (try clear hb2)
        (try clear hk)
        (try clear hi)
        (try clear ho0)
        obtain ⟨Ao59,co59,eo59⟩:=Kd.R_slice HO30.out
        (first | subst eo59 | (injection eo59 with f1_ f2_ f3_;have f4_:=f1_.symm;have f5_:=f3_.symm;clear f1_ f2_ f3_;subst f4_;subst f5_))
        refine hK.out _ _ ((blk_cell BK7.out 0).trans rfl) (fun hHeld=>?_)
        clear hK K
        refine norm_ (a':=?_) ?_ ?_
        rotate_left
        ·show Act.put _ (some 50) _ = _
         simp only [Act.put,s1_,s2_,s3_,i64_w,i32_w]
         rfl
        refine one_ (i:=18) (N:=some 52) #[true,true,true,true,true,true,true,true,true,true,true,true,true,true,true,true,true,true,true,false,false,false,false,false,false,false,false,false] rfl rfl (one_of HT_.out (by kernel_rfl)) (by decide) (fun K hK=>?_)
        refine goes_ Try.func13 (by kernel_rfl) rfl #[.slice Ao59 t28.length co59,.slice Ao52 t8.length co52] (by rfl) rfl rfl lm_ ?_
        with_reducible refine (laws_equalGroup.calls kj4 _ _ t28 _ _ t8 false _ ?side1 ?side2 ?side3 ?side4 A40.out).mono ?_
        (case side1=>exact cc_ (Kd.R_reads' HO30.out).2.2)
        (case side2=>exact (Kd.R_reads' HO30.out).2.1)
        (case side3=>exact cc_ (Kd.R_reads' HO_5.out).2.2)
        (case side4=>exact (Kd.R_reads' HO_5.out).2.1)
        rintro e w' ⟨rfl,⟨nd,rfl⟩⟩
        refine ⟨_,rfl,?_⟩
        refine hK.out _ _ ((blk_cell BK7.out 0).trans rfl) (fun hHeld=>?_)
        clear hK K
        refine norm_ (a':=?_) ?_ ?_
        rotate_left
        ·show Act.put _ (some 52) _ = _
         simp only [Act.put,s1_,s2_,s3_,i64_w,i32_w]
         rfl
        refine pure_ (i:=19) (N:=some 53) (v:=?_) (a':=?_) #[true,true,true,true,true,true,true,true,true,true,true,true,true,true,true,true,true,true,true,true,false,false,false,false,false,false,false,false] rfl rfl (any_of HT_.out (by kernel_rfl)) (fun _ _ _ h=>h) (Or.inl ⟨by rfl,?_⟩) ?_ ?_
        rotate_left
        ·intro w'
         go_simp
         with_reducible rfl
        rotate_left
        ·simp only [Act.put,s1_,s2_,s3_,i64_w,i32_w]
         rfl
        refine pure_ (i:=20) (N:=some 54) (v:=?_) (a':=?_) #[true,true,true,true,true,true,true,true,true,true,true,true,true,true,true,true,true,true,true,true,true,false,false,false,false,false,false,false] rfl rfl (any_of HT_.out (by kernel_rfl)) (fun _ _ _ h=>h) (Or.inl ⟨by rfl,?_⟩) ?_ ?_
        rotate_left
        ·intro w'
         go_simp
         with_reducible rfl
        rotate_left
        ·simp only [Act.put,s1_,s2_,s3_,i64_w,i32_w]
         rfl
        refine pure_ (i:=21) (N:=some 55) (v:=undef) (a':=?_) #[true,true,true,true,true,true,true,true,true,true,true,true,true,true,true,true,true,true,true,true,true,true,false,false,false,false,false,false] rfl rfl (any_of HT_.out (by kernel_rfl)) (fun _ _ _ h=>h) (Or.inr ⟨by rfl,rfl⟩) ?_ ?_
        rotate_left
        ·simp only [Act.put,s1_,s2_,s3_,i64_w,i32_w]
         rfl
        refine pure_ (i:=22) (N:=some 56) (v:=undef) (a':=?_) #[true,true,true,true,true,true,true,true,true,true,true,true,true,true,true,true,true,true,true,true,true,true,true,false,false,false,false,false] rfl rfl (any_of HT_.out (by kernel_rfl)) (fun _ _ _ h=>h) (Or.inr ⟨by rfl,rfl⟩) ?_ ?_
        rotate_left
        ·simp only [Act.put,s1_,s2_,s3_,i64_w,i32_w]
         rfl
        refine pure_ (i:=23) (N:=some 57) (v:=undef) (a':=?_) #[true,true,true,true,true,true,true,true,true,true,true,true,true,true,true,true,true,true,true,true,true,true,true,true,false,false,false,false] rfl rfl (any_of HT_.out (by kernel_rfl)) (fun _ _ _ h=>h) (Or.inr ⟨by rfl,rfl⟩) ?_ ?_
        rotate_left
        ·simp only [Act.put,s1_,s2_,s3_,i64_w,i32_w]
         rfl
        refine pure_ (i:=24) (N:=some 58) (v:=undef) (a':=?_) #[true,true,true,true,true,true,true,true,true,true,true,true,true,true,true,true,true,true,true,true,true,true,true,true,true,false,false,false] rfl rfl (any_of HT_.out (by kernel_rfl)) (fun _ _ _ h=>h) (Or.inr ⟨by rfl,rfl⟩) ?_ ?_
        rotate_left
        ·simp only [Act.put,s1_,s2_,s3_,i64_w,i32_w]
         rfl
        refine pure_ (i:=25) (N:=some 59) (v:=undef) (a':=?_) #[true,true,true,true,true,true,true,true,true,true,true,true,true,true,true,true,true,true,true,true,true,true,true,true,true,true,false,false] rfl rfl (any_of HT_.out (by kernel_rfl)) (fun _ _ _ h=>h) (Or.inr ⟨by rfl,rfl⟩) ?_ ?_
        rotate_left
        ·simp only [Act.put,s1_,s2_,s3_,i64_w,i32_w]
         rfl
        refine pure_ (i:=26) (N:=some 60) (v:=?_) (a':=?_) #[true,true,true,true,true,true,true,true,true,true,true,true,true,true,true,true,true,true,true,true,true,true,true,true,true,true,true,false] rfl rfl (any_of HT_.out (by kernel_rfl)) (fun _ _ _ h=>h) (Or.inl ⟨by rfl,?_⟩) ?_ ?_
        rotate_left
        ·intro w'
         go_simp
         with_reducible rfl
        rotate_left
        ·simp only [Act.put,s1_,s2_,s3_,i64_w,i32_w]
         rfl
        refine pure_ (i:=27) (N:=some 2) (v:=?_) (a':=?_) #[true,true,true,true,true,true,true,true,true,true,true,true,true,true,true,true,true,true,true,true,true,true,true,true,true,true,true,true] rfl rfl (any_of HT_.out (by kernel_rfl)) (fun _ _ _ h=>h) (Or.inl ⟨by rfl,?_⟩) ?_ ?_
        rotate_left
        ·intro w'
         go_simp
         with_reducible rfl
        rotate_left
        ·simp only [Act.put,s1_,s2_,s3_,i64_w,i32_w]
         rfl
        refine done_ (done_of HT_.out (by kernel_rfl)) ?_
        try go_wp2
        go_ret
        exact ⟨by first | rfl | (simp [errW_none,errW_some] <;> rfl) | (simp [*,errW_none,errW_some] <;> rfl),hb_⟩
      ·rw [if_neg c38] at H
       have c38b0 : decide (t27 ≤ 1) = false:=decide_eq_false c38
       clear c38
       obtain rfl:=Option.some.inj H
       try go_wp2
       have n0_:=a0_ (Kd.R_drew HO_4.out)
       have n1_:=a0_ (Kd.R_drew HO_5.out)
       have n2_:=a0_ (Kd.R_drew Z8.out)
       have n3_:=a0_ (blk_drew BK7.out)
       have n4_:=a0_ (below_drew1 HB.out)
       clear HO_4
       clear HO_5
       clear Z8
       clear BK7
       clear HB
       have HO_4:=n0_
       have HO_5:=n1_
       have Z8:=n2_
       have BK7:=n3_
       have HB:=n4_
       clear n0_ n1_ n2_ n3_ n4_
       obtain ⟨Ao61,co61,eo61⟩:=Kd.R_slice HO_5.out
       (first | subst eo61 | (injection eo61 with f1_ f2_ f3_;have f4_:=f1_.symm;have f5_:=f3_.symm;clear f1_ f2_ f3_;subst f4_;subst f5_))
       refine start_ (n:=28) (S:=fun w'=>w'.cell? ⟨gb7,0,none⟩ = some (.slice Ao8 t1.length co8)) (ds:=[]) #[false,false,false,false,false,false,false,false,false,false,false,false,false,false,false,false,false,false,false,false,false,false,false,false,false,false,false,false] (by kernel_rfl) rfl rfl ((blk_cell BK7.out 0).trans rfl) (fun hHeld=>?_);refine with_tabW laws_FnFlattenGroup.tab7 laws_FnFlattenGroup.bits7 (fun HT_ HW_=>?_)
       generalize wc.drew = w60 at HO_4 HO_5 Z8 BK7 HB hHeld ⊢
       refine pure_ (i:=1) (N:=some 35) (v:=?_) (a':=?_) #[false,true,false,false,false,false,false,false,false,false,false,false,false,false,false,false,false,false,false,false,false,false,false,false,false,false,false,false] rfl rfl (any_of HT_.out (by kernel_rfl)) (fun _ _ _ h=>h) (Or.inl ⟨by rfl,?_⟩) ?_ ?_
       rotate_left
       ·intro w'
        go_simp
        with_reducible rfl
       rotate_left
       ·simp only [Act.put,s1_,s2_,s3_,i64_w,i32_w]
        rfl
       refine pure_ (i:=4) (N:=some 38) (v:=?_) (a':=?_) #[false,true,false,false,true,false,false,false,false,false,false,false,false,false,false,false,false,false,false,false,false,false,false,false,false,false,false,false] rfl rfl (any_of HT_.out (by kernel_rfl)) (fun _ _ _ h=>h) (Or.inl ⟨by rfl,?_⟩) ?_ ?_
       rotate_left
       ·intro w'
        go_simp
        with_reducible rfl
       rotate_left
       ·simp only [Act.put,s1_,s2_,s3_,i64_w,i32_w]
        rfl
       refine take_ (i:=0) (N:=some 34) (v:=?_) (a':=?_) #[true,true,false,false,true,false,false,false,false,false,false,false,false,false,false,false,false,false,false,false,false,false,false,false,false,false,false,false] rfl rfl (take_ofW HT_.out HW_.out (by kernel_rfl)) (fun _ _ _ h=>h) (Or.inl ⟨by rfl,?_⟩) hHeld ?_ ?_
       rotate_left
       ·intro w' s0
        go_simp
        with_reducible rfl
       rotate_left
       ·simp only [Act.put,s1_,s2_,s3_,i64_w,i32_w]
        rfl
       refine take_ (i:=3) (N:=some 37) (v:=?_) (a':=?_) #[true,true,false,true,true,false,false,false,false,false,false,false,false,false,false,false,false,false,false,false,false,false,false,false,false,false,false,false] rfl rfl (take_ofW HT_.out HW_.out (by kernel_rfl)) (fun _ _ _ h=>h) (Or.inl ⟨by rfl,?_⟩) hHeld ?_ ?_
       rotate_left
       ·intro w' s0
        go_simp
        with_reducible rfl
       rotate_left
       ·simp only [Act.put,s1_,s2_,s3_,i64_w,i32_w]
        rfl
       refine one_ (i:=2) (N:=some 36) #[true,true,true,true,true,false,false,false,false,false,false,false,false,false,false,false,false,false,false,false,false,false,false,false,false,false,false,false] rfl rfl (one_of HT_.out (by kernel_rfl)) (by decide) (fun K hK=>?_)
       refine goes_ Try.func17 (by kernel_rfl) rfl #[.agg #[.slice Ao8 t1.length co8],.slice Ao61 t8.length co61] (by rfl) rfl rfl lm_ ?_
       with_reducible refine (impl_LeavesOf.calls kj4 _ _ t1 _ _ t8 t20 _ ?side1 ?side2 ?side3 ?side4 A33.out).mono ?_
       (case side1=>exact cc_ (Kd.R_reads' Z8.out).2.2)
       (case side2=>exact (Kd.R_reads' Z8.out).2.1)
       (case side3=>exact cc_ (Kd.R_reads' HO_5.out).2.2)
       (case side4=>exact (Kd.R_reads' HO_5.out).2.1)
       rintro e w62 ⟨v21,rfl,ho0,hb⟩
       refine ⟨_,rfl,?_⟩
       have n0_:=rb_ HO_4 hb
       have n1_:=rb_ HO_5 hb
       have n2_:=rb_ Z8 hb
       have n3_:=a0_ (Kd.R_lower ho0 (below_size hb_))
       have n4_:=kb_ BK7 hb
       have n5_:=a0_ (below_step hb_ hb)
       clear HO_4
       clear HO_5
       clear Z8
       clear BK7
       clear HB
       have HO_4:=n0_
       have HO_5:=n1_
       have Z8:=n2_
       have HO22:=n3_
       have BK7:=n4_
       have HB:=n5_
       clear n0_ n1_ n2_ n3_ n4_ n5_
       (try clear hb)
       (try clear hb2)
       (try clear hk)
       (try clear hi)
       (try clear ho0)
       refine hK.out _ _ ((blk_cell BK7.out 0).trans rfl) (fun hHeld=>?_)
       clear hK K
       refine norm_ (a':=?_) ?_ ?_
       rotate_left
       ·show Act.put _ (some 36) _ = _
        simp only [Act.put,s1_,s2_,s3_,i64_w,i32_w]
        rfl
       refine one_ (i:=5) (N:=some 39) #[true,true,true,true,true,true,false,false,false,false,false,false,false,false,false,false,false,false,false,false,false,false,false,false,false,false,false,false] rfl rfl (one_of HT_.out (by kernel_rfl)) (by decide) (fun K hK=>?_)
       refine goes_ Try.func17 (by kernel_rfl) rfl #[.agg #[.slice Ao8 t1.length co8],.slice Ao10 t4.length co10] (by rfl) rfl rfl lm_ ?_
       with_reducible refine (impl_LeavesOf.calls kj4 _ _ t1 _ _ t4 t23 _ ?side1 ?side2 ?side3 ?side4 A34.out).mono ?_
       (case side1=>exact cc_ (Kd.R_reads' Z8.out).2.2)
       (case side2=>exact (Kd.R_reads' Z8.out).2.1)
       (case side3=>exact cc_ (Kd.R_reads' HO_4.out).2.2)
       (case side4=>exact (Kd.R_reads' HO_4.out).2.1)
       rintro e w63 ⟨v24,rfl,ho0,hb⟩
       refine ⟨_,rfl,?_⟩
       have n0_:=rb_ HO_4 hb
       have n1_:=rb_ HO_5 hb
       have n2_:=rb_ Z8 hb
       have n3_:=a0_ (Kd.R_elder' (rr_ HO22.out) (Kd.R_base ho0) hb)
       have n4_:=a0_ (Kd.R_lower (Kd.R_new' ho0 (Kd.R_lt (rr_ HO22.out))) (below_size hb_))
       have n5_:=kb_ BK7 hb
       have n6_:=a0_ (below_step hb_ hb)
       clear HO_4
       clear HO_5
       clear Z8
       clear HO22
       clear BK7
       clear HB
       have HO_4:=n0_
       have HO_5:=n1_
       have Z8:=n2_
       have HO22:=n3_
       have HO25:=n4_
       have BK7:=n5_
       have HB:=n6_
       clear n0_ n1_ n2_ n3_ n4_ n5_ n6_
       (try clear hb)
       (try clear hb2)
       (try clear hk)
       (try clear hi)
       (try clear ho0)
       obtain ⟨Ao64,co64,eo64⟩:=Kd.R_slice HO22.out
       (first | subst eo64 | (injection eo64 with f1_ f2_ f3_;have f4_:=f1_.symm;have f5_:=f3_.symm;clear f1_ f2_ f3_;subst f4_;subst f5_))
       obtain ⟨Ao65,co65,eo65⟩:=Kd.R_slice HO25.out
       (first | subst eo65 | (injection eo65 with f1_ f2_ f3_;have f4_:=f1_.symm;have f5_:=f3_.symm;clear f1_ f2_ f3_;subst f4_;subst f5_))
       refine hK.out _ _ ((blk_cell BK7.out 0).trans rfl) (fun hHeld=>?_)
       clear hK K
       refine norm_ (a':=?_) ?_ ?_
       rotate_left
       ·show Act.put _ (some 39) _ = _
        simp only [Act.put,s1_,s2_,s3_,i64_w,i32_w]
        rfl
       refine one_ (i:=6) (N:=some 40) #[true,true,true,true,true,true,true,false,false,false,false,false,false,false,false,false,false,false,false,false,false,false,false,false,false,false,false,false] rfl rfl (one_of HT_.out (by kernel_rfl)) (by decide) (fun K hK=>?_)
       refine goes_ Try.func16 (by kernel_rfl) rfl #[.slice Ao64 t20.length co64,.slice Ao65 t23.length co65] (by rfl) rfl rfl lm_ ?_
       with_reducible refine (laws_equalLeaves.calls kj4 _ _ t20 _ _ t23 true _ ?side1 ?side2 ?side3 ?side4 A35.out).mono ?_
       (case side1=>exact cc_ (Kd.R_reads' HO22.out).2.2)
       (case side2=>exact (Kd.R_reads' HO22.out).2.1)
       (case side3=>exact cc_ (Kd.R_reads' HO25.out).2.2)
       (case side4=>exact (Kd.R_reads' HO25.out).2.1)
       rintro e w' ⟨rfl,⟨nd,rfl⟩⟩
       refine ⟨_,rfl,?_⟩
       refine hK.out _ _ ((blk_cell BK7.out 0).trans rfl) (fun hHeld=>?_)
       clear hK K
       refine norm_ (a':=?_) ?_ ?_
       rotate_left
       ·show Act.put _ (some 40) _ = _
        simp only [Act.put,s1_,s2_,s3_,i64_w,i32_w]
        rfl
       refine pure_ (i:=7) (N:=some 41) (v:=?_) (a':=?_) #[true,true,true,true,true,true,true,true,false,false,false,false,false,false,false,false,false,false,false,false,false,false,false,false,false,false,false,false] rfl rfl (any_of HT_.out (by kernel_rfl)) (fun _ _ _ h=>h) (Or.inl ⟨by rfl,?_⟩) ?_ ?_
       rotate_left
       ·intro w'
        go_simp
        with_reducible rfl
       rotate_left
       ·simp only [Act.put,s1_,s2_,s3_,i64_w,i32_w]
        rfl
       refine pure_ (i:=9) (N:=some 43) (v:=?_) (a':=?_) #[true,true,true,true,true,true,true,true,false,true,false,false,false,false,false,false,false,false,false,false,false,false,false,false,false,false,false,false] rfl rfl (any_of HT_.out (by kernel_rfl)) (fun _ _ _ h=>h) (Or.inl ⟨by rfl,?_⟩) ?_ ?_
       rotate_left
       ·intro w'
        go_simp
        with_reducible rfl
       rotate_left
       ·simp only [Act.put,s1_,s2_,s3_,i64_w,i32_w]
        rfl
       refine take_ (i:=8) (N:=some 42) (v:=?_) (a':=?_) #[true,true,true,true,true,true,true,true,true,true,false,false,false,false,false,false,false,false,false,false,false,false,false,false,false,false,false,false] rfl rfl (take_ofW HT_.out HW_.out (by kernel_rfl)) (fun _ _ _ h=>h) (Or.inl ⟨by rfl,?_⟩) hHeld ?_ ?_
       rotate_left
       ·intro w' s0
        go_simp
        with_reducible rfl
       rotate_left
       ·simp only [Act.put,s1_,s2_,s3_,i64_w,i32_w]
        rfl
       refine one_ (i:=10) (N:=some 44) #[true,true,true,true,true,true,true,true,true,true,true,false,false,false,false,false,false,false,false,false,false,false,false,false,false,false,false,false] rfl rfl (one_of HT_.out (by kernel_rfl)) (by decide) (fun K hK=>?_)
       refine goes_ Try.func18 (by kernel_rfl) rfl #[.agg #[.slice Ao8 t1.length co8],.slice Ao61 t8.length co61] (by rfl) rfl rfl lm_ ?_
       with_reducible refine (impl_GroupDepth.calls kj4 _ _ t1 _ _ t8 t27 _ ?side1 ?side2 ?side3 ?side4 A37.out).mono ?_
       (case side1=>exact cc_ (Kd.R_reads' Z8.out).2.2)
       (case side2=>exact (Kd.R_reads' Z8.out).2.1)
       (case side3=>exact cc_ (Kd.R_reads' HO_5.out).2.2)
       (case side4=>exact (Kd.R_reads' HO_5.out).2.1)
       rintro e w66 ⟨rfl,hb⟩
       refine ⟨_,rfl,?_⟩
       have n0_:=rb_ HO_4 hb
       have n1_:=rb_ HO_5 hb
       have n2_:=rb_ Z8 hb
       have n3_:=rb_ HO22 hb
       have n4_:=rb_ HO25 hb
       have n5_:=kb_ BK7 hb
       have n6_:=a0_ (below_step hb_ hb)
       clear HO_4
       clear HO_5
       clear Z8
       clear HO22
       clear HO25
       clear BK7
       clear HB
       have HO_4:=n0_
       have HO_5:=n1_
       have Z8:=n2_
       have HO22:=n3_
       have HO25:=n4_
       have BK7:=n5_
       have HB:=n6_
       clear n0_ n1_ n2_ n3_ n4_ n5_ n6_
       (try clear hb)
       (try clear hb2)
       (try clear hk)
       (try clear hi)
       refine hK.out _ _ ((blk_cell BK7.out 0).trans rfl) (fun hHeld=>?_)
       clear hK K
       refine norm_ (a':=?_) ?_ ?_
       rotate_left
       ·show Act.put _ (some 44) _ = _
        simp only [Act.put,s1_,s2_,s3_,i64_w,i32_w]
        rfl
       refine pure_ (i:=11) (N:=some 45) (v:=?_) (a':=?_) #[true,true,true,true,true,true,true,true,true,true,true,true,false,false,false,false,false,false,false,false,false,false,false,false,false,false,false,false] rfl rfl (any_of HT_.out (by kernel_rfl)) (fun _ _ _ h=>h) (Or.inl ⟨by rfl,?_⟩) ?_ ?_
       rotate_left
       ·intro w'
        go_simp
        with_reducible rfl
       rotate_left
       ·simp only [Act.put,s1_,s2_,s3_,i64_w,i32_w]
        rfl
       refine pure_ (i:=12) (N:=some 46) (v:=?_) (a':=?_) #[true,true,true,true,true,true,true,true,true,true,true,true,true,false,false,false,false,false,false,false,false,false,false,false,false,false,false,false] rfl rfl (any_of HT_.out (by kernel_rfl)) (fun _ _ _ h=>h) (Or.inl ⟨by rfl,?_⟩) ?_ ?_
       rotate_left
       ·intro w'
        go_simp
        with_reducible rfl
       rotate_left
       ·simp only [Act.put,s1_,s2_,s3_,i64_w,i32_w]
        rfl
       refine pure_ (i:=13) (N:=some 47) (v:=?_) (a':=?_) #[true,true,true,true,true,true,true,true,true,true,true,true,true,true,false,false,false,false,false,false,false,false,false,false,false,false,false,false] rfl rfl (any_of HT_.out (by kernel_rfl)) (fun _ _ _ h=>h) (Or.inl ⟨by rfl,?_⟩) ?_ ?_
       rotate_left
       ·intro w'
        go_simp
        with_reducible rfl
       rotate_left
       ·simp only [Act.put,s1_,s2_,s3_,i64_w,i32_w]
        rfl
       refine pure_ (i:=14) (N:=some 48) (v:=undef) (a':=?_) #[true,true,true,true,true,true,true,true,true,true,true,true,true,true,true,false,false,false,false,false,false,false,false,false,false,false,false,false] rfl rfl (any_of HT_.out (by kernel_rfl)) (fun _ _ _ h=>h) (Or.inr ⟨by rfl,rfl⟩) ?_ ?_
       rotate_left
       ·simp only [Act.put,s1_,s2_,s3_,i64_w,i32_w]
        rfl
       refine pure_ (i:=15) (N:=some 49) (v:=undef) (a':=?_) #[true,true,true,true,true,true,true,true,true,true,true,true,true,true,true,true,false,false,false,false,false,false,false,false,false,false,false,false] rfl rfl (any_of HT_.out (by kernel_rfl)) (fun _ _ _ h=>h) (Or.inr ⟨by rfl,rfl⟩) ?_ ?_
       rotate_left
       ·simp only [Act.put,s1_,s2_,s3_,i64_w,i32_w]
        rfl
       refine pure_ (i:=16) (N:=some 50) (v:=undef) (a':=?_) #[true,true,true,true,true,true,true,true,true,true,true,true,true,true,true,true,true,false,false,false,false,false,false,false,false,false,false,false] rfl rfl (any_of HT_.out (by kernel_rfl)) (fun _ _ _ h=>h) (Or.inr ⟨by rfl,rfl⟩) ?_ ?_
       rotate_left
       ·simp only [Act.put,s1_,s2_,s3_,i64_w,i32_w]
        rfl
       refine pure_ (i:=17) (N:=some 51) (v:=undef) (a':=?_) #[true,true,true,true,true,true,true,true,true,true,true,true,true,true,true,true,true,true,false,false,false,false,false,false,false,false,false,false] rfl rfl (any_of HT_.out (by kernel_rfl)) (fun _ _ _ h=>h) (Or.inr ⟨by rfl,rfl⟩) ?_ ?_
       rotate_left
       ·simp only [Act.put,s1_,s2_,s3_,i64_w,i32_w]
        rfl
       refine pure_ (i:=18) (N:=some 52) (v:=undef) (a':=?_) #[true,true,true,true,true,true,true,true,true,true,true,true,true,true,true,true,true,true,true,false,false,false,false,false,false,false,false,false] rfl rfl (any_of HT_.out (by kernel_rfl)) (fun _ _ _ h=>h) (Or.inr ⟨by rfl,rfl⟩) ?_ ?_
       rotate_left
       ·simp only [Act.put,s1_,s2_,s3_,i64_w,i32_w]
        rfl
       refine pure_ (i:=19) (N:=some 53) (v:=?_) (a':=?_) #[true,true,true,true,true,true,true,true,true,true,true,true,true,true,true,true,true,true,true,true,false,false,false,false,false,false,false,false] rfl rfl (any_of HT_.out (by kernel_rfl)) (fun _ _ _ h=>h) (Or.inl ⟨by rfl,?_⟩) ?_ ?_
       rotate_left
       ·intro w'
        go_simp
        with_reducible rfl
       rotate_left
       ·simp only [Act.put,s1_,s2_,s3_,i64_w,i32_w]
        rfl
       refine pure_ (i:=20) (N:=some 54) (v:=?_) (a':=?_) #[true,true,true,true,true,true,true,true,true,true,true,true,true,true,true,true,true,true,true,true,true,false,false,false,false,false,false,false] rfl rfl (any_of HT_.out (by kernel_rfl)) (fun _ _ _ h=>h) (Or.inl ⟨by rfl,?_⟩) ?_ ?_
       rotate_left
       ·intro w'
        go_simp
        with_reducible rfl
       rotate_left
       ·simp only [Act.put,s1_,s2_,s3_,i64_w,i32_w]
        rfl
       refine pure_ (i:=21) (N:=some 55) (v:=undef) (a':=?_) #[true,true,true,true,true,true,true,true,true,true,true,true,true,true,true,true,true,true,true,true,true,true,false,false,false,false,false,false] rfl rfl (any_of HT_.out (by kernel_rfl)) (fun _ _ _ h=>h) (Or.inr ⟨by rfl,rfl⟩) ?_ ?_
       rotate_left
       ·simp only [Act.put,s1_,s2_,s3_,i64_w,i32_w]
        rfl
       refine pure_ (i:=22) (N:=some 56) (v:=undef) (a':=?_) #[true,true,true,true,true,true,true,true,true,true,true,true,true,true,true,true,true,true,true,true,true,true,true,false,false,false,false,false] rfl rfl (any_of HT_.out (by kernel_rfl)) (fun _ _ _ h=>h) (Or.inr ⟨by rfl,rfl⟩) ?_ ?_
       rotate_left
       ·simp only [Act.put,s1_,s2_,s3_,i64_w,i32_w]
        rfl
       refine pure_ (i:=23) (N:=some 57) (v:=undef) (a':=?_) #[true,true,true,true,true,true,true,true,true,true,true,true,true,true,true,true,true,true,true,true,true,true,true,true,false,false,false,false] rfl rfl (any_of HT_.out (by kernel_rfl)) (fun _ _ _ h=>h) (Or.inr ⟨by rfl,rfl⟩) ?_ ?_
       rotate_left
       ·simp only [Act.put,s1_,s2_,s3_,i64_w,i32_w]
        rfl
       refine pure_ (i:=24) (N:=some 58) (v:=undef) (a':=?_) #[true,true,true,true,true,true,true,true,true,true,true,true,true,true,true,true,true,true,true,true,true,true,true,true,true,false,false,false] rfl rfl (any_of HT_.out (by kernel_rfl)) (fun _ _ _ h=>h) (Or.inr ⟨by rfl,rfl⟩) ?_ ?_
       rotate_left
       ·simp only [Act.put,s1_,s2_,s3_,i64_w,i32_w]
        rfl
       refine pure_ (i:=25) (N:=some 59) (v:=undef) (a':=?_) #[true,true,true,true,true,true,true,true,true,true,true,true,true,true,true,true,true,true,true,true,true,true,true,true,true,true,false,false] rfl rfl (any_of HT_.out (by kernel_rfl)) (fun _ _ _ h=>h) (Or.inr ⟨by rfl,rfl⟩) ?_ ?_
       rotate_left
       ·simp only [Act.put,s1_,s2_,s3_,i64_w,i32_w]
        rfl
       refine pure_ (i:=26) (N:=some 60) (v:=?_) (a':=?_) #[true,true,true,true,true,true,true,true,true,true,true,true,true,true,true,true,true,true,true,true,true,true,true,true,true,true,true,false] rfl rfl (any_of HT_.out (by kernel_rfl)) (fun _ _ _ h=>h) (Or.inl ⟨by rfl,?_⟩) ?_ ?_
       rotate_left
       ·intro w'
        go_simp
        with_reducible rfl
       rotate_left
       ·simp only [Act.put,s1_,s2_,s3_,i64_w,i32_w]
        rfl
       refine pure_ (i:=27) (N:=some 2) (v:=?_) (a':=?_) #[true,true,true,true,true,true,true,true,true,true,true,true,true,true,true,true,true,true,true,true,true,true,true,true,true,true,true,true] rfl rfl (any_of HT_.out (by kernel_rfl)) (fun _ _ _ h=>h) (Or.inl ⟨by rfl,?_⟩) ?_ ?_
       rotate_left
       ·intro w'
        go_simp
        with_reducible rfl
       rotate_left
       ·simp only [Act.put,s1_,s2_,s3_,i64_w,i32_w]
        rfl
       refine done_ (done_of HT_.out (by kernel_rfl)) ?_
       try go_wp2
       go_ret
       exact ⟨by first | rfl | (simp [errW_none,errW_some] <;> rfl) | (simp [*,errW_none,errW_some] <;> rfl),hb_⟩
     ·replace c36:=Bool.eq_false_iff.mpr c36
      subst c36
      have H1 : (some false) = some r:=by rw [if_neg (show ¬ (false = true) by decide)] at H;exact H
      clear H
      have H:=H1
      clear H1
      obtain rfl:=Option.some.inj H
      try go_wp2
      have n0_:=a0_ (Kd.R_drew HO_4.out)
      have n1_:=a0_ (Kd.R_drew HO_5.out)
      have n2_:=a0_ (Kd.R_drew Z8.out)
      have n3_:=a0_ (blk_drew BK7.out)
      have n4_:=a0_ (below_drew1 HB.out)
      clear HO_4
      clear HO_5
      clear Z8
      clear BK7
      clear HB
      have HO_4:=n0_
      have HO_5:=n1_
      have Z8:=n2_
      have BK7:=n3_
      have HB:=n4_
      clear n0_ n1_ n2_ n3_ n4_
      obtain ⟨Ao68,co68,eo68⟩:=Kd.R_slice HO_5.out
      (first | subst eo68 | (injection eo68 with f1_ f2_ f3_;have f4_:=f1_.symm;have f5_:=f3_.symm;clear f1_ f2_ f3_;subst f4_;subst f5_))
      refine start_ (n:=28) (S:=fun w'=>w'.cell? ⟨gb7,0,none⟩ = some (.slice Ao8 t1.length co8)) (ds:=[]) #[false,false,false,false,false,false,false,false,false,false,false,false,false,false,false,false,false,false,false,false,false,false,false,false,false,false,false,false] (by kernel_rfl) rfl rfl ((blk_cell BK7.out 0).trans rfl) (fun hHeld=>?_);refine with_tabW laws_FnFlattenGroup.tab7 laws_FnFlattenGroup.bits7 (fun HT_ HW_=>?_)
      generalize wc.drew = w67 at HO_4 HO_5 Z8 BK7 HB hHeld ⊢
      refine pure_ (i:=1) (N:=some 35) (v:=?_) (a':=?_) #[false,true,false,false,false,false,false,false,false,false,false,false,false,false,false,false,false,false,false,false,false,false,false,false,false,false,false,false] rfl rfl (any_of HT_.out (by kernel_rfl)) (fun _ _ _ h=>h) (Or.inl ⟨by rfl,?_⟩) ?_ ?_
      rotate_left
      ·intro w'
       go_simp
       with_reducible rfl
      rotate_left
      ·simp only [Act.put,s1_,s2_,s3_,i64_w,i32_w]
       rfl
      refine pure_ (i:=4) (N:=some 38) (v:=?_) (a':=?_) #[false,true,false,false,true,false,false,false,false,false,false,false,false,false,false,false,false,false,false,false,false,false,false,false,false,false,false,false] rfl rfl (any_of HT_.out (by kernel_rfl)) (fun _ _ _ h=>h) (Or.inl ⟨by rfl,?_⟩) ?_ ?_
      rotate_left
      ·intro w'
       go_simp
       with_reducible rfl
      rotate_left
      ·simp only [Act.put,s1_,s2_,s3_,i64_w,i32_w]
       rfl
      refine take_ (i:=0) (N:=some 34) (v:=?_) (a':=?_) #[true,true,false,false,true,false,false,false,false,false,false,false,false,false,false,false,false,false,false,false,false,false,false,false,false,false,false,false] rfl rfl (take_ofW HT_.out HW_.out (by kernel_rfl)) (fun _ _ _ h=>h) (Or.inl ⟨by rfl,?_⟩) hHeld ?_ ?_
      rotate_left
      ·intro w' s0
       go_simp
       with_reducible rfl
      rotate_left
      ·simp only [Act.put,s1_,s2_,s3_,i64_w,i32_w]
       rfl
      refine take_ (i:=3) (N:=some 37) (v:=?_) (a':=?_) #[true,true,false,true,true,false,false,false,false,false,false,false,false,false,false,false,false,false,false,false,false,false,false,false,false,false,false,false] rfl rfl (take_ofW HT_.out HW_.out (by kernel_rfl)) (fun _ _ _ h=>h) (Or.inl ⟨by rfl,?_⟩) hHeld ?_ ?_
      rotate_left
      ·intro w' s0
       go_simp
       with_reducible rfl
      rotate_left
      ·simp only [Act.put,s1_,s2_,s3_,i64_w,i32_w]
       rfl
      refine one_ (i:=2) (N:=some 36) #[true,true,true,true,true,false,false,false,false,false,false,false,false,false,false,false,false,false,false,false,false,false,false,false,false,false,false,false] rfl rfl (one_of HT_.out (by kernel_rfl)) (by decide) (fun K hK=>?_)
      refine goes_ Try.func17 (by kernel_rfl) rfl #[.agg #[.slice Ao8 t1.length co8],.slice Ao68 t8.length co68] (by rfl) rfl rfl lm_ ?_
      with_reducible refine (impl_LeavesOf.calls kj4 _ _ t1 _ _ t8 t20 _ ?side1 ?side2 ?side3 ?side4 A33.out).mono ?_
      (case side1=>exact cc_ (Kd.R_reads' Z8.out).2.2)
      (case side2=>exact (Kd.R_reads' Z8.out).2.1)
      (case side3=>exact cc_ (Kd.R_reads' HO_5.out).2.2)
      (case side4=>exact (Kd.R_reads' HO_5.out).2.1)
      rintro e w69 ⟨v21,rfl,ho0,hb⟩
      refine ⟨_,rfl,?_⟩
      have n0_:=rb_ HO_4 hb
      have n1_:=rb_ HO_5 hb
      have n2_:=rb_ Z8 hb
      have n3_:=a0_ (Kd.R_lower ho0 (below_size hb_))
      have n4_:=kb_ BK7 hb
      have n5_:=a0_ (below_step hb_ hb)
      clear HO_4
      clear HO_5
      clear Z8
      clear BK7
      clear HB
      have HO_4:=n0_
      have HO_5:=n1_
      have Z8:=n2_
      have HO22:=n3_
      have BK7:=n4_
      have HB:=n5_
      clear n0_ n1_ n2_ n3_ n4_ n5_
      (try clear hb)
      (try clear hb2)
      (try clear hk)
      (try clear hi)
      (try clear ho0)
      refine hK.out _ _ ((blk_cell BK7.out 0).trans rfl) (fun hHeld=>?_)
      clear hK K
      refine norm_ (a':=?_) ?_ ?_
      rotate_left
      ·show Act.put _ (some 36) _ = _
       simp only [Act.put,s1_,s2_,s3_,i64_w,i32_w]
       rfl
      refine one_ (i:=5) (N:=some 39) #[true,true,true,true,true,true,false,false,false,false,false,false,false,false,false,false,false,false,false,false,false,false,false,false,false,false,false,false] rfl rfl (one_of HT_.out (by kernel_rfl)) (by decide) (fun K hK=>?_)
      refine goes_ Try.func17 (by kernel_rfl) rfl #[.agg #[.slice Ao8 t1.length co8],.slice Ao10 t4.length co10] (by rfl) rfl rfl lm_ ?_
      with_reducible refine (impl_LeavesOf.calls kj4 _ _ t1 _ _ t4 t23 _ ?side1 ?side2 ?side3 ?side4 A34.out).mono ?_
      (case side1=>exact cc_ (Kd.R_reads' Z8.out).2.2)
      (case side2=>exact (Kd.R_reads' Z8.out).2.1)
      (case side3=>exact cc_ (Kd.R_reads' HO_4.out).2.2)
      (case side4=>exact (Kd.R_reads' HO_4.out).2.1)
      rintro e w70 ⟨v24,rfl,ho0,hb⟩
      refine ⟨_,rfl,?_⟩
      have n0_:=rb_ HO_4 hb
      have n1_:=rb_ HO_5 hb
      have n2_:=rb_ Z8 hb
      have n3_:=a0_ (Kd.R_elder' (rr_ HO22.out) (Kd.R_base ho0) hb)
      have n4_:=a0_ (Kd.R_lower (Kd.R_new' ho0 (Kd.R_lt (rr_ HO22.out))) (below_size hb_))
      have n5_:=kb_ BK7 hb
      have n6_:=a0_ (below_step hb_ hb)
      clear HO_4
      clear HO_5
      clear Z8
      clear HO22
      clear BK7
      clear HB
      have HO_4:=n0_
      have HO_5:=n1_
      have Z8:=n2_
      have HO22:=n3_
      have HO25:=n4_
      have BK7:=n5_
      have HB:=n6_
      clear n0_ n1_ n2_ n3_ n4_ n5_ n6_
      (try clear hb)
      (try clear hb2)
      (try clear hk)
      (try clear hi)
      (try clear ho0)
      obtain ⟨Ao71,co71,eo71⟩:=Kd.R_slice HO22.out
      (first | subst eo71 | (injection eo71 with f1_ f2_ f3_;have f4_:=f1_.symm;have f5_:=f3_.symm;clear f1_ f2_ f3_;subst f4_;subst f5_))
      obtain ⟨Ao72,co72,eo72⟩:=Kd.R_slice HO25.out
      (first | subst eo72 | (injection eo72 with f1_ f2_ f3_;have f4_:=f1_.symm;have f5_:=f3_.symm;clear f1_ f2_ f3_;subst f4_;subst f5_))
      refine hK.out _ _ ((blk_cell BK7.out 0).trans rfl) (fun hHeld=>?_)
      clear hK K
      refine norm_ (a':=?_) ?_ ?_
      rotate_left
      ·show Act.put _ (some 39) _ = _
       simp only [Act.put,s1_,s2_,s3_,i64_w,i32_w]
       rfl
      refine one_ (i:=6) (N:=some 40) #[true,true,true,true,true,true,true,false,false,false,false,false,false,false,false,false,false,false,false,false,false,false,false,false,false,false,false,false] rfl rfl (one_of HT_.out (by kernel_rfl)) (by decide) (fun K hK=>?_)
      refine goes_ Try.func16 (by kernel_rfl) rfl #[.slice Ao71 t20.length co71,.slice Ao72 t23.length co72] (by rfl) rfl rfl lm_ ?_
      with_reducible refine (laws_equalLeaves.calls kj4 _ _ t20 _ _ t23 false _ ?side1 ?side2 ?side3 ?side4 A35.out).mono ?_
      (case side1=>exact cc_ (Kd.R_reads' HO22.out).2.2)
      (case side2=>exact (Kd.R_reads' HO22.out).2.1)
      (case side3=>exact cc_ (Kd.R_reads' HO25.out).2.2)
      (case side4=>exact (Kd.R_reads' HO25.out).2.1)
      rintro e w' ⟨rfl,⟨nd,rfl⟩⟩
      refine ⟨_,rfl,?_⟩
      refine hK.out _ _ ((blk_cell BK7.out 0).trans rfl) (fun hHeld=>?_)
      clear hK K
      refine norm_ (a':=?_) ?_ ?_
      rotate_left
      ·show Act.put _ (some 40) _ = _
       simp only [Act.put,s1_,s2_,s3_,i64_w,i32_w]
       rfl
      refine pure_ (i:=7) (N:=some 41) (v:=?_) (a':=?_) #[true,true,true,true,true,true,true,true,false,false,false,false,false,false,false,false,false,false,false,false,false,false,false,false,false,false,false,false] rfl rfl (any_of HT_.out (by kernel_rfl)) (fun _ _ _ h=>h) (Or.inl ⟨by rfl,?_⟩) ?_ ?_
      rotate_left
      ·intro w'
       go_simp
       with_reducible rfl
      rotate_left
      ·simp only [Act.put,s1_,s2_,s3_,i64_w,i32_w]
       rfl
      refine pure_ (i:=8) (N:=some 42) (v:=undef) (a':=?_) #[true,true,true,true,true,true,true,true,true,false,false,false,false,false,false,false,false,false,false,false,false,false,false,false,false,false,false,false] rfl rfl (any_of HT_.out (by kernel_rfl)) (fun _ _ _ h=>h) (Or.inr ⟨by rfl,rfl⟩) ?_ ?_
      rotate_left
      ·simp only [Act.put,s1_,s2_,s3_,i64_w,i32_w]
       rfl
      refine pure_ (i:=9) (N:=some 43) (v:=undef) (a':=?_) #[true,true,true,true,true,true,true,true,true,true,false,false,false,false,false,false,false,false,false,false,false,false,false,false,false,false,false,false] rfl rfl (any_of HT_.out (by kernel_rfl)) (fun _ _ _ h=>h) (Or.inr ⟨by rfl,rfl⟩) ?_ ?_
      rotate_left
      ·simp only [Act.put,s1_,s2_,s3_,i64_w,i32_w]
       rfl
      refine pure_ (i:=10) (N:=some 44) (v:=undef) (a':=?_) #[true,true,true,true,true,true,true,true,true,true,true,false,false,false,false,false,false,false,false,false,false,false,false,false,false,false,false,false] rfl rfl (any_of HT_.out (by kernel_rfl)) (fun _ _ _ h=>h) (Or.inr ⟨by rfl,rfl⟩) ?_ ?_
      rotate_left
      ·simp only [Act.put,s1_,s2_,s3_,i64_w,i32_w]
       rfl
      refine pure_ (i:=11) (N:=some 45) (v:=undef) (a':=?_) #[true,true,true,true,true,true,true,true,true,true,true,true,false,false,false,false,false,false,false,false,false,false,false,false,false,false,false,false] rfl rfl (any_of HT_.out (by kernel_rfl)) (fun _ _ _ h=>h) (Or.inr ⟨by rfl,rfl⟩) ?_ ?_
      rotate_left
      ·simp only [Act.put,s1_,s2_,s3_,i64_w,i32_w]
       rfl
      refine pure_ (i:=12) (N:=some 46) (v:=?_) (a':=?_) #[true,true,true,true,true,true,true,true,true,true,true,true,true,false,false,false,false,false,false,false,false,false,false,false,false,false,false,false] rfl rfl (any_of HT_.out (by kernel_rfl)) (fun _ _ _ h=>h) (Or.inl ⟨by rfl,?_⟩) ?_ ?_
      rotate_left
      ·intro w'
       go_simp
       with_reducible rfl
      rotate_left
      ·simp only [Act.put,s1_,s2_,s3_,i64_w,i32_w]
       rfl
      refine pure_ (i:=13) (N:=some 47) (v:=?_) (a':=?_) #[true,true,true,true,true,true,true,true,true,true,true,true,true,true,false,false,false,false,false,false,false,false,false,false,false,false,false,false] rfl rfl (any_of HT_.out (by kernel_rfl)) (fun _ _ _ h=>h) (Or.inl ⟨by rfl,?_⟩) ?_ ?_
      rotate_left
      ·intro w'
       go_simp
       with_reducible rfl
      rotate_left
      ·simp only [Act.put,s1_,s2_,s3_,i64_w,i32_w]
       rfl
      refine pure_ (i:=14) (N:=some 48) (v:=undef) (a':=?_) #[true,true,true,true,true,true,true,true,true,true,true,true,true,true,true,false,false,false,false,false,false,false,false,false,false,false,false,false] rfl rfl (any_of HT_.out (by kernel_rfl)) (fun _ _ _ h=>h) (Or.inr ⟨by rfl,rfl⟩) ?_ ?_
      rotate_left
      ·simp only [Act.put,s1_,s2_,s3_,i64_w,i32_w]
       rfl
      refine pure_ (i:=15) (N:=some 49) (v:=undef) (a':=?_) #[true,true,true,true,true,true,true,true,true,true,true,true,true,true,true,true,false,false,false,false,false,false,false,false,false,false,false,false] rfl rfl (any_of HT_.out (by kernel_rfl)) (fun _ _ _ h=>h) (Or.inr ⟨by rfl,rfl⟩) ?_ ?_
      rotate_left
      ·simp only [Act.put,s1_,s2_,s3_,i64_w,i32_w]
       rfl
      refine pure_ (i:=16) (N:=some 50) (v:=undef) (a':=?_) #[true,true,true,true,true,true,true,true,true,true,true,true,true,true,true,true,true,false,false,false,false,false,false,false,false,false,false,false] rfl rfl (any_of HT_.out (by kernel_rfl)) (fun _ _ _ h=>h) (Or.inr ⟨by rfl,rfl⟩) ?_ ?_
      rotate_left
      ·simp only [Act.put,s1_,s2_,s3_,i64_w,i32_w]
       rfl
      refine pure_ (i:=17) (N:=some 51) (v:=undef) (a':=?_) #[true,true,true,true,true,true,true,true,true,true,true,true,true,true,true,true,true,true,false,false,false,false,false,false,false,false,false,false] rfl rfl (any_of HT_.out (by kernel_rfl)) (fun _ _ _ h=>h) (Or.inr ⟨by rfl,rfl⟩) ?_ ?_
      rotate_left
      ·simp only [Act.put,s1_,s2_,s3_,i64_w,i32_w]
       rfl
      refine pure_ (i:=18) (N:=some 52) (v:=undef) (a':=?_) #[true,true,true,true,true,true,true,true,true,true,true,true,true,true,true,true,true,true,true,false,false,false,false,false,false,false,false,false] rfl rfl (any_of HT_.out (by kernel_rfl)) (fun _ _ _ h=>h) (Or.inr ⟨by rfl,rfl⟩) ?_ ?_
      rotate_left
      ·simp only [Act.put,s1_,s2_,s3_,i64_w,i32_w]
       rfl
      refine pure_ (i:=19) (N:=some 53) (v:=?_) (a':=?_) #[true,true,true,true,true,true,true,true,true,true,true,true,true,true,true,true,true,true,true,true,false,false,false,false,false,false,false,false] rfl rfl (any_of HT_.out (by kernel_rfl)) (fun _ _ _ h=>h) (Or.inl ⟨by rfl,?_⟩) ?_ ?_
      rotate_left
      ·intro w'
       go_simp
       with_reducible rfl
      rotate_left
      ·simp only [Act.put,s1_,s2_,s3_,i64_w,i32_w]
       rfl
      refine pure_ (i:=20) (N:=some 54) (v:=?_) (a':=?_) #[true,true,true,true,true,true,true,true,true,true,true,true,true,true,true,true,true,true,true,true,true,false,false,false,false,false,false,false] rfl rfl (any_of HT_.out (by kernel_rfl)) (fun _ _ _ h=>h) (Or.inl ⟨by rfl,?_⟩) ?_ ?_
      rotate_left
      ·intro w'
       go_simp
       with_reducible rfl
      rotate_left
      ·simp only [Act.put,s1_,s2_,s3_,i64_w,i32_w]
       rfl
      refine pure_ (i:=21) (N:=some 55) (v:=undef) (a':=?_) #[true,true,true,true,true,true,true,true,true,true,true,true,true,true,true,true,true,true,true,true,true,true,false,false,false,false,false,false] rfl rfl (any_of HT_.out (by kernel_rfl)) (fun _ _ _ h=>h) (Or.inr ⟨by rfl,rfl⟩) ?_ ?_
      rotate_left
      ·simp only [Act.put,s1_,s2_,s3_,i64_w,i32_w]
       rfl
      refine pure_ (i:=22) (N:=some 56) (v:=undef) (a':=?_) #[true,true,true,true,true,true,true,true,true,true,true,true,true,true,true,true,true,true,true,true,true,true,true,false,false,false,false,false] rfl rfl (any_of HT_.out (by kernel_rfl)) (fun _ _ _ h=>h) (Or.inr ⟨by rfl,rfl⟩) ?_ ?_
      rotate_left
      ·simp only [Act.put,s1_,s2_,s3_,i64_w,i32_w]
       rfl
      refine pure_ (i:=23) (N:=some 57) (v:=undef) (a':=?_) #[true,true,true,true,true,true,true,true,true,true,true,true,true,true,true,true,true,true,true,true,true,true,true,true,false,false,false,false] rfl rfl (any_of HT_.out (by kernel_rfl)) (fun _ _ _ h=>h) (Or.inr ⟨by rfl,rfl⟩) ?_ ?_
      rotate_left
      ·simp only [Act.put,s1_,s2_,s3_,i64_w,i32_w]
       rfl
      refine pure_ (i:=24) (N:=some 58) (v:=undef) (a':=?_) #[true,true,true,true,true,true,true,true,true,true,true,true,true,true,true,true,true,true,true,true,true,true,true,true,true,false,false,false] rfl rfl (any_of HT_.out (by kernel_rfl)) (fun _ _ _ h=>h) (Or.inr ⟨by rfl,rfl⟩) ?_ ?_
      rotate_left
      ·simp only [Act.put,s1_,s2_,s3_,i64_w,i32_w]
       rfl
      refine pure_ (i:=25) (N:=some 59) (v:=undef) (a':=?_) #[true,true,true,true,true,true,true,true,true,true,true,true,true,true,true,true,true,true,true,true,true,true,true,true,true,true,false,false] rfl rfl (any_of HT_.out (by kernel_rfl)) (fun _ _ _ h=>h) (Or.inr ⟨by rfl,rfl⟩) ?_ ?_
      rotate_left
      ·simp only [Act.put,s1_,s2_,s3_,i64_w,i32_w]
       rfl
      refine pure_ (i:=26) (N:=some 60) (v:=?_) (a':=?_) #[true,true,true,true,true,true,true,true,true,true,true,true,true,true,true,true,true,true,true,true,true,true,true,true,true,true,true,false] rfl rfl (any_of HT_.out (by kernel_rfl)) (fun _ _ _ h=>h) (Or.inl ⟨by rfl,?_⟩) ?_ ?_
      rotate_left
      ·intro w'
       go_simp
       with_reducible rfl
      rotate_left
      ·simp only [Act.put,s1_,s2_,s3_,i64_w,i32_w]
       rfl
      refine pure_ (i:=27) (N:=some 2) (v:=?_) (a':=?_) #[true,true,true,true,true,true,true,true,true,true,true,true,true,true,true,true,true,true,true,true,true,true,true,true,true,true,true,true] rfl rfl (any_of HT_.out (by kernel_rfl)) (fun _ _ _ h=>h) (Or.inl ⟨by rfl,?_⟩) ?_ ?_
      rotate_left
      ·intro w'
       go_simp
       with_reducible rfl
      rotate_left
      ·simp only [Act.put,s1_,s2_,s3_,i64_w,i32_w]
       rfl
      refine done_ (done_of HT_.out (by kernel_rfl)) ?_
      try go_wp2
      go_ret
      exact ⟨by first | rfl | (simp [errW_none,errW_some] <;> rfl) | (simp [*,errW_none,errW_some] <;> rfl),hb_⟩
def laws_FnFlattenGroup.Pure : Prop:=∀ (l0 : List Int),l0.length ≤ maxLen → l0.length * 1 ≤ 140737488351232 → (∀ x ∈ l0,(Lit.int .u8 x).wf = true) → ∃ k,laws_FnFlattenGroup.f k l0 = some true
theorem laws_FnFlattenGroup.walk (P : laws_FnFlattenGroup.Pure) (a0 : Option Addr) (len0 cap0 : Nat) (z0 : List Int) (w : World) (w0 : (a0 = none ∧ len0 = 0 ∧ cap0 = 0 ∧ z0 = []) ∨ ∃ x,a0 = some x ∧ len0 ≤ cap0 ∧ cap0 ≤ maxLen ∧ z0.length = cap0 ∧ (∀ i,i < z0.length → w.cell? (x.add i) = some (.int .u8 (z0.getD i 0))) ∧ ∀ n ∈ z0,(Lit.int .u8 n).wf = true) (y0 : len0 * 1 ≤ 140737488351232) :
  Calls Try.prog 3 #[.slice a0 len0 cap0] w fun e w'=>e = .returned (.bool true) ∧ Below w.heap.size w w':=by
 obtain ⟨l0,rfl,hr0,hm0,hw0,hc0⟩:=ReadsInt.ofRowC w0
 obtain ⟨k,h⟩:=P l0 hm0 y0 hw0
 refine (laws_FnFlattenGroup.calls k _ _ l0 true w (Kd.C_of_reads (d:=(0 : Int)) (h1:=fun _=>rfl) hr0) hc0 h).mono ?_
 rintro e w' ⟨rfl,hd⟩
 exact ⟨rfl,hd⟩
end Go.Proofs.Ytfphcdbnnienhaa.P
namespace Go.Proofs.Ytfphcdbnnienhaa.Pure
open Go.RowKit Go.Proofs.Ytfphcdbnnienhaa.P
open Go.Proofs.YtfphcdbnnienhaaW.PrintWords (rd rdOf wrap_succ wrap_pred wrap_in toL_beq idxP)
set_option linter.unusedVariables false
theorem FnFlattenGroup : laws_FnFlattenGroup.Pure:=by
 intro l0 _ _ hw
 refine Ev.out (F:=fun k=>laws_FnFlattenGroup.f k l0) ?_
 unfold laws_FnFlattenGroup.f
 by_cases hbig : (l0.length : Int) > 1048576
 ·exact Ev.pos hbig (Ev.const rfl)
 refine Ev.neg hbig ?_
 obtain ⟨t,g,hd,ht,hs,hg⟩:=spec_DrawFlattenGroup_ev l0 hw
 have hI:=impl_FlattenGroup_ev t g (by omega) (by omega) hs
 have hS:=spec_FlattenGroup_ev t g (by omega) hs
 have hV:=impl_ValidGroup_ev t g (by omega) (by omega) hs
 have hfl:=flatP_len t g
 refine Ev.bind hd (Ev.bind hI (Ev.bind hS (Ev.bind (laws_equalGroup_ev _ (by omega)) (Ev.pos rfl (Ev.bind hV (Ev.succ ?_))))))
 simp only [laws_FnFlattenGroup.j0]
 cases hv : vG t g with
 | false=>exact Ev.pos rfl (Ev.bind hS (Ev.bind (laws_equalGroup_ev _ (by omega)) (Ev.const rfl)))
 | true =>
  have ho:=flatP_ok hv
  rw [ho] at hfl ⊢
  have hvo:=vG_flat hv
  have hL:=impl_LeavesOf_ev t (flatL g) (by omega) (by omega) hs
  have hL2:=impl_LeavesOf_ev t g (by omega) (by omega) hs
  rw [leavesP_ok hvo,lfs_flat] at hL
  rw [leavesP_ok hv] at hL2
  have hD:=impl_GroupDepth_ev t (flatL g) (by omega) (by omega) hs hvo
  have hF:=impl_FlattenGroup_ev t (flatL g) (by omega) (by omega) hs
  rw [flatP_ok hvo,flatL_flatL] at hF
  have hll:=lfs_len g
  refine Ev.neg (by simp) (Ev.bind hL (Ev.bind hL2 (Ev.bind (laws_equalLeaves_ev _ (by omega)) (Ev.pos rfl (Ev.bind hD (Ev.pos (mxd_flat hv) (Ev.bind hF (Ev.bind (laws_equalGroup_ev _ (by omega)) (Ev.pos rfl (Ev.const ?_))))))))))
  rw [decide_eq_true (show ((flatL g).length : Int) ≤ (g.length : Int) by omega)]
end Go.Proofs.Ytfphcdbnnienhaa.Pure
